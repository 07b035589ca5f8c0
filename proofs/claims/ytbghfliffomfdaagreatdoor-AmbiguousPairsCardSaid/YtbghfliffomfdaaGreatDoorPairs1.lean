/- Packed: Tb Ta Tf Tg Td Tc Oc Kb -/
import Derived.Test.YtbghfliffomfdaaGreatDoorChk5
import Derived.Test.YtbghfliffomfdaaGreatDoorProg
set_option linter.all false
/- The program's functions as trees of our logic (group b). -/
namespace Go.Proofs.YtbghfliffomfdaaGreatDoorV
open Go
set_option maxRecDepth 100000
end Go.Proofs.YtbghfliffomfdaaGreatDoorV

/- The program's functions as trees of our logic (group a). -/
namespace Go.Proofs.YtbghfliffomfdaaGreatDoorV
open Go
set_option maxRecDepth 100000
end Go.Proofs.YtbghfliffomfdaaGreatDoorV

/- The program's functions as trees of our logic (group f). -/
namespace Go.Proofs.YtbghfliffomfdaaGreatDoorV
open Go
set_option maxRecDepth 100000
/- "retarget/retargetlaw11.AmbiguousPairs" -/
def c_retargetlaw11_AmbiguousPairs : C :=
.seq (.reg [⟨some 3, none, .box 7 (.t 0)⟩, ⟨some 6, none, .mov (.c (.pv (.bool false)))⟩]) (.seq (.seq (.reg [⟨some 17, none, .load (some 7) (.t 3)⟩, ⟨some 18, none, .callf 6 [(.t 17)]⟩]) (.cond (.t 18) (.seq (.reg [⟨some 6, none, .mov (.c (.pv (.bool true)))⟩]) (.ret)) (.skip))) (.seq (.reg [⟨some 20, none, .load (some 7) (.t 3)⟩, ⟨some 21, none, .mov (.t 1)⟩, ⟨some 22, none, .mov (.t 2)⟩, ⟨some 23, none, .callf 12 [(.t 20), (.t 21), (.t 22)]⟩, ⟨some 19, none, .mov (.t 23)⟩, ⟨some 24, none, .ext (.t 19) 0⟩, ⟨some 25, none, .ext (.t 19) 1⟩, ⟨some 26, none, .ext (.t 19) 2⟩, ⟨some 7, none, .mov (.t 24)⟩, ⟨some 8, none, .mov (.t 25)⟩, ⟨some 9, none, .mov (.t 26)⟩]) (.seq (.reg [⟨some 28, none, .load (some 7) (.t 3)⟩, ⟨some 29, none, .mov (.t 1)⟩, ⟨some 30, none, .mov (.t 2)⟩, ⟨some 31, none, .callf 13 [(.t 28), (.t 29), (.t 30)]⟩, ⟨some 27, none, .mov (.t 31)⟩, ⟨some 32, none, .ext (.t 27) 0⟩, ⟨some 33, none, .ext (.t 27) 1⟩, ⟨some 34, none, .ext (.t 27) 2⟩, ⟨some 10, none, .mov (.t 32)⟩, ⟨some 11, none, .mov (.t 33)⟩, ⟨some 12, none, .mov (.t 34)⟩]) (.seq (.reg [⟨some 36, none, .load (some 7) (.t 3)⟩, ⟨some 37, none, .callf 14 [(.t 36)]⟩, ⟨some 35, none, .mov (.t 37)⟩, ⟨some 38, none, .ext (.t 35) 0⟩, ⟨some 39, none, .ext (.t 35) 1⟩, ⟨some 13, none, .mov (.t 38)⟩, ⟨some 14, none, .mov (.t 39)⟩]) (.seq (.reg [⟨some 41, none, .load (some 7) (.t 3)⟩, ⟨some 42, none, .callf 15 [(.t 41)]⟩, ⟨some 40, none, .mov (.t 42)⟩, ⟨some 43, none, .ext (.t 40) 0⟩, ⟨some 44, none, .ext (.t 40) 1⟩, ⟨some 15, none, .mov (.t 43)⟩, ⟨some 16, none, .mov (.t 44)⟩]) (.seq (.reg [⟨some 45, none, .mov (.t 7)⟩, ⟨some 46, none, .mov (.t 10)⟩, ⟨some 47, none, .bin .eql (.t 45) (.t 46)⟩, ⟨some 48, none, .mov (.t 47)⟩, ⟨some 49, some (48, true), .mov (.t 8)⟩, ⟨some 50, some (48, true), .mov (.t 11)⟩, ⟨some 51, some (48, true), .beq false (.t 49) (.t 50)⟩, ⟨some 52, none, .land (.t 48) (.t 51)⟩, ⟨some 53, none, .mov (.t 52)⟩, ⟨some 54, some (53, true), .mov (.t 9)⟩, ⟨some 55, some (53, true), .mov (.t 12)⟩, ⟨some 56, some (53, true), .bin .eql (.t 54) (.t 55)⟩, ⟨some 57, none, .land (.t 53) (.t 56)⟩, ⟨some 58, none, .mov (.t 57)⟩, ⟨some 59, some (58, true), .mov (.t 13)⟩, ⟨some 60, some (58, true), .mov (.t 15)⟩, ⟨some 61, some (58, true), .callf 16 [(.t 59), (.t 60)]⟩, ⟨some 62, none, .land (.t 58) (.t 61)⟩, ⟨some 63, none, .mov (.t 62)⟩, ⟨some 64, some (63, true), .mov (.t 14)⟩, ⟨some 65, some (63, true), .mov (.t 16)⟩, ⟨some 66, some (63, true), .bin .eql (.t 64) (.t 65)⟩, ⟨some 67, none, .land (.t 63) (.t 66)⟩, ⟨some 6, none, .mov (.t 67)⟩]) (.ret)))))))
theorem k_retargetlaw11_AmbiguousPairs : FnOk Tryz.prog 4 68 c_retargetlaw11_AmbiguousPairs [.tmp 6] := .mk' (fn := Tryz.f4) rfl rfl (by kernel_rfl) rfl (by kernel_rfl) (by kernel_rfl)
end Go.Proofs.YtbghfliffomfdaaGreatDoorV

/- The program's functions as trees of our logic (group g). -/
namespace Go.Proofs.YtbghfliffomfdaaGreatDoorV
open Go
set_option maxRecDepth 100000
/- "retarget/retargetref11.Common" -/
def c_retargetref11_Common : C :=
.seq (.reg [⟨some 3, none, .box 7 (.t 0)⟩, ⟨some 6, none, .mov (.c (.pv (.int .u64 0)))⟩, ⟨some 7, none, .mov (.c (.pv (.bool false)))⟩, ⟨some 8, none, .mov (.c (.pv (.int .i64 0)))⟩]) (.seq (.reg [⟨some 11, none, .load (some 7) (.t 3)⟩, ⟨some 12, none, .callf 28 [(.t 11)]⟩, ⟨some 9, none, .mov (.t 12)⟩]) (.seq (.seq (.reg [⟨some 13, none, .mov (.t 9)⟩, ⟨some 14, none, .bin .eql (.t 13) (.c (.pv (.int .i64 0)))⟩, ⟨some 15, none, .mov (.t 14)⟩, ⟨some 16, some (15, true), .mov (.t 1)⟩, ⟨some 17, some (15, true), .fad 6 (.t 3)⟩, ⟨some 18, some (15, true), .load none (.t 17)⟩, ⟨some 19, some (15, true), .len (.t 18)⟩, ⟨some 20, some (15, true), .bin .sub (.t 19) (.c (.pv (.int .i64 1)))⟩, ⟨some 21, some (15, true), .callf 29 [(.t 16), (.c (.pv (.int .i64 0))), (.t 20)]⟩, ⟨some 22, some (15, true), .un .not (.t 21)⟩, ⟨some 23, some (15, true), .mov (.t 22)⟩, ⟨some 24, some (23, false), .mov (.t 2)⟩, ⟨some 25, some (23, false), .fad 6 (.t 3)⟩, ⟨some 26, some (23, false), .load none (.t 25)⟩, ⟨some 27, some (23, false), .len (.t 26)⟩, ⟨some 28, some (23, false), .bin .sub (.t 27) (.c (.pv (.int .i64 1)))⟩, ⟨some 29, some (23, false), .callf 29 [(.t 24), (.c (.pv (.int .i64 0))), (.t 28)]⟩, ⟨some 30, some (23, false), .un .not (.t 29)⟩, ⟨some 31, some (15, true), .lor (.t 23) (.t 30)⟩, ⟨some 32, none, .land (.t 15) (.t 31)⟩]) (.cond (.t 32) (.reg [⟨some 9, none, .mov (.c (.pv (.int .i64 2)))⟩]) (.skip))) (.seq (.seq (.reg [⟨some 33, none, .mov (.t 9)⟩, ⟨some 34, none, .bin .neq (.t 33) (.c (.pv (.int .i64 0)))⟩]) (.cond (.t 34) (.seq (.reg [⟨some 35, none, .mov (.t 9)⟩, ⟨some 6, none, .mov (.c (.pv (.int .u64 0)))⟩, ⟨some 7, none, .mov (.c (.pv (.bool false)))⟩, ⟨some 8, none, .mov (.t 35)⟩]) (.ret)) (.skip))) (.seq (.dreg [⟨some 36, none, .fad 6 (.t 3)⟩, ⟨some 37, none, .load none (.t 36)⟩, ⟨some 38, none, .mov (.t 1)⟩, ⟨some 39, none, .iad 9 (.t 37) (.t 38)⟩, ⟨some 40, none, .load (some 9) (.t 39)⟩, ⟨some 41, none, .fad 6 (.t 3)⟩, ⟨some 42, none, .load none (.t 41)⟩, ⟨some 43, none, .mov (.t 2)⟩, ⟨some 44, none, .iad 9 (.t 42) (.t 43)⟩, ⟨some 45, none, .load (some 9) (.t 44)⟩, ⟨some 46, none, .callf 37 [(.t 40), (.t 45)]⟩, ⟨some 10, none, .mov (.t 46)⟩] [[], [0], [], [0, 1, 2], [0, 1, 2, 3], [], [5], [], [5, 6, 7], [5, 6, 7, 8], [0, 1, 2, 3, 4, 5, 6, 7, 8, 9], [0, 1, 2, 3, 4, 5, 6, 7, 8, 9, 10]]) (.seq (.seq (.dreg [⟨some 47, none, .load (some 7) (.t 3)⟩, ⟨some 48, none, .fad 6 (.t 3)⟩, ⟨some 49, none, .load none (.t 48)⟩, ⟨some 50, none, .mov (.t 1)⟩, ⟨some 51, none, .iad 9 (.t 49) (.t 50)⟩, ⟨some 52, none, .load (some 9) (.t 51)⟩, ⟨some 53, none, .mov (.t 10)⟩, ⟨some 54, none, .callf 31 [(.t 47), (.t 52), (.t 53)]⟩, ⟨some 55, none, .un .not (.t 54)⟩, ⟨some 56, none, .mov (.t 55)⟩, ⟨some 57, some (56, false), .load (some 7) (.t 3)⟩, ⟨some 58, some (56, false), .fad 6 (.t 3)⟩, ⟨some 59, some (56, false), .load none (.t 58)⟩, ⟨some 60, some (56, false), .mov (.t 2)⟩, ⟨some 61, some (56, false), .iad 9 (.t 59) (.t 60)⟩, ⟨some 62, some (56, false), .load (some 9) (.t 61)⟩, ⟨some 63, some (56, false), .mov (.t 10)⟩, ⟨some 64, some (56, false), .callf 31 [(.t 57), (.t 62), (.t 63)]⟩, ⟨some 65, some (56, false), .un .not (.t 64)⟩, ⟨some 66, none, .lor (.t 56) (.t 65)⟩] [[], [], [1], [], [1, 2, 3], [1, 2, 3, 4], [], [0, 1, 2, 3, 4, 5, 6], [0, 1, 2, 3, 4, 5, 6, 7], [0, 1, 2, 3, 4, 5, 6, 7, 8], [0, 1, 2, 3, 4, 5, 6, 7, 8, 9], [0, 1, 2, 3, 4, 5, 6, 7, 8, 9], [0, 1, 2, 3, 4, 5, 6, 7, 8, 9, 11], [0, 1, 2, 3, 4, 5, 6, 7, 8, 9], [0, 1, 2, 3, 4, 5, 6, 7, 8, 9, 11, 12, 13], [0, 1, 2, 3, 4, 5, 6, 7, 8, 9, 11, 12, 13, 14], [0, 1, 2, 3, 4, 5, 6, 7, 8, 9], [0, 1, 2, 3, 4, 5, 6, 7, 8, 9, 10, 11, 12, 13, 14, 15, 16], [0, 1, 2, 3, 4, 5, 6, 7, 8, 9, 10, 11, 12, 13, 14, 15, 16, 17], [0, 1, 2, 3, 4, 5, 6, 7, 8, 9, 10, 11, 12, 13, 14, 15, 16, 17, 18]]) (.cond (.t 66) (.seq (.reg [⟨some 6, none, .mov (.c (.pv (.int .u64 0)))⟩, ⟨some 7, none, .mov (.c (.pv (.bool false)))⟩, ⟨some 8, none, .mov (.c (.pv (.int .i64 0)))⟩]) (.ret)) (.skip))) (.seq (.reg [⟨some 67, none, .mov (.t 10)⟩, ⟨some 6, none, .mov (.t 67)⟩, ⟨some 7, none, .mov (.c (.pv (.bool true)))⟩, ⟨some 8, none, .mov (.c (.pv (.int .i64 0)))⟩]) (.ret)))))))
theorem k_retargetref11_Common : FnOk Tryz.prog 13 68 c_retargetref11_Common [.tmp 6, .tmp 7, .tmp 8] := .mk' (fn := Tryz.f13) rfl rfl (by kernel_rfl) rfl (by kernel_rfl) (by kernel_rfl)
/- "retarget/retargetref11.Clashes" -/
def c_retargetref11_Clashes : C :=
.seq (.reg [⟨some 1, none, .box 7 (.t 0)⟩, ⟨some 2, none, .mov (.c (.nilS 3))⟩, ⟨some 3, none, .mov (.c (.pv (.int .i64 0)))⟩]) (.seq (.reg [⟨some 9, none, .load (some 7) (.t 1)⟩, ⟨some 10, none, .callf 28 [(.t 9)]⟩, ⟨some 4, none, .mov (.t 10)⟩]) (.seq (.seq (.reg [⟨some 11, none, .mov (.t 4)⟩, ⟨some 12, none, .bin .neq (.t 11) (.c (.pv (.int .i64 0)))⟩]) (.cond (.t 12) (.seq (.reg [⟨some 13, none, .mov (.t 4)⟩, ⟨some 2, none, .mov (.c (.nilS 3))⟩, ⟨some 3, none, .mov (.t 13)⟩]) (.ret)) (.skip))) (.seq (.reg [⟨some 5, none, .mov (.c (.nilS 3))⟩]) (.gh (.own 5 3) (.seq (.seq (.reg [⟨some 6, none, .mov (.c (.pv (.int .i64 0)))⟩]) (.blk 0 (.loop ⟨[1, 5, 6], [0, 1], 2⟩ (.seq (.seq (.reg [⟨some 14, none, .mov (.t 6)⟩, ⟨some 15, none, .fad 6 (.t 1)⟩, ⟨some 16, none, .load none (.t 15)⟩, ⟨some 17, none, .len (.t 16)⟩, ⟨some 18, none, .bin .lss (.t 14) (.t 17)⟩]) (.cond (.t 18) (.skip) (.ext 0))) (.seq (.blk 1 (.seq (.reg [⟨some 21, none, .mov (.t 6)⟩, ⟨some 22, none, .bin .add (.t 21) (.c (.pv (.int .i64 1)))⟩, ⟨some 7, none, .mov (.t 22)⟩]) (.blk 2 (.loop ⟨[1, 5, 6, 7], [0, 1], 2⟩ (.seq (.seq (.reg [⟨some 23, none, .mov (.t 7)⟩, ⟨some 24, none, .fad 6 (.t 1)⟩, ⟨some 25, none, .load none (.t 24)⟩, ⟨some 26, none, .len (.t 25)⟩, ⟨some 27, none, .bin .lss (.t 23) (.t 26)⟩]) (.cond (.t 27) (.skip) (.ext 2))) (.seq (.blk 3 (.seq (.dreg [⟨some 30, none, .fad 6 (.t 1)⟩, ⟨some 31, none, .load none (.t 30)⟩, ⟨some 32, none, .mov (.t 6)⟩, ⟨some 33, none, .iad 9 (.t 31) (.t 32)⟩, ⟨some 34, none, .load (some 9) (.t 33)⟩, ⟨some 35, none, .fad 6 (.t 1)⟩, ⟨some 36, none, .load none (.t 35)⟩, ⟨some 37, none, .mov (.t 7)⟩, ⟨some 38, none, .iad 9 (.t 36) (.t 37)⟩, ⟨some 39, none, .load (some 9) (.t 38)⟩, ⟨some 40, none, .callf 37 [(.t 34), (.t 39)]⟩, ⟨some 8, none, .mov (.t 40)⟩] [[], [0], [], [0, 1, 2], [0, 1, 2, 3], [], [5], [], [5, 6, 7], [5, 6, 7, 8], [0, 1, 2, 3, 4, 5, 6, 7, 8, 9], [0, 1, 2, 3, 4, 5, 6, 7, 8, 9, 10]]) (.seq (.dreg [⟨some 41, none, .load (some 7) (.t 1)⟩, ⟨some 42, none, .fad 6 (.t 1)⟩, ⟨some 43, none, .load none (.t 42)⟩, ⟨some 44, none, .mov (.t 6)⟩, ⟨some 45, none, .iad 9 (.t 43) (.t 44)⟩, ⟨some 46, none, .load (some 9) (.t 45)⟩, ⟨some 47, none, .mov (.t 8)⟩, ⟨some 48, none, .callf 31 [(.t 41), (.t 46), (.t 47)]⟩, ⟨some 49, none, .mov (.t 48)⟩, ⟨some 50, some (49, true), .load (some 7) (.t 1)⟩, ⟨some 51, some (49, true), .fad 6 (.t 1)⟩, ⟨some 52, some (49, true), .load none (.t 51)⟩, ⟨some 53, some (49, true), .mov (.t 7)⟩, ⟨some 54, some (49, true), .iad 9 (.t 52) (.t 53)⟩, ⟨some 55, some (49, true), .load (some 9) (.t 54)⟩, ⟨some 56, some (49, true), .mov (.t 8)⟩, ⟨some 57, some (49, true), .callf 31 [(.t 50), (.t 55), (.t 56)]⟩, ⟨some 58, none, .land (.t 49) (.t 57)⟩] [[], [], [1], [], [1, 2, 3], [1, 2, 3, 4], [], [0, 1, 2, 3, 4, 5, 6], [0, 1, 2, 3, 4, 5, 6, 7], [0, 1, 2, 3, 4, 5, 6, 7, 8], [0, 1, 2, 3, 4, 5, 6, 7, 8], [0, 1, 2, 3, 4, 5, 6, 7, 8, 10], [0, 1, 2, 3, 4, 5, 6, 7, 8], [0, 1, 2, 3, 4, 5, 6, 7, 8, 10, 11, 12], [0, 1, 2, 3, 4, 5, 6, 7, 8, 10, 11, 12, 13], [0, 1, 2, 3, 4, 5, 6, 7, 8], [0, 1, 2, 3, 4, 5, 6, 7, 8, 9, 10, 11, 12, 13, 14, 15], [0, 1, 2, 3, 4, 5, 6, 7, 8, 9, 10, 11, 12, 13, 14, 15, 16]]) (.cond (.t 58) (.reg [⟨some 59, none, .mov (.t 5)⟩, ⟨some 60, none, .mov (.t 6)⟩, ⟨some 61, none, .mov (.t 7)⟩, ⟨some 62, none, .mov (.t 8)⟩, ⟨some 63, none, .build [.pv (.int .i64 0), .pv (.int .i64 0), .pv (.int .u64 0)] [((0, 1), (.t 60)), ((1, 1), (.t 61)), ((2, 1), (.t 62))]⟩, ⟨some 64, none, .lit 3 [(.t 63)]⟩, ⟨some 65, none, .app 3 24 (.t 59) (.t 64)⟩, ⟨some 5, none, .mov (.t 65)⟩]) (.skip))))) (.reg [⟨some 28, none, .mov (.t 7)⟩, ⟨some 29, none, .bin .add (.t 28) (.c (.pv (.int .i64 1)))⟩, ⟨some 7, none, .mov (.t 29)⟩]))))))) (.reg [⟨some 19, none, .mov (.t 6)⟩, ⟨some 20, none, .bin .add (.t 19) (.c (.pv (.int .i64 1)))⟩, ⟨some 6, none, .mov (.t 20)⟩])))))) (.seq (.reg [⟨some 66, none, .mov (.t 5)⟩, ⟨some 2, none, .mov (.t 66)⟩, ⟨some 3, none, .mov (.c (.pv (.int .i64 0)))⟩]) (.ret)))))))
theorem k_retargetref11_Clashes : FnOk Tryz.prog 15 67 c_retargetref11_Clashes [.tmp 2, .tmp 3] := .mk' (fn := Tryz.f15) rfl rfl (by kernel_rfl) rfl (by kernel_rfl) (by kernel_rfl)
/- "retarget/retargetref11.SameClashes" -/
def c_retargetref11_SameClashes : C :=
.seq (.reg [⟨some 4, none, .mov (.c (.pv (.bool false)))⟩]) (.seq (.seq (.reg [⟨some 6, none, .mov (.t 0)⟩, ⟨some 7, none, .len (.t 6)⟩, ⟨some 8, none, .mov (.t 1)⟩, ⟨some 9, none, .len (.t 8)⟩, ⟨some 10, none, .bin .neq (.t 7) (.t 9)⟩]) (.cond (.t 10) (.seq (.reg [⟨some 4, none, .mov (.c (.pv (.bool false)))⟩]) (.ret)) (.skip))) (.seq (.seq (.reg [⟨some 5, none, .mov (.c (.pv (.int .i64 0)))⟩]) (.blk 0 (.loop ⟨[0, 1, 5], [], 0⟩ (.seq (.seq (.reg [⟨some 11, none, .mov (.t 5)⟩, ⟨some 12, none, .mov (.t 0)⟩, ⟨some 13, none, .len (.t 12)⟩, ⟨some 14, none, .bin .lss (.t 11) (.t 13)⟩]) (.cond (.t 14) (.skip) (.ext 0))) (.seq (.blk 1 (.seq (.dreg [⟨some 17, none, .mov (.t 0)⟩, ⟨some 18, none, .mov (.t 5)⟩, ⟨some 19, none, .iad 3 (.t 17) (.t 18)⟩, ⟨some 20, none, .load (some 3) (.t 19)⟩, ⟨some 21, none, .mov (.t 1)⟩, ⟨some 22, none, .mov (.t 5)⟩, ⟨some 23, none, .iad 3 (.t 21) (.t 22)⟩, ⟨some 24, none, .load (some 3) (.t 23)⟩, ⟨some 25, none, .ceq true [1, 1, 1] (.t 20) (.t 24)⟩] [[], [], [0, 1], [0, 1, 2], [], [], [4, 5], [4, 5, 6], [0, 1, 2, 3, 4, 5, 6, 7]]) (.cond (.t 25) (.seq (.reg [⟨some 4, none, .mov (.c (.pv (.bool false)))⟩]) (.ret)) (.skip)))) (.reg [⟨some 15, none, .mov (.t 5)⟩, ⟨some 16, none, .bin .add (.t 15) (.c (.pv (.int .i64 1)))⟩, ⟨some 5, none, .mov (.t 16)⟩])))))) (.seq (.reg [⟨some 4, none, .mov (.c (.pv (.bool true)))⟩]) (.ret))))
theorem k_retargetref11_SameClashes : FnOk Tryz.prog 16 26 c_retargetref11_SameClashes [.tmp 4] := .mk' (fn := Tryz.f16) rfl rfl (by kernel_rfl) rfl (by kernel_rfl) (by kernel_rfl)
end Go.Proofs.YtbghfliffomfdaaGreatDoorV

/- The program's functions as trees of our logic (group d). -/
namespace Go.Proofs.YtbghfliffomfdaaGreatDoorV
open Go
set_option maxRecDepth 100000
end Go.Proofs.YtbghfliffomfdaaGreatDoorV

/- The program's functions as trees of our logic (group c). -/
namespace Go.Proofs.YtbghfliffomfdaaGreatDoorV
open Go
set_option maxRecDepth 100000
end Go.Proofs.YtbghfliffomfdaaGreatDoorV

/- Contracts: the reference of layer 11: common words, clashes. -/
namespace Go.Proofs.YtbghfliffomfdaaGreatDoorV
open Go
set_option maxRecDepth 100000
set_option maxHeartbeats 4000000

theorem joined_law (gl : Glob) {m : Mach} {a b : Ins_} (ha : insV m a) (hb : insV m b) : ∃ W : Nat, meetW a b = W ∧ W < 2 ^ (8 * m.word).toNat ∧ PCall Tryz.prog gl 37 [.pv a.pv, .pv b.pv] (.pv (.int .u64 W)) :=
  ⟨_, meetW_nat (match_64 ha) (match_64 hb), Nat.or_lt_two_pow (match_lt ha) (match_lt hb), p_r11_joined gl a b _ _ (Int.toNat_of_nonneg (match_64 ha).1).symm (Int.toNat_of_nonneg (match_64 hb).1).symm (by have := match_64 ha; omega) (by have := match_64 hb; omega)⟩
theorem p_r11_Common (gl : Glob) (m : Mach) (a b : Int) (ht : mTerms m) : PCall Tryz.prog gl 13 [.pv m.pv, .pv (.int .i64 a), .pv (.int .i64 b)] (.tup [.pv (.int .u64 (commonW m a b)), .pv (.bool (commonB m a b)), .pv (.int .i64 (commonE m a b))]) := by
  refine k_retargetref11_Common.pcall (by simp) (by simp) (by simp) fun hwf => ?_
  have hm : m.pv.wf := by have := hwf (.pv m.pv) (by simp); simpa only [DV.wf] using this
  simp [c_retargetref11_Common]
  refine CallNext.pure (p_r8_Check gl m ht) fun _ => ?_
  by_cases hc : mcheck m = 0
  rotate_left
  · have hE : commonE m a b = mcheck m := by rw [commonE, indexE, if_neg hc, if_neg hc]
    simp [hc]
    refine ⟨.pv (.bool false), by simp, ?_⟩
    simp
    refine ⟨.pv (.bool false), by simp, ?_⟩
    simp [hc, commonW, commonB, hE]
  have hv := mach_valid hc hm
  have hlen := hv.2.1
  have hwl : IntKind.i64.wrap ((m.instrs.length : Int) - 1) = (m.instrs.length : Int) - 1 := wrap_i64 (by omega) (by omega)
  have hwd : IntKind.i64.wrap (8 * m.word) = 8 * m.word := by have := hv.1; exact wrap_i64 (by omega) (by omega)
  simp [hc, Mach.bx, hwl]
  refine ⟨_, .of (p_r8_In gl _ _ _), by simp, ?_⟩
  simp [hwl]
  refine ⟨_, by intros; exact .of (p_r8_In gl _ _ _), by simp, ?_⟩
  have hE : commonE m a b = if inR a 0 (m.instrs.length - 1) && inR b 0 (m.instrs.length - 1) then 0 else 2 := by
    unfold commonE indexE
    cases inR a 0 (m.instrs.length - 1) <;> cases inR b 0 (m.instrs.length - 1) <;> simp [hc]
  cases hia : inR a 0 (m.instrs.length - 1)
  · rw [hia] at hE
    simp [commonW, commonB, hE]
  cases hib : inR b 0 (m.instrs.length - 1)
  · rw [hia, hib] at hE
    simp [commonW, commonB, hE]
  rw [hia, hib] at hE
  have hE : commonE m a b = 0 := by simpa using hE
  have ha' : 0 ≤ a ∧ a ≤ (m.instrs.length : Int) - 1 := by simpa [inR] using hia
  have hb' : 0 ≤ b ∧ b ≤ (m.instrs.length : Int) - 1 := by simpa [inR] using hib
  have hne : m.instrs ≠ [] := by intro hh; simp [hh] at ha'; omega
  obtain ⟨ha1, ha2⟩ := hv.2.2 _ (gt_mem (l := m.instrs) ha'.1 (by omega))
  obtain ⟨hb1, hb2⟩ := hv.2.2 _ (gt_mem (l := m.instrs) hb'.1 (by omega))
  obtain ⟨W, hmw, hWl, j⟩ := joined_law gl ha1 hb1
  have hCB : commonB m a b = (lawB m (gt m.instrs a) W && lawB m (gt m.instrs b) W) := by simp [commonB, hE, meetB, hmw]
  have la : a < (m.instrs.length : Int) := by omega
  have lb : b < (m.instrs.length : Int) := by omega
  simp [hne, Mach.bx, ha'.1, hb'.1, la, lb]
  refine DCallNext.pure j ?_
  simp [hne, Mach.bx, ha'.1, la]
  refine DCallNext.pure (p_r11_Lawful gl m _ W ha1 ha2 hWl) ?_
  simp [hne, hb'.1, lb]
  refine ⟨_, by intros; exact .of (p_r11_Lawful gl m _ W hb1 hb2 hWl), by simp, ?_⟩
  cases e1 : lawB m (gt m.instrs a) W <;> cases e2 : lawB m (gt m.instrs b) W <;> rw [e1, e2] at hCB <;> simp [hCB, commonW, hE, hmw, hne, hb'.1, lb]
theorem p_r11_Clashes (gl : Glob) (m : Mach) (ht : mTerms m) : PCall Tryz.prog gl 15 [.pv m.pv] (.tup [.pv (.lst 3 ((clashL m).map Clash.pv)), .pv (.int .i64 (mcheck m))]) := by
  refine k_retargetref11_Clashes.pcall (by simp) (by simp) (by simp) fun hwf => ?_
  have hm : m.pv.wf := by have := hwf (.pv m.pv) (by simp); simpa only [DV.wf] using this
  simp [c_retargetref11_Clashes]
  refine CallNext.pure (p_r8_Check gl m ht) fun _ => ?_
  simp
  refine ⟨fun h => by simp [clashL, h], fun hc => ?_⟩
  have hv := mach_valid hc hm
  have hlen := hv.2.1
  have hcl : ∀ a b, a ≤ m.instrs.length → b ≤ m.instrs.length → (clashN m a ++ clash1 m a b).length ≤ 5000 := fun a b h1 h2 => by
    have e1 := clashN_len m a
    have e2 := clash1_len m a b
    have e3 : a * m.instrs.length ≤ 64 * 64 := Nat.mul_le_mul (by omega) hlen
    rw [List.length_append]; omega
  have hCL : clashL m = clashN m m.instrs.length := by rw [clashL, if_pos hc]
  rw [hCL]
  refine Loop.nat (fun a => { e := [(1, .ptr 0 0), (5, .own 1 3 ((clashN m a).map Clash.pv)), (6, .pv (.int .i64 a))], h := [(0, m.bx), (1, .tip 3 (clashN m a).length)], nx := 2 }) m.instrs.length (fun _ => True) (by simp [Mach.bx]) trivial (by simp [Mach.bx, clashN]) fun a ha hinv => ?_
  by_cases hlt : a < m.instrs.length
  · have hwa : IntKind.i64.wrap ((a : Int) + 1) = (a : Int) + 1 := wrap_nat (by omega) (by omega)
    have hne : m.instrs ≠ [] := by intro hh; simp [hh] at hlt
    simp [hlt, Mach.bx, hwa]
    have h0 : clashN m a = clashN m a ++ clash1 m a (a + 1) := by rw [clash1_none m a (a + 1) (by omega), List.append_nil]
    refine Loop.nat (fun k => { e := [(1, .ptr 0 0), (5, .own 1 3 ((clashN m a ++ clash1 m a (a + 1 + k)).map Clash.pv)), (6, .pv (.int .i64 a)), (7, .pv (.int .i64 (a + 1 + k : Nat)))], h := [(0, m.bx), (1, .tip 3 (clashN m a ++ clash1 m a (a + 1 + k)).length)], nx := 2 }) (m.instrs.length - a - 1) (fun _ => True) (by simp [Mach.bx]) trivial (by simp [Mach.bx, clash1_none m a (a + 1) (by omega)]) fun k hk hinv2 => ?_
    by_cases hkl : k < m.instrs.length - a - 1
    · obtain ⟨b, hb⟩ : ∃ b, b = a + 1 + k := ⟨_, rfl⟩
      have hb' : ((a : Int) + 1 + (k : Int)) = (b : Int) := by omega
      have hbl : b < m.instrs.length := by omega
      obtain ⟨ha1, ha2⟩ := hv.2.2 _ (gt_mem (l := m.instrs) (i := (a : Nat)) (by omega) (by omega))
      obtain ⟨hb1, hb2⟩ := hv.2.2 _ (gt_mem (l := m.instrs) (i := (b : Nat)) (by omega) (by omega))
      have hl5 := hcl a b (by omega) (by omega)
      have hsu : clashN m a ++ clash1 m a (b + 1) = (clashN m a ++ clash1 m a b) ++ if meetB m (gt m.instrs (a : Nat)) (gt m.instrs (b : Nat)) then [⟨a, b, meetW (gt m.instrs (a : Nat)) (gt m.instrs (b : Nat))⟩] else [] := by
        rw [clash1, List.append_assoc]
        cases hM : meetB m (gt m.instrs (a : Nat)) (gt m.instrs (b : Nat)) <;> simp [show a < b by omega]
      have hbs : a + 1 + (k + 1) = b + 1 := by omega
      have hwb : IntKind.i64.wrap ((b : Int) + 1) = (b : Int) + 1 := wrap_nat (by omega) (by omega)
      obtain ⟨W, hmw, hWl, j⟩ := joined_law gl ha1 hb1
      have hB : meetB m (gt m.instrs (a : Nat)) (gt m.instrs (b : Nat)) = (lawB m (gt m.instrs (a : Nat)) W && lawB m (gt m.instrs (b : Nat)) W) := by rw [meetB, hmw]
      simp only [← hb, hbs, hsu]
      generalize clashN m a ++ clash1 m a b = L at *
      simp [hb', hlt, hbl, hne, Mach.bx]
      refine DCallNext.pure j ?_
      simp [hlt, hne, Mach.bx]
      refine DCallNext.pure (p_r11_Lawful gl m _ W ha1 ha2 hWl) ?_
      simp [hbl, hne]
      refine ⟨_, by intros; exact .of (p_r11_Lawful gl m _ W hb1 hb2 hWl), by simp, ?_⟩
      cases e1 : lawB m (gt m.instrs (a : Nat)) W <;> cases e2 : lawB m (gt m.instrs (b : Nat)) W <;> rw [e1, e2] at hB <;> simp [hwb, hkl, hlt, hbl, hne, hb']
      rotate_right
      · have hE : clashN m a ++ clash1 m a (a + 1 + (k + 1)) = L ++ [⟨a, b, (W : Int)⟩] := by rw [hbs, hsu, hB, hmw]; simp
        exact ⟨by omega, ⟨by rw [← List.map_append, hE]; simp [Clash.pv], by omega⟩, by rw [← List.length_append, hE]; simp⟩
      all_goals
        have hE : clashN m a ++ clash1 m a (a + 1 + (k + 1)) = L := by rw [hbs, hsu, hB]; simp
        exact ⟨⟨by rw [← List.map_append, hE], by omega⟩, by rw [← List.length_append, hE]⟩
    · obtain rfl : k = m.instrs.length - a - 1 := by omega
      have hnn : a + 1 + (m.instrs.length - a - 1) = m.instrs.length := by omega
      have hcs : clashN m (a + 1) = clashN m a ++ clash1 m a m.instrs.length := rfl
      simp [hnn, Mach.bx, hwa, hlt, hcs]
  · obtain rfl : a = m.instrs.length := by omega
    simp [Mach.bx]
    exact hc.symm
theorem stp_ceq_clash {gl : Glob} {e : Env} {hl : Nat → Option Ob} {nid : Nat} {X Y : O} {x y : Clash} (hx : evs gl e X = some (.pv x.pv, True)) (hy : evs gl e Y = some (.pv y.pv, True)) :
    stp gl e hl nid (.ceq true [1, 1, 1] X Y) = some { v := .pv (.bool !decide (x = y)), c := True ∧ True } := by
  rw [stp_ceq, hx, hy, Clash.pv_eq, Clash.pv_eq]
  have h : (x = y) ↔ (x.a = y.a ∧ x.b = y.b ∧ x.word = y.word) := Clash.ext_iff'
  simp [-Clash.fold, ceqs, ceq1, PV.kd, h]
theorem p_r11_SameClashes (gl : Glob) (a b : List Clash) (hl : a.length ≤ 100000) : PCall Tryz.prog gl 16 [.pv (.lst 3 (a.map Clash.pv)), .pv (.lst 3 (b.map Clash.pv))] (.pv (.bool (decide (a = b)))) := by
  refine k_retargetref11_SameClashes.pcall (by simp) (by simp) (by simp) fun hwf => ?_
  simp [c_retargetref11_SameClashes]
  refine ⟨fun h => ?_, fun h => ?_⟩
  · intro he; rw [he] at h; simp at h
  have h' : a.length = b.length := by omega
  refine Loop.nat (fun i => { e := [(0, .pv (.lst 3 (a.map Clash.pv))), (1, .pv (.lst 3 (b.map Clash.pv))), (5, .pv (.int .i64 i))], h := [], nx := 0 }) a.length (fun i => ∀ k : Nat, k < i → gt a (k : Nat) = gt b (k : Nat)) (by simp) (by simp) (by simp) fun i hi hinv => ?_
  by_cases hlt : i < a.length
  · have hne : a ≠ [] := by intro hh; simp [hh] at hlt
    have hne2 : b ≠ [] := by intro hh; rw [hh] at h'; simp only [List.length_nil] at h'; omega
    simp [-stp_ceq, hlt, hne, hne2, show i < b.length by omega]
    rw [stp_ceq_clash (x := gt a (i : Nat)) (y := gt b (i : Nat)) (by simp) (by simp)]
    simp [hlt, wrap_nat (show (0:Int) ≤ i + 1 by omega) (by omega)]
    refine ⟨fun hn he => hn (by rw [he]), fun he k hk => ?_⟩
    rcases Nat.lt_or_eq_of_le (Nat.le_of_lt_succ hk) with hk | rfl
    · exact hinv k hk
    · exact he
  · obtain rfl : i = a.length := by omega
    simp
    refine List.ext_getElem h' fun k h1 h2 => ?_
    have := hinv k h1
    rwa [gt_nat h1, gt_nat h2] at this
end Go.Proofs.YtbghfliffomfdaaGreatDoorV

/- The law AmbiguousPairs gives true. -/
namespace Go.Proofs.YtbghfliffomfdaaGreatDoorV
open Go
set_option maxRecDepth 100000
set_option maxHeartbeats 4000000

theorem clashL_len (m : Mach) : (clashL m).length ≤ 100000 := by
  rw [clashL]
  split
  · rename_i hc
    have h1 := clashN_len m m.instrs.length
    have h2 := (inLimits_iff (mcheck_regs hc).2).2.2.2.1
    have h3 : m.instrs.length * m.instrs.length ≤ 64 * 64 := Nat.mul_le_mul h2 h2
    omega
  · simp
theorem p_AmbiguousPairs (m : Mach) (a b : Int) : PCall Tryz.prog glob 4 [.pv m.pv, .pv (.int .i64 a), .pv (.int .i64 b)] (.pv (.bool true)) := by
  refine k_retargetlaw11_AmbiguousPairs.pcall (by simp) (by simp) (by simp) fun hwf => ?_
  simp [c_retargetlaw11_AmbiguousPairs]
  refine CallNext.pure (p_r8_Great glob m) fun _ => ?_
  simp
  intro hg
  have ht := great_terms hg
  refine CallNext.pure (p_amb_Common m a b ht) fun _ => ?_
  simp
  refine CallNext.pure (p_r11_Common glob m a b ht) fun _ => ?_
  simp
  refine CallNext.pure (p_amb_Clashes m ht) fun _ => ?_
  simp
  refine CallNext.pure (p_r11_Clashes glob m ht) fun _ => ?_
  simp
  refine ⟨_, .of (p_r11_SameClashes glob _ _ (clashL_len m)), by simp, ?_⟩
  simp
end Go.Proofs.YtbghfliffomfdaaGreatDoorV
