/- Packed: Tb Ta Tf Td Tc Pi Cs Ct Ib Cu Rj Lv -/
import Derived.Test.YteiampdhhigjcaaGreatDoorChk4
import Derived.Test.YteiampdhhigjcaaGreatDoorProg
set_option linter.all false
/- The program's functions as trees of our logic (group b). -/
namespace Go.Proofs.YteiampdhhigjcaaGreatDoorV
open Go
set_option maxRecDepth 100000
end Go.Proofs.YteiampdhhigjcaaGreatDoorV

/- The program's functions as trees of our logic (group a). -/
namespace Go.Proofs.YteiampdhhigjcaaGreatDoorV
open Go
set_option maxRecDepth 100000
/- "slices.BinarySearch[[]int,int]" -/
def c_slices_BinarySearch_int_int : C :=
.seq (.reg [⟨some 4, none, .mov (.c (.pv (.int .i64 0)))⟩, ⟨some 5, none, .mov (.c (.pv (.bool false)))⟩]) (.seq (.reg [⟨some 10, none, .mov (.t 0)⟩, ⟨some 11, none, .len (.t 10)⟩, ⟨some 6, none, .mov (.t 11)⟩]) (.seq (.reg [⟨some 12, none, .mov (.t 6)⟩, ⟨some 7, none, .mov (.c (.pv (.int .i64 0)))⟩, ⟨some 8, none, .mov (.t 12)⟩]) (.seq (.blk 0 (.loop ⟨[0, 1, 6, 7, 8], [], 0⟩ (.seq (.seq (.reg [⟨some 13, none, .mov (.t 7)⟩, ⟨some 14, none, .mov (.t 8)⟩, ⟨some 15, none, .bin .lss (.t 13) (.t 14)⟩]) (.cond (.t 15) (.skip) (.ext 0))) (.blk 1 (.seq (.reg [⟨some 16, none, .mov (.t 7)⟩, ⟨some 17, none, .mov (.t 8)⟩, ⟨some 18, none, .bin .add (.t 16) (.t 17)⟩, ⟨some 19, none, .conv .u64 (.t 18)⟩, ⟨some 20, none, .bin .shr (.t 19) (.c (.pv (.int .u64 1)))⟩, ⟨some 21, none, .conv .i64 (.t 20)⟩, ⟨some 9, none, .mov (.t 21)⟩]) (.seq (.reg [⟨some 22, none, .mov (.t 0)⟩, ⟨some 23, none, .mov (.t 9)⟩, ⟨some 24, none, .iad 1 (.t 22) (.t 23)⟩, ⟨some 25, none, .load none (.t 24)⟩, ⟨some 26, none, .mov (.t 1)⟩, ⟨some 27, none, .callf 123 [(.t 25), (.t 26)]⟩]) (.cond (.t 27) (.reg [⟨some 28, none, .mov (.t 9)⟩, ⟨some 29, none, .bin .add (.t 28) (.c (.pv (.int .i64 1)))⟩, ⟨some 7, none, .mov (.t 29)⟩]) (.reg [⟨some 30, none, .mov (.t 9)⟩, ⟨some 8, none, .mov (.t 30)⟩])))))))) (.seq (.reg [⟨some 31, none, .mov (.t 7)⟩, ⟨some 32, none, .mov (.t 7)⟩, ⟨some 33, none, .mov (.t 6)⟩, ⟨some 34, none, .bin .lss (.t 32) (.t 33)⟩, ⟨some 35, none, .mov (.t 34)⟩, ⟨some 36, some (35, true), .mov (.t 0)⟩, ⟨some 37, some (35, true), .mov (.t 7)⟩, ⟨some 38, some (35, true), .iad 1 (.t 36) (.t 37)⟩, ⟨some 39, some (35, true), .load none (.t 38)⟩, ⟨some 40, some (35, true), .mov (.t 1)⟩, ⟨some 41, some (35, true), .bin .eql (.t 39) (.t 40)⟩, ⟨some 42, some (35, true), .mov (.t 41)⟩, ⟨some 43, some (42, false), .mov (.t 0)⟩, ⟨some 44, some (42, false), .mov (.t 7)⟩, ⟨some 45, some (42, false), .iad 1 (.t 43) (.t 44)⟩, ⟨some 46, some (42, false), .load none (.t 45)⟩, ⟨some 47, some (42, false), .callf 124 [(.t 46)]⟩, ⟨some 48, some (42, false), .mov (.t 47)⟩, ⟨some 49, some (48, true), .mov (.t 1)⟩, ⟨some 50, some (48, true), .callf 124 [(.t 49)]⟩, ⟨some 51, some (42, false), .land (.t 48) (.t 50)⟩, ⟨some 52, some (35, true), .lor (.t 42) (.t 51)⟩, ⟨some 53, none, .land (.t 35) (.t 52)⟩, ⟨some 4, none, .mov (.t 31)⟩, ⟨some 5, none, .mov (.t 53)⟩]) (.ret)))))
theorem k_slices_BinarySearch_int_int : FnOk Tryz.prog 86 54 c_slices_BinarySearch_int_int [.tmp 4, .tmp 5] := .mk' (fn := Tryz.f86) rfl rfl (by kernel_rfl) rfl (by kernel_rfl) (by kernel_rfl)
/- "slices.Clone[[]uint64,uint64]" -/
def c_slices_Clone_uint64_uint64 : C :=
.seq (.reg [⟨some 2, none, .mov (.c (.nilS 1))⟩]) (.seq (.seq (.reg [⟨some 3, none, .mov (.t 0)⟩, ⟨some 4, none, .isnil false 0 (.t 3)⟩]) (.cond (.t 4) (.seq (.reg [⟨some 2, none, .mov (.c (.nilS 1))⟩]) (.ret)) (.skip))) (.seq (.reg [⟨some 5, none, .lit 1 []⟩, ⟨some 6, none, .mov (.t 0)⟩, ⟨some 7, none, .appm 1 8 (.t 5) (.t 6)⟩, ⟨some 2, none, .mov (.t 7)⟩]) (.ret)))
theorem k_slices_Clone_uint64_uint64 : FnOk Tryz.prog 93 8 c_slices_Clone_uint64_uint64 [.tmp 2] := .mk' (fn := Tryz.f93) rfl rfl (by kernel_rfl) rfl (by kernel_rfl) (by kernel_rfl)
/- "slices.IndexFunc[[]retarget/api.MachReg,retarget/api.MachReg]" -/
def c_slices_IndexFunc_api_MachReg_api_MachReg : C :=
.seq (.reg [⟨some 4, none, .mov (.c (.pv (.int .i64 0)))⟩]) (.seq (.seq (.reg [⟨some 6, none, .mov (.t 0)⟩, ⟨some 7, none, .len (.t 6)⟩, ⟨some 8, none, .mov (.c (.pv (.int .i64 0)))⟩]) (.blk 0 (.loop ⟨[0, 1, 7, 8], [0], 1⟩ (.seq (.reg [⟨some 9, none, .bin .lss (.t 8) (.t 7)⟩]) (.seq (.cond (.t 9) (.skip) (.ext 0)) (.seq (.blk 1 (.seq (.reg [⟨some 10, none, .mov (.t 8)⟩, ⟨some 5, none, .mov (.t 10)⟩]) (.seq (.reg [⟨some 11, none, .mov (.t 1)⟩, ⟨some 12, none, .mov (.t 0)⟩, ⟨some 13, none, .mov (.t 5)⟩, ⟨some 14, none, .iad 4 (.t 12) (.t 13)⟩, ⟨some 15, none, .load (some 4) (.t 14)⟩, ⟨some 16, none, .callv (.t 11) [(.t 15)]⟩]) (.cond (.t 16) (.seq (.reg [⟨some 17, none, .mov (.t 5)⟩, ⟨some 4, none, .mov (.t 17)⟩]) (.ret)) (.skip))))) (.reg [⟨some 18, none, .bin .add (.t 8) (.c (.pv (.int .i64 1)))⟩, ⟨some 8, none, .mov (.t 18)⟩]))))))) (.seq (.reg [⟨some 4, none, .mov (.c (.pv (.int .i64 (-1))))⟩]) (.ret)))
theorem k_slices_IndexFunc_api_MachReg_api_MachReg : FnOk Tryz.prog 121 19 c_slices_IndexFunc_api_MachReg_api_MachReg [.tmp 4] := .mk' (fn := Tryz.f121) rfl rfl (by kernel_rfl) rfl (by kernel_rfl) (by kernel_rfl)
/- "slices.IndexFunc[[]retarget/api.MachInstr,retarget/api.MachInstr]" -/
def c_slices_IndexFunc_api_MachInstr_api_MachInstr : C :=
.seq (.reg [⟨some 4, none, .mov (.c (.pv (.int .i64 0)))⟩]) (.seq (.seq (.reg [⟨some 6, none, .mov (.t 0)⟩, ⟨some 7, none, .len (.t 6)⟩, ⟨some 8, none, .mov (.c (.pv (.int .i64 0)))⟩]) (.blk 0 (.loop ⟨[0, 1, 7, 8], [0], 1⟩ (.seq (.reg [⟨some 9, none, .bin .lss (.t 8) (.t 7)⟩]) (.seq (.cond (.t 9) (.skip) (.ext 0)) (.seq (.blk 1 (.seq (.reg [⟨some 10, none, .mov (.t 8)⟩, ⟨some 5, none, .mov (.t 10)⟩]) (.seq (.reg [⟨some 11, none, .mov (.t 1)⟩, ⟨some 12, none, .mov (.t 0)⟩, ⟨some 13, none, .mov (.t 5)⟩, ⟨some 14, none, .iad 9 (.t 12) (.t 13)⟩, ⟨some 15, none, .load (some 9) (.t 14)⟩, ⟨some 16, none, .callv (.t 11) [(.t 15)]⟩]) (.cond (.t 16) (.seq (.reg [⟨some 17, none, .mov (.t 5)⟩, ⟨some 4, none, .mov (.t 17)⟩]) (.ret)) (.skip))))) (.reg [⟨some 18, none, .bin .add (.t 8) (.c (.pv (.int .i64 1)))⟩, ⟨some 8, none, .mov (.t 18)⟩]))))))) (.seq (.reg [⟨some 4, none, .mov (.c (.pv (.int .i64 (-1))))⟩]) (.ret)))
theorem k_slices_IndexFunc_api_MachInstr_api_MachInstr : FnOk Tryz.prog 122 19 c_slices_IndexFunc_api_MachInstr_api_MachInstr [.tmp 4] := .mk' (fn := Tryz.f122) rfl rfl (by kernel_rfl) rfl (by kernel_rfl) (by kernel_rfl)
/- "cmp.Less[int]" -/
def c_cmp_Less_int : C :=
.seq (.reg [⟨some 4, none, .mov (.c (.pv (.bool false)))⟩]) (.seq (.reg [⟨some 5, none, .mov (.t 0)⟩, ⟨some 6, none, .callf 158 [(.t 5)]⟩, ⟨some 7, none, .mov (.t 6)⟩, ⟨some 8, some (7, true), .mov (.t 1)⟩, ⟨some 9, some (7, true), .callf 158 [(.t 8)]⟩, ⟨some 10, some (7, true), .un .not (.t 9)⟩, ⟨some 11, none, .land (.t 7) (.t 10)⟩, ⟨some 12, none, .mov (.t 11)⟩, ⟨some 13, some (12, false), .mov (.t 0)⟩, ⟨some 14, some (12, false), .mov (.t 1)⟩, ⟨some 15, some (12, false), .bin .lss (.t 13) (.t 14)⟩, ⟨some 16, none, .lor (.t 12) (.t 15)⟩, ⟨some 4, none, .mov (.t 16)⟩]) (.ret))
theorem k_cmp_Less_int : FnOk Tryz.prog 123 17 c_cmp_Less_int [.tmp 4] := .mk' (fn := Tryz.f123) rfl rfl (by kernel_rfl) rfl (by kernel_rfl) (by kernel_rfl)
/- "cmp.isNaN[int]" -/
def c_cmp_isNaN_int : C :=
.seq (.reg [⟨some 2, none, .mov (.c (.pv (.bool false)))⟩]) (.seq (.reg [⟨some 3, none, .mov (.t 0)⟩, ⟨some 4, none, .mov (.t 0)⟩, ⟨some 5, none, .bin .neq (.t 3) (.t 4)⟩, ⟨some 2, none, .mov (.t 5)⟩]) (.ret))
theorem k_cmp_isNaN_int : FnOk Tryz.prog 158 6 c_cmp_isNaN_int [.tmp 2] := .mk' (fn := Tryz.f158) rfl rfl (by kernel_rfl) rfl (by kernel_rfl) (by kernel_rfl)
end Go.Proofs.YteiampdhhigjcaaGreatDoorV

/- The program's functions as trees of our logic (group f). -/
namespace Go.Proofs.YteiampdhhigjcaaGreatDoorV
open Go
set_option maxRecDepth 100000
/- "retarget/retargetlaw08.MachineValues" -/
def c_retargetlaw08_MachineValues : C :=
.seq (.reg [⟨some 4, none, .box 7 (.t 0)⟩, ⟨some 8, none, .mov (.c (.pv (.bool false)))⟩]) (.seq (.seq (.reg [⟨some 20, none, .load (some 7) (.t 4)⟩, ⟨some 21, none, .callf 11 [(.t 20)]⟩, ⟨some 22, none, .mov (.t 21)⟩, ⟨some 23, some (22, false), .mov (.t 1)⟩, ⟨some 24, some (22, false), .len (.t 23)⟩, ⟨some 25, some (22, false), .bin .gtr (.t 24) (.c (.pv (.int .i64 100)))⟩, ⟨some 26, none, .lor (.t 22) (.t 25)⟩]) (.cond (.t 26) (.seq (.reg [⟨some 8, none, .mov (.c (.pv (.bool true)))⟩]) (.ret)) (.skip))) (.seq (.reg [⟨some 27, none, .lit 1 []⟩, ⟨some 28, none, .mov (.t 1)⟩, ⟨some 29, none, .app 1 8 (.t 27) (.t 28)⟩, ⟨some 9, none, .mov (.t 29)⟩]) (.seq (.reg [⟨some 31, none, .load (some 7) (.t 4)⟩, ⟨some 32, none, .mov (.t 1)⟩, ⟨some 33, none, .mov (.t 2)⟩, ⟨some 34, none, .callf 28 [(.t 31), (.t 32), (.t 33)]⟩, ⟨some 30, none, .mov (.t 34)⟩, ⟨some 35, none, .ext (.t 30) 0⟩, ⟨some 36, none, .ext (.t 30) 1⟩, ⟨some 10, none, .mov (.t 35)⟩, ⟨some 11, none, .mov (.t 36)⟩]) (.seq (.reg [⟨some 38, none, .load (some 7) (.t 4)⟩, ⟨some 39, none, .mov (.t 1)⟩, ⟨some 40, none, .mov (.t 2)⟩, ⟨some 41, none, .callf 29 [(.t 38), (.t 39), (.t 40)]⟩, ⟨some 37, none, .mov (.t 41)⟩, ⟨some 42, none, .ext (.t 37) 0⟩, ⟨some 43, none, .ext (.t 37) 1⟩, ⟨some 12, none, .mov (.t 42)⟩, ⟨some 13, none, .mov (.t 43)⟩]) (.seq (.reg [⟨some 45, none, .load (some 7) (.t 4)⟩, ⟨some 46, none, .mov (.t 1)⟩, ⟨some 47, none, .mov (.t 2)⟩, ⟨some 48, none, .mov (.t 3)⟩, ⟨some 49, none, .callf 30 [(.t 45), (.t 46), (.t 47), (.t 48)]⟩, ⟨some 44, none, .mov (.t 49)⟩, ⟨some 50, none, .ext (.t 44) 0⟩, ⟨some 51, none, .ext (.t 44) 1⟩, ⟨some 14, none, .mov (.t 50)⟩, ⟨some 15, none, .mov (.t 51)⟩]) (.seq (.reg [⟨some 53, none, .load (some 7) (.t 4)⟩, ⟨some 54, none, .mov (.t 1)⟩, ⟨some 55, none, .mov (.t 2)⟩, ⟨some 56, none, .mov (.t 3)⟩, ⟨some 57, none, .callf 31 [(.t 53), (.t 54), (.t 55), (.t 56)]⟩, ⟨some 52, none, .mov (.t 57)⟩, ⟨some 58, none, .ext (.t 52) 0⟩, ⟨some 59, none, .ext (.t 52) 1⟩, ⟨some 16, none, .mov (.t 58)⟩, ⟨some 17, none, .mov (.t 59)⟩]) (.seq (.reg [⟨some 60, none, .mov (.t 10)⟩, ⟨some 61, none, .mov (.t 12)⟩, ⟨some 62, none, .bin .eql (.t 60) (.t 61)⟩, ⟨some 63, none, .mov (.t 62)⟩, ⟨some 64, some (63, true), .mov (.t 11)⟩, ⟨some 65, some (63, true), .mov (.t 13)⟩, ⟨some 66, some (63, true), .bin .eql (.t 64) (.t 65)⟩, ⟨some 67, none, .land (.t 63) (.t 66)⟩, ⟨some 68, none, .mov (.t 67)⟩, ⟨some 69, some (68, true), .mov (.t 14)⟩, ⟨some 70, some (68, true), .mov (.t 16)⟩, ⟨some 71, some (68, true), .callt 32 [(.t 69), (.t 70)]⟩, ⟨some 72, none, .land (.t 68) (.t 71)⟩, ⟨some 73, none, .mov (.t 72)⟩, ⟨some 74, some (73, true), .mov (.t 15)⟩, ⟨some 75, some (73, true), .mov (.t 17)⟩, ⟨some 76, some (73, true), .bin .eql (.t 74) (.t 75)⟩, ⟨some 77, none, .land (.t 73) (.t 76)⟩, ⟨some 18, none, .mov (.t 77)⟩]) (.seq (.seq (.reg [⟨some 19, none, .mov (.c (.pv (.int .i64 0)))⟩]) (.blk 0 (.loop ⟨[1, 9, 14, 18, 19], [0, 1, 3], 4⟩ (.seq (.seq (.reg [⟨some 78, none, .mov (.t 19)⟩, ⟨some 79, none, .mov (.t 14)⟩, ⟨some 80, none, .len (.t 79)⟩, ⟨some 81, none, .bin .lss (.t 78) (.t 80)⟩]) (.cond (.t 81) (.skip) (.ext 0))) (.seq (.blk 1 (.reg [⟨some 84, none, .mov (.t 14)⟩, ⟨some 85, none, .mov (.t 19)⟩, ⟨some 86, none, .iad 1 (.t 84) (.t 85)⟩, ⟨none, none, .store 1 (.t 86) (.c (.pv (.int .u64 7)))⟩])) (.reg [⟨some 82, none, .mov (.t 19)⟩, ⟨some 83, none, .bin .add (.t 82) (.c (.pv (.int .i64 1)))⟩, ⟨some 19, none, .mov (.t 83)⟩])))))) (.seq (.reg [⟨some 87, none, .mov (.t 18)⟩, ⟨some 88, none, .mov (.t 87)⟩, ⟨some 89, some (88, true), .mov (.t 1)⟩, ⟨some 90, some (88, true), .mov (.t 9)⟩, ⟨some 91, some (88, true), .callf 32 [(.t 89), (.t 90)]⟩, ⟨some 92, none, .land (.t 88) (.t 91)⟩, ⟨some 8, none, .mov (.t 92)⟩]) (.ret))))))))))
theorem k_retargetlaw08_MachineValues : FnOk Tryz.prog 5 93 c_retargetlaw08_MachineValues [.tmp 8] := .mk' (fn := Tryz.f5) rfl rfl (by kernel_rfl) rfl (by kernel_rfl) (by kernel_rfl)
end Go.Proofs.YteiampdhhigjcaaGreatDoorV

/- The program's functions as trees of our logic (group d). -/
namespace Go.Proofs.YteiampdhhigjcaaGreatDoorV
open Go
set_option maxRecDepth 100000
/- "retarget/retargetref08.Read" -/
def c_retargetref08_Read : C :=
.seq (.reg [⟨some 3, none, .box 7 (.t 0)⟩, ⟨some 6, none, .mov (.c (.pv (.int .u64 0)))⟩, ⟨some 7, none, .mov (.c (.pv (.int .i64 0)))⟩]) (.seq (.reg [⟨some 12, none, .load (some 7) (.t 3)⟩, ⟨some 13, none, .mov (.t 1)⟩, ⟨some 14, none, .mov (.t 2)⟩, ⟨some 15, none, .callf 90 [(.t 12), (.t 13), (.t 14)]⟩, ⟨some 8, none, .mov (.t 15)⟩]) (.seq (.seq (.reg [⟨some 16, none, .mov (.t 8)⟩, ⟨some 17, none, .bin .neq (.t 16) (.c (.pv (.int .i64 0)))⟩]) (.cond (.t 17) (.seq (.reg [⟨some 18, none, .mov (.t 8)⟩, ⟨some 6, none, .mov (.c (.pv (.int .u64 0)))⟩, ⟨some 7, none, .mov (.t 18)⟩]) (.ret)) (.skip))) (.seq (.reg [⟨some 20, none, .load (some 7) (.t 3)⟩, ⟨some 21, none, .mov (.t 2)⟩, ⟨some 22, none, .callf 87 [(.t 20), (.t 21)]⟩, ⟨some 19, none, .mov (.t 22)⟩, ⟨some 23, none, .ext (.t 19) 0⟩, ⟨some 24, none, .ext (.t 19) 1⟩, ⟨some 25, none, .ext (.t 19) 2⟩, ⟨some 9, none, .mov (.t 23)⟩, ⟨some 10, none, .mov (.t 24)⟩, ⟨some 11, none, .mov (.t 25)⟩]) (.seq (.reg [⟨some 26, none, .mov (.t 1)⟩, ⟨some 27, none, .mov (.t 9)⟩, ⟨some 28, none, .iad 1 (.t 26) (.t 27)⟩, ⟨some 29, none, .load none (.t 28)⟩, ⟨some 30, none, .mov (.t 10)⟩, ⟨some 31, none, .mov (.t 11)⟩, ⟨some 32, none, .callf 91 [(.t 29), (.t 30), (.t 31)]⟩, ⟨some 6, none, .mov (.t 32)⟩, ⟨some 7, none, .mov (.c (.pv (.int .i64 0)))⟩]) (.ret)))))
theorem k_retargetref08_Read : FnOk Tryz.prog 29 33 c_retargetref08_Read [.tmp 6, .tmp 7] := .mk' (fn := Tryz.f29) rfl rfl (by kernel_rfl) rfl (by kernel_rfl) (by kernel_rfl)
/- "retarget/retargetref08.Write" -/
def c_retargetref08_Write : C :=
.seq (.reg [⟨some 4, none, .box 7 (.t 0)⟩, ⟨some 8, none, .mov (.c (.nilS 1))⟩, ⟨some 9, none, .mov (.c (.pv (.int .i64 0)))⟩]) (.seq (.reg [⟨some 19, none, .load (some 7) (.t 4)⟩, ⟨some 20, none, .mov (.t 1)⟩, ⟨some 21, none, .mov (.t 2)⟩, ⟨some 22, none, .callf 90 [(.t 19), (.t 20), (.t 21)]⟩, ⟨some 10, none, .mov (.t 22)⟩]) (.seq (.seq (.reg [⟨some 23, none, .mov (.t 10)⟩, ⟨some 24, none, .bin .eql (.t 23) (.c (.pv (.int .i64 0)))⟩, ⟨some 25, none, .mov (.t 24)⟩, ⟨some 26, some (25, true), .mov (.t 3)⟩, ⟨some 27, some (25, true), .fad 3 (.t 4)⟩, ⟨some 28, some (25, true), .load none (.t 27)⟩, ⟨some 29, some (25, true), .mov (.t 2)⟩, ⟨some 30, some (25, true), .iad 4 (.t 28) (.t 29)⟩, ⟨some 31, some (25, true), .fad 1 (.t 30)⟩, ⟨some 32, some (25, true), .load none (.t 31)⟩, ⟨some 33, some (25, true), .callf 94 [(.t 26), (.t 32)]⟩, ⟨some 34, some (25, true), .un .not (.t 33)⟩, ⟨some 35, none, .land (.t 25) (.t 34)⟩]) (.cond (.t 35) (.reg [⟨some 10, none, .mov (.c (.pv (.int .i64 24)))⟩]) (.skip))) (.seq (.seq (.reg [⟨some 36, none, .mov (.t 10)⟩, ⟨some 37, none, .bin .neq (.t 36) (.c (.pv (.int .i64 0)))⟩]) (.cond (.t 37) (.seq (.reg [⟨some 38, none, .mov (.t 10)⟩, ⟨some 8, none, .mov (.c (.nilS 1))⟩, ⟨some 9, none, .mov (.t 38)⟩]) (.ret)) (.skip))) (.seq (.reg [⟨some 40, none, .load (some 7) (.t 4)⟩, ⟨some 41, none, .mov (.t 2)⟩, ⟨some 42, none, .callf 87 [(.t 40), (.t 41)]⟩, ⟨some 39, none, .mov (.t 42)⟩, ⟨some 43, none, .ext (.t 39) 0⟩, ⟨some 44, none, .ext (.t 39) 1⟩, ⟨some 45, none, .ext (.t 39) 2⟩, ⟨some 11, none, .mov (.t 43)⟩, ⟨some 12, none, .mov (.t 44)⟩, ⟨some 13, none, .mov (.t 45)⟩]) (.seq (.reg [⟨some 46, none, .lit 1 []⟩, ⟨some 47, none, .mov (.t 1)⟩, ⟨some 48, none, .appm 1 8 (.t 46) (.t 47)⟩, ⟨some 14, none, .mov (.t 48)⟩]) (.seq (.reg [⟨some 15, none, .mov (.c (.pv (.int .u64 0)))⟩, ⟨some 16, none, .mov (.c (.pv (.int .u64 1)))⟩]) (.seq (.seq (.reg [⟨some 17, none, .mov (.c (.pv (.int .i64 0)))⟩]) (.blk 0 (.loop ⟨[1, 3, 11, 12, 13, 14, 15, 16, 17], [0, 1], 2⟩ (.seq (.seq (.reg [⟨some 49, none, .mov (.t 17)⟩, ⟨some 50, none, .bin .lss (.t 49) (.c (.pv (.int .i64 64)))⟩]) (.cond (.t 50) (.skip) (.ext 0))) (.seq (.blk 1 (.seq (.reg [⟨some 53, none, .mov (.t 1)⟩, ⟨some 54, none, .mov (.t 11)⟩, ⟨some 55, none, .iad 1 (.t 53) (.t 54)⟩, ⟨some 56, none, .load none (.t 55)⟩, ⟨some 57, none, .mov (.t 17)⟩, ⟨some 58, none, .callf 95 [(.t 56), (.t 57)]⟩, ⟨some 18, none, .mov (.t 58)⟩]) (.seq (.seq (.reg [⟨some 59, none, .mov (.t 17)⟩, ⟨some 60, none, .mov (.t 12)⟩, ⟨some 61, none, .mov (.t 12)⟩, ⟨some 62, none, .mov (.t 13)⟩, ⟨some 63, none, .bin .add (.t 61) (.t 62)⟩, ⟨some 64, none, .bin .sub (.t 63) (.c (.pv (.int .i64 1)))⟩, ⟨some 65, none, .callf 66 [(.t 59), (.t 60), (.t 64)]⟩]) (.cond (.t 65) (.reg [⟨some 66, none, .mov (.t 3)⟩, ⟨some 67, none, .mov (.t 17)⟩, ⟨some 68, none, .mov (.t 12)⟩, ⟨some 69, none, .bin .sub (.t 67) (.t 68)⟩, ⟨some 70, none, .callf 95 [(.t 66), (.t 69)]⟩, ⟨some 18, none, .mov (.t 70)⟩]) (.skip))) (.seq (.seq (.reg [⟨some 71, none, .mov (.t 18)⟩, ⟨some 72, none, .bin .eql (.t 71) (.c (.pv (.int .i64 1)))⟩]) (.cond (.t 72) (.reg [⟨some 73, none, .mov (.t 15)⟩, ⟨some 74, none, .mov (.t 16)⟩, ⟨some 75, none, .bin .add (.t 73) (.t 74)⟩, ⟨some 15, none, .mov (.t 75)⟩]) (.skip))) (.reg [⟨some 76, none, .mov (.t 16)⟩, ⟨some 77, none, .bin .mul (.c (.pv (.int .u64 2))) (.t 76)⟩, ⟨some 16, none, .mov (.t 77)⟩]))))) (.reg [⟨some 51, none, .mov (.t 17)⟩, ⟨some 52, none, .bin .add (.t 51) (.c (.pv (.int .i64 1)))⟩, ⟨some 17, none, .mov (.t 52)⟩])))))) (.seq (.reg [⟨some 78, none, .mov (.t 14)⟩, ⟨some 79, none, .mov (.t 11)⟩, ⟨some 80, none, .mov (.t 15)⟩, ⟨some 81, none, .iad 1 (.t 78) (.t 79)⟩, ⟨none, none, .store 1 (.t 81) (.t 80)⟩]) (.gh (.frz 14) (.seq (.reg [⟨some 82, none, .mov (.t 14)⟩, ⟨some 8, none, .mov (.t 82)⟩, ⟨some 9, none, .mov (.c (.pv (.int .i64 0)))⟩]) (.ret)))))))))))
theorem k_retargetref08_Write : FnOk Tryz.prog 31 83 c_retargetref08_Write [.tmp 8, .tmp 9] := .mk' (fn := Tryz.f31) rfl rfl (by kernel_rfl) rfl (by kernel_rfl) (by kernel_rfl)
/- "retarget/retargetref08.SameWords" -/
def c_retargetref08_SameWords : C :=
.seq (.reg [⟨some 4, none, .mov (.c (.pv (.bool false)))⟩]) (.seq (.seq (.reg [⟨some 6, none, .mov (.t 0)⟩, ⟨some 7, none, .len (.t 6)⟩, ⟨some 8, none, .mov (.t 1)⟩, ⟨some 9, none, .len (.t 8)⟩, ⟨some 10, none, .bin .neq (.t 7) (.t 9)⟩]) (.cond (.t 10) (.seq (.reg [⟨some 4, none, .mov (.c (.pv (.bool false)))⟩]) (.ret)) (.skip))) (.seq (.seq (.reg [⟨some 5, none, .mov (.c (.pv (.int .i64 0)))⟩]) (.blk 0 (.loop ⟨[0, 1, 5], [], 0⟩ (.seq (.seq (.reg [⟨some 11, none, .mov (.t 5)⟩, ⟨some 12, none, .mov (.t 0)⟩, ⟨some 13, none, .len (.t 12)⟩, ⟨some 14, none, .bin .lss (.t 11) (.t 13)⟩]) (.cond (.t 14) (.skip) (.ext 0))) (.seq (.blk 1 (.seq (.dreg [⟨some 17, none, .mov (.t 0)⟩, ⟨some 18, none, .mov (.t 5)⟩, ⟨some 19, none, .iad 1 (.t 17) (.t 18)⟩, ⟨some 20, none, .load none (.t 19)⟩, ⟨some 21, none, .mov (.t 1)⟩, ⟨some 22, none, .mov (.t 5)⟩, ⟨some 23, none, .iad 1 (.t 21) (.t 22)⟩, ⟨some 24, none, .load none (.t 23)⟩, ⟨some 25, none, .bin .neq (.t 20) (.t 24)⟩] [[], [], [0, 1], [0, 1, 2], [], [], [4, 5], [4, 5, 6], [0, 1, 2, 3, 4, 5, 6, 7]]) (.cond (.t 25) (.seq (.reg [⟨some 4, none, .mov (.c (.pv (.bool false)))⟩]) (.ret)) (.skip)))) (.reg [⟨some 15, none, .mov (.t 5)⟩, ⟨some 16, none, .bin .add (.t 15) (.c (.pv (.int .i64 1)))⟩, ⟨some 5, none, .mov (.t 16)⟩])))))) (.seq (.reg [⟨some 4, none, .mov (.c (.pv (.bool true)))⟩]) (.ret))))
theorem k_retargetref08_SameWords : FnOk Tryz.prog 32 26 c_retargetref08_SameWords [.tmp 4] := .mk' (fn := Tryz.f32) rfl rfl (by kernel_rfl) rfl (by kernel_rfl) (by kernel_rfl)
/- "retarget/retargetref08.valued" -/
def c_retargetref08_valued : C :=
.seq (.reg [⟨some 3, none, .box 7 (.t 0)⟩, ⟨some 6, none, .mov (.c (.pv (.int .i64 0)))⟩]) (.seq (.reg [⟨some 10, none, .load (some 7) (.t 3)⟩, ⟨some 11, none, .callf 15 [(.t 10)]⟩, ⟨some 7, none, .mov (.t 11)⟩]) (.seq (.seq (.reg [⟨some 12, none, .mov (.t 7)⟩, ⟨some 13, none, .bin .neq (.t 12) (.c (.pv (.int .i64 0)))⟩]) (.cond (.t 13) (.seq (.reg [⟨some 14, none, .mov (.t 7)⟩, ⟨some 6, none, .mov (.t 14)⟩]) (.ret)) (.skip))) (.seq (.seq (.reg [⟨some 15, none, .mov (.t 2)⟩, ⟨some 16, none, .fad 3 (.t 3)⟩, ⟨some 17, none, .load none (.t 16)⟩, ⟨some 18, none, .len (.t 17)⟩, ⟨some 19, none, .bin .sub (.t 18) (.c (.pv (.int .i64 1)))⟩, ⟨some 20, none, .callf 66 [(.t 15), (.c (.pv (.int .i64 0))), (.t 19)]⟩, ⟨some 21, none, .un .not (.t 20)⟩]) (.cond (.t 21) (.seq (.reg [⟨some 6, none, .mov (.c (.pv (.int .i64 2)))⟩]) (.ret)) (.skip))) (.seq (.reg [⟨some 22, none, .load (some 7) (.t 3)⟩, ⟨some 23, none, .callf 85 [(.t 22)]⟩, ⟨some 8, none, .mov (.t 23)⟩]) (.seq (.seq (.reg [⟨some 24, none, .mov (.t 8)⟩, ⟨some 25, none, .len (.t 24)⟩, ⟨some 26, none, .mov (.t 1)⟩, ⟨some 27, none, .len (.t 26)⟩, ⟨some 28, none, .bin .neq (.t 25) (.t 27)⟩]) (.cond (.t 28) (.seq (.reg [⟨some 6, none, .mov (.c (.pv (.int .i64 14)))⟩]) (.ret)) (.skip))) (.seq (.seq (.reg [⟨some 9, none, .mov (.c (.pv (.int .i64 0)))⟩]) (.blk 0 (.loop ⟨[1, 3, 8, 9], [0], 1⟩ (.seq (.seq (.reg [⟨some 29, none, .mov (.t 9)⟩, ⟨some 30, none, .mov (.t 8)⟩, ⟨some 31, none, .len (.t 30)⟩, ⟨some 32, none, .bin .lss (.t 29) (.t 31)⟩]) (.cond (.t 32) (.skip) (.ext 0))) (.seq (.blk 1 (.seq (.dreg [⟨some 35, none, .mov (.t 1)⟩, ⟨some 36, none, .mov (.t 9)⟩, ⟨some 37, none, .iad 1 (.t 35) (.t 36)⟩, ⟨some 38, none, .load none (.t 37)⟩, ⟨some 39, none, .fad 3 (.t 3)⟩, ⟨some 40, none, .load none (.t 39)⟩, ⟨some 41, none, .mov (.t 8)⟩, ⟨some 42, none, .mov (.t 9)⟩, ⟨some 43, none, .iad 1 (.t 41) (.t 42)⟩, ⟨some 44, none, .load none (.t 43)⟩, ⟨some 45, none, .iad 4 (.t 40) (.t 44)⟩, ⟨some 46, none, .fad 1 (.t 45)⟩, ⟨some 47, none, .load none (.t 46)⟩, ⟨some 48, none, .callf 94 [(.t 38), (.t 47)]⟩, ⟨some 49, none, .un .not (.t 48)⟩] [[], [], [0, 1], [0, 1, 2], [], [4], [], [], [6, 7], [6, 7, 8], [4, 5, 6, 7, 8, 9], [4, 5, 6, 7, 8, 9, 10], [4, 5, 6, 7, 8, 9, 10, 11], [0, 1, 2, 3, 4, 5, 6, 7, 8, 9, 10, 11, 12], [0, 1, 2, 3, 4, 5, 6, 7, 8, 9, 10, 11, 12, 13]]) (.cond (.t 49) (.seq (.reg [⟨some 6, none, .mov (.c (.pv (.int .i64 14)))⟩]) (.ret)) (.skip)))) (.reg [⟨some 33, none, .mov (.t 9)⟩, ⟨some 34, none, .bin .add (.t 33) (.c (.pv (.int .i64 1)))⟩, ⟨some 9, none, .mov (.t 34)⟩])))))) (.seq (.reg [⟨some 6, none, .mov (.c (.pv (.int .i64 0)))⟩]) (.ret))))))))
theorem k_retargetref08_valued : FnOk Tryz.prog 90 50 c_retargetref08_valued [.tmp 6] := .mk' (fn := Tryz.f90) rfl rfl (by kernel_rfl) rfl (by kernel_rfl) (by kernel_rfl)
/- "retarget/retargetref08.Bits" -/
def c_retargetref08_Bits : C :=
.seq (.reg [⟨some 6, none, .mov (.c (.pv (.int .u64 0)))⟩]) (.seq (.reg [⟨some 7, none, .mov (.c (.pv (.int .u64 0)))⟩, ⟨some 8, none, .mov (.c (.pv (.int .u64 1)))⟩]) (.seq (.seq (.reg [⟨some 9, none, .mov (.c (.pv (.int .i64 0)))⟩]) (.blk 0 (.loop ⟨[0, 1, 2, 7, 8, 9], [], 0⟩ (.seq (.seq (.reg [⟨some 10, none, .mov (.t 9)⟩, ⟨some 11, none, .mov (.t 2)⟩, ⟨some 12, none, .bin .lss (.t 10) (.t 11)⟩]) (.cond (.t 12) (.skip) (.ext 0))) (.seq (.blk 1 (.seq (.seq (.reg [⟨some 15, none, .mov (.t 0)⟩, ⟨some 16, none, .mov (.t 1)⟩, ⟨some 17, none, .mov (.t 9)⟩, ⟨some 18, none, .bin .add (.t 16) (.t 17)⟩, ⟨some 19, none, .callf 95 [(.t 15), (.t 18)]⟩, ⟨some 20, none, .bin .eql (.t 19) (.c (.pv (.int .i64 1)))⟩]) (.cond (.t 20) (.reg [⟨some 21, none, .mov (.t 7)⟩, ⟨some 22, none, .mov (.t 8)⟩, ⟨some 23, none, .bin .add (.t 21) (.t 22)⟩, ⟨some 7, none, .mov (.t 23)⟩]) (.skip))) (.reg [⟨some 24, none, .mov (.t 8)⟩, ⟨some 25, none, .bin .mul (.c (.pv (.int .u64 2))) (.t 24)⟩, ⟨some 8, none, .mov (.t 25)⟩]))) (.reg [⟨some 13, none, .mov (.t 9)⟩, ⟨some 14, none, .bin .add (.t 13) (.c (.pv (.int .i64 1)))⟩, ⟨some 9, none, .mov (.t 14)⟩])))))) (.seq (.reg [⟨some 26, none, .mov (.t 7)⟩, ⟨some 6, none, .mov (.t 26)⟩]) (.ret))))
theorem k_retargetref08_Bits : FnOk Tryz.prog 91 27 c_retargetref08_Bits [.tmp 6] := .mk' (fn := Tryz.f91) rfl rfl (by kernel_rfl) rfl (by kernel_rfl) (by kernel_rfl)
end Go.Proofs.YteiampdhhigjcaaGreatDoorV

/- The program's functions as trees of our logic (group c). -/
namespace Go.Proofs.YteiampdhhigjcaaGreatDoorV
open Go
set_option maxRecDepth 100000
/- "retarget/machine.Register" -/
def c_machine_Register : C :=
.seq (.reg [⟨some 2, none, .box 7 (.t 0)⟩, ⟨some 3, none, .box 1 (.t 1)⟩, ⟨some 4, none, .mov (.c (.pv (.int .i64 0)))⟩, ⟨some 5, none, .mov (.c (.pv (.int .i64 0)))⟩]) (.seq (.reg [⟨some 6, none, .load (some 7) (.t 2)⟩, ⟨some 7, none, .fad 3 (.t 2)⟩, ⟨some 8, none, .load none (.t 7)⟩, ⟨some 9, none, .mkf (.func 81) [] [(.t 3)]⟩, ⟨some 10, none, .callf 80 [(.t 6), (.t 8), (.t 9)]⟩, ⟨some 11, none, .ext (.t 10) 0⟩, ⟨some 12, none, .ext (.t 10) 1⟩, ⟨some 4, none, .mov (.t 11)⟩, ⟨some 5, none, .mov (.t 12)⟩]) (.ret))
theorem k_machine_Register : FnOk Tryz.prog 18 13 c_machine_Register [.tmp 4, .tmp 5] := .mk' (fn := Tryz.f18) rfl rfl (by kernel_rfl) rfl (by kernel_rfl) (by kernel_rfl)
/- "retarget/machine.Instruction" -/
def c_machine_Instruction : C :=
.seq (.reg [⟨some 2, none, .box 7 (.t 0)⟩, ⟨some 3, none, .box 1 (.t 1)⟩, ⟨some 4, none, .mov (.c (.pv (.int .i64 0)))⟩, ⟨some 5, none, .mov (.c (.pv (.int .i64 0)))⟩]) (.seq (.reg [⟨some 6, none, .load (some 7) (.t 2)⟩, ⟨some 7, none, .fad 6 (.t 2)⟩, ⟨some 8, none, .load none (.t 7)⟩, ⟨some 9, none, .mkf (.func 83) [] [(.t 3)]⟩, ⟨some 10, none, .callf 82 [(.t 6), (.t 8), (.t 9)]⟩, ⟨some 11, none, .ext (.t 10) 0⟩, ⟨some 12, none, .ext (.t 10) 1⟩, ⟨some 4, none, .mov (.t 11)⟩, ⟨some 5, none, .mov (.t 12)⟩]) (.ret))
theorem k_machine_Instruction : FnOk Tryz.prog 20 13 c_machine_Instruction [.tmp 4, .tmp 5] := .mk' (fn := Tryz.f20) rfl rfl (by kernel_rfl) rfl (by kernel_rfl) (by kernel_rfl)
/- "retarget/machine.Roots" -/
def c_machine_Roots : C :=
.seq (.reg [⟨some 1, none, .box 7 (.t 0)⟩, ⟨some 2, none, .mov (.c (.nilS 1))⟩, ⟨some 3, none, .mov (.c (.pv (.int .i64 0)))⟩]) (.seq (.seq (.reg [⟨some 5, none, .load (some 7) (.t 1)⟩, ⟨some 6, none, .callf 14 [(.t 5)]⟩, ⟨some 4, none, .mov (.t 6)⟩]) (.seq (.reg [⟨some 7, none, .mov (.t 4)⟩, ⟨some 8, none, .bin .neq (.t 7) (.c (.pv (.int .i64 0)))⟩]) (.cond (.t 8) (.seq (.reg [⟨some 9, none, .mov (.t 4)⟩, ⟨some 2, none, .mov (.c (.nilS 1))⟩, ⟨some 3, none, .mov (.t 9)⟩]) (.ret)) (.skip)))) (.seq (.reg [⟨some 10, none, .load (some 7) (.t 1)⟩, ⟨some 11, none, .callf 84 [(.t 10)]⟩, ⟨some 2, none, .mov (.t 11)⟩, ⟨some 3, none, .mov (.c (.pv (.int .i64 0)))⟩]) (.ret)))
theorem k_machine_Roots : FnOk Tryz.prog 22 12 c_machine_Roots [.tmp 2, .tmp 3] := .mk' (fn := Tryz.f22) rfl rfl (by kernel_rfl) rfl (by kernel_rfl) (by kernel_rfl)
/- "retarget/machine.Part" -/
def c_machine_Part : C :=
.seq (.reg [⟨some 2, none, .box 7 (.t 0)⟩, ⟨some 4, none, .mov (.c (.pv (.int .i64 0)))⟩, ⟨some 5, none, .mov (.c (.pv (.int .i64 0)))⟩, ⟨some 6, none, .mov (.c (.pv (.int .i64 0)))⟩, ⟨some 7, none, .mov (.c (.pv (.int .i64 0)))⟩]) (.seq (.seq (.reg [⟨some 10, none, .load (some 7) (.t 2)⟩, ⟨some 11, none, .callf 14 [(.t 10)]⟩, ⟨some 8, none, .mov (.t 11)⟩]) (.seq (.reg [⟨some 12, none, .mov (.t 8)⟩, ⟨some 13, none, .bin .neq (.t 12) (.c (.pv (.int .i64 0)))⟩]) (.cond (.t 13) (.seq (.reg [⟨some 14, none, .mov (.t 8)⟩, ⟨some 4, none, .mov (.c (.pv (.int .i64 0)))⟩, ⟨some 5, none, .mov (.c (.pv (.int .i64 0)))⟩, ⟨some 6, none, .mov (.c (.pv (.int .i64 0)))⟩, ⟨some 7, none, .mov (.t 14)⟩]) (.ret)) (.skip)))) (.seq (.seq (.reg [⟨some 15, none, .mov (.t 1)⟩, ⟨some 16, none, .fad 3 (.t 2)⟩, ⟨some 17, none, .load none (.t 16)⟩, ⟨some 18, none, .len (.t 17)⟩, ⟨some 19, none, .bin .sub (.t 18) (.c (.pv (.int .i64 1)))⟩, ⟨some 20, none, .callf 58 [(.t 15), (.c (.pv (.int .i64 0))), (.t 19)]⟩, ⟨some 21, none, .un .not (.t 20)⟩]) (.cond (.t 21) (.seq (.reg [⟨some 4, none, .mov (.c (.pv (.int .i64 0)))⟩, ⟨some 5, none, .mov (.c (.pv (.int .i64 0)))⟩, ⟨some 6, none, .mov (.c (.pv (.int .i64 0)))⟩, ⟨some 7, none, .mov (.c (.pv (.int .i64 2)))⟩]) (.ret)) (.skip))) (.seq (.reg [⟨some 22, none, .fad 3 (.t 2)⟩, ⟨some 23, none, .load none (.t 22)⟩, ⟨some 24, none, .mov (.t 1)⟩, ⟨some 25, none, .iad 4 (.t 23) (.t 24)⟩, ⟨some 26, none, .load (some 4) (.t 25)⟩, ⟨some 9, none, .alloc [.pv (.str ⟨#[]⟩), .pv (.int .i64 0), .pv (.int .i64 0), .pv (.int .i64 0)]⟩, ⟨none, none, .store 4 (.t 9) (.t 26)⟩]) (.seq (.seq (.reg [⟨some 27, none, .fad 2 (.t 9)⟩, ⟨some 28, none, .load none (.t 27)⟩, ⟨some 29, none, .bin .geq (.t 28) (.c (.pv (.int .i64 0)))⟩]) (.cond (.t 29) (.reg [⟨some 30, none, .fad 2 (.t 9)⟩, ⟨some 31, none, .load none (.t 30)⟩, ⟨some 1, none, .mov (.t 31)⟩]) (.skip))) (.seq (.reg [⟨some 33, none, .load (some 7) (.t 2)⟩, ⟨some 34, none, .callf 84 [(.t 33)]⟩, ⟨some 35, none, .mov (.t 1)⟩, ⟨some 36, none, .callf 86 [(.t 34), (.t 35)]⟩, ⟨some 32, none, .mov (.t 36)⟩, ⟨some 37, none, .ext (.t 32) 0⟩, ⟨some 38, none, .ext (.t 32) 1⟩, ⟨some 4, none, .mov (.t 37)⟩]) (.seq (.dreg [⟨some 39, none, .mov (.t 4)⟩, ⟨some 40, none, .fad 3 (.t 9)⟩, ⟨some 41, none, .load none (.t 40)⟩, ⟨some 42, none, .fad 1 (.t 9)⟩, ⟨some 43, none, .load none (.t 42)⟩, ⟨some 4, none, .mov (.t 39)⟩, ⟨some 5, none, .mov (.t 41)⟩, ⟨some 6, none, .mov (.t 43)⟩, ⟨some 7, none, .mov (.c (.pv (.int .i64 0)))⟩] [[], [], [1], [], [3], [0], [0, 1, 2, 5], [0, 1, 2, 3, 4, 5, 6], [0, 1, 2, 3, 4, 5, 6, 7]]) (.ret)))))))
theorem k_machine_Part : FnOk Tryz.prog 24 44 c_machine_Part [.tmp 4, .tmp 5, .tmp 6, .tmp 7] := .mk' (fn := Tryz.f24) rfl rfl (by kernel_rfl) rfl (by kernel_rfl) (by kernel_rfl)
/- "retarget/machine.Overlap" -/
def c_machine_Overlap : C :=
.seq (.reg [⟨some 3, none, .box 7 (.t 0)⟩, ⟨some 6, none, .mov (.c (.pv (.bool false)))⟩, ⟨some 7, none, .mov (.c (.pv (.int .i64 0)))⟩]) (.seq (.reg [⟨some 16, none, .load (some 7) (.t 3)⟩, ⟨some 17, none, .mov (.t 1)⟩, ⟨some 18, none, .callf 24 [(.t 16), (.t 17)]⟩, ⟨some 15, none, .mov (.t 18)⟩, ⟨some 19, none, .ext (.t 15) 0⟩, ⟨some 20, none, .ext (.t 15) 1⟩, ⟨some 21, none, .ext (.t 15) 2⟩, ⟨some 22, none, .ext (.t 15) 3⟩, ⟨some 8, none, .mov (.t 19)⟩, ⟨some 9, none, .mov (.t 20)⟩, ⟨some 10, none, .mov (.t 21)⟩, ⟨some 11, none, .mov (.t 22)⟩]) (.seq (.seq (.reg [⟨some 23, none, .mov (.t 11)⟩, ⟨some 24, none, .bin .neq (.t 23) (.c (.pv (.int .i64 0)))⟩]) (.cond (.t 24) (.seq (.reg [⟨some 25, none, .mov (.t 11)⟩, ⟨some 6, none, .mov (.c (.pv (.bool false)))⟩, ⟨some 7, none, .mov (.t 25)⟩]) (.ret)) (.skip))) (.seq (.reg [⟨some 27, none, .load (some 7) (.t 3)⟩, ⟨some 28, none, .mov (.t 2)⟩, ⟨some 29, none, .callf 24 [(.t 27), (.t 28)]⟩, ⟨some 26, none, .mov (.t 29)⟩, ⟨some 30, none, .ext (.t 26) 0⟩, ⟨some 31, none, .ext (.t 26) 1⟩, ⟨some 32, none, .ext (.t 26) 2⟩, ⟨some 33, none, .ext (.t 26) 3⟩, ⟨some 12, none, .mov (.t 30)⟩, ⟨some 13, none, .mov (.t 31)⟩, ⟨some 14, none, .mov (.t 32)⟩, ⟨some 11, none, .mov (.t 33)⟩]) (.seq (.seq (.reg [⟨some 34, none, .mov (.t 11)⟩, ⟨some 35, none, .bin .neq (.t 34) (.c (.pv (.int .i64 0)))⟩]) (.cond (.t 35) (.seq (.reg [⟨some 36, none, .mov (.t 11)⟩, ⟨some 6, none, .mov (.c (.pv (.bool false)))⟩, ⟨some 7, none, .mov (.t 36)⟩]) (.ret)) (.skip))) (.seq (.reg [⟨some 37, none, .mov (.t 8)⟩, ⟨some 38, none, .mov (.t 12)⟩, ⟨some 39, none, .bin .eql (.t 37) (.t 38)⟩, ⟨some 40, none, .mov (.t 39)⟩, ⟨some 41, some (40, true), .mov (.t 9)⟩, ⟨some 42, some (40, true), .mov (.t 13)⟩, ⟨some 43, some (40, true), .mx (.t 41) (.t 42)⟩, ⟨some 44, some (40, true), .mov (.t 9)⟩, ⟨some 45, some (40, true), .mov (.t 10)⟩, ⟨some 46, some (40, true), .bin .add (.t 44) (.t 45)⟩, ⟨some 47, some (40, true), .mov (.t 13)⟩, ⟨some 48, some (40, true), .mov (.t 14)⟩, ⟨some 49, some (40, true), .bin .add (.t 47) (.t 48)⟩, ⟨some 50, some (40, true), .mn (.t 46) (.t 49)⟩, ⟨some 51, some (40, true), .bin .lss (.t 43) (.t 50)⟩, ⟨some 52, none, .land (.t 40) (.t 51)⟩, ⟨some 6, none, .mov (.t 52)⟩, ⟨some 7, none, .mov (.c (.pv (.int .i64 0)))⟩]) (.ret))))))
theorem k_machine_Overlap : FnOk Tryz.prog 26 53 c_machine_Overlap [.tmp 6, .tmp 7] := .mk' (fn := Tryz.f26) rfl rfl (by kernel_rfl) rfl (by kernel_rfl) (by kernel_rfl)
/- "retarget/machine.Read" -/
def c_machine_Read : C :=
.seq (.reg [⟨some 3, none, .box 7 (.t 0)⟩, ⟨some 6, none, .mov (.c (.pv (.int .u64 0)))⟩, ⟨some 7, none, .mov (.c (.pv (.int .i64 0)))⟩]) (.seq (.reg [⟨some 13, none, .load (some 7) (.t 3)⟩, ⟨some 14, none, .mov (.t 1)⟩, ⟨some 15, none, .mov (.t 2)⟩, ⟨some 16, none, .callf 88 [(.t 13), (.t 14), (.t 15)]⟩, ⟨some 12, none, .mov (.t 16)⟩, ⟨some 17, none, .ext (.t 12) 0⟩, ⟨some 18, none, .ext (.t 12) 1⟩, ⟨some 19, none, .ext (.t 12) 2⟩, ⟨some 20, none, .ext (.t 12) 3⟩, ⟨some 8, none, .mov (.t 17)⟩, ⟨some 9, none, .mov (.t 18)⟩, ⟨some 10, none, .mov (.t 19)⟩, ⟨some 11, none, .mov (.t 20)⟩]) (.seq (.seq (.reg [⟨some 21, none, .mov (.t 11)⟩, ⟨some 22, none, .bin .neq (.t 21) (.c (.pv (.int .i64 0)))⟩]) (.cond (.t 22) (.seq (.reg [⟨some 23, none, .mov (.t 11)⟩, ⟨some 6, none, .mov (.c (.pv (.int .u64 0)))⟩, ⟨some 7, none, .mov (.t 23)⟩]) (.ret)) (.skip))) (.seq (.dreg [⟨some 24, none, .mov (.t 1)⟩, ⟨some 25, none, .mov (.t 8)⟩, ⟨some 26, none, .iad 1 (.t 24) (.t 25)⟩, ⟨some 27, none, .load none (.t 26)⟩, ⟨some 28, none, .mov (.t 9)⟩, ⟨some 29, none, .bin .shr (.t 27) (.t 28)⟩, ⟨some 30, none, .mov (.t 10)⟩, ⟨some 31, none, .callf 89 [(.t 30)]⟩, ⟨some 32, none, .bin .and (.t 29) (.t 31)⟩, ⟨some 6, none, .mov (.t 32)⟩, ⟨some 7, none, .mov (.c (.pv (.int .i64 0)))⟩] [[], [], [0, 1], [0, 1, 2], [], [0, 1, 2, 3, 4], [], [6], [0, 1, 2, 3, 4, 5, 6, 7], [0, 1, 2, 3, 4, 5, 6, 7, 8], [0, 1, 2, 3, 4, 5, 6, 7, 8, 9]]) (.ret))))
theorem k_machine_Read : FnOk Tryz.prog 28 33 c_machine_Read [.tmp 6, .tmp 7] := .mk' (fn := Tryz.f28) rfl rfl (by kernel_rfl) rfl (by kernel_rfl) (by kernel_rfl)
/- "retarget/machine.Write" -/
def c_machine_Write : C :=
.seq (.reg [⟨some 4, none, .box 7 (.t 0)⟩, ⟨some 8, none, .mov (.c (.nilS 1))⟩, ⟨some 9, none, .mov (.c (.pv (.int .i64 0)))⟩]) (.seq (.reg [⟨some 17, none, .load (some 7) (.t 4)⟩, ⟨some 18, none, .mov (.t 1)⟩, ⟨some 19, none, .mov (.t 2)⟩, ⟨some 20, none, .callf 88 [(.t 17), (.t 18), (.t 19)]⟩, ⟨some 16, none, .mov (.t 20)⟩, ⟨some 21, none, .ext (.t 16) 0⟩, ⟨some 22, none, .ext (.t 16) 1⟩, ⟨some 23, none, .ext (.t 16) 2⟩, ⟨some 24, none, .ext (.t 16) 3⟩, ⟨some 10, none, .mov (.t 21)⟩, ⟨some 11, none, .mov (.t 22)⟩, ⟨some 12, none, .mov (.t 23)⟩, ⟨some 13, none, .mov (.t 24)⟩]) (.seq (.seq (.reg [⟨some 25, none, .mov (.t 13)⟩, ⟨some 26, none, .bin .neq (.t 25) (.c (.pv (.int .i64 0)))⟩]) (.cond (.t 26) (.seq (.reg [⟨some 27, none, .mov (.t 13)⟩, ⟨some 8, none, .mov (.c (.nilS 1))⟩, ⟨some 9, none, .mov (.t 27)⟩]) (.ret)) (.skip))) (.seq (.seq (.reg [⟨some 28, none, .mov (.t 12)⟩, ⟨some 29, none, .mov (.t 3)⟩, ⟨some 30, none, .callf 92 [(.t 28), (.t 29)]⟩, ⟨some 31, none, .un .not (.t 30)⟩]) (.cond (.t 31) (.seq (.reg [⟨some 8, none, .mov (.c (.nilS 1))⟩, ⟨some 9, none, .mov (.c (.pv (.int .i64 24)))⟩]) (.ret)) (.skip))) (.seq (.reg [⟨some 32, none, .mov (.t 1)⟩, ⟨some 33, none, .callf 93 [(.t 32)]⟩, ⟨some 14, none, .mov (.t 33)⟩]) (.seq (.reg [⟨some 34, none, .mov (.t 12)⟩, ⟨some 35, none, .callf 89 [(.t 34)]⟩, ⟨some 36, none, .mov (.t 11)⟩, ⟨some 37, none, .bin .shl (.t 35) (.t 36)⟩, ⟨some 15, none, .mov (.t 37)⟩]) (.seq (.dreg [⟨some 38, none, .mov (.t 14)⟩, ⟨some 39, none, .mov (.t 10)⟩, ⟨some 40, none, .mov (.t 14)⟩, ⟨some 41, none, .mov (.t 10)⟩, ⟨some 42, none, .iad 1 (.t 40) (.t 41)⟩, ⟨some 43, none, .load none (.t 42)⟩, ⟨some 44, none, .mov (.t 15)⟩, ⟨some 45, none, .bin .andNot (.t 43) (.t 44)⟩, ⟨some 46, none, .mov (.t 3)⟩, ⟨some 47, none, .mov (.t 11)⟩, ⟨some 48, none, .bin .shl (.t 46) (.t 47)⟩, ⟨some 49, none, .bin .or (.t 45) (.t 48)⟩, ⟨some 50, none, .iad 1 (.t 38) (.t 39)⟩, ⟨none, none, .store 1 (.t 50) (.t 49)⟩] [[], [], [], [], [2, 3], [2, 3, 4], [], [2, 3, 4, 5, 6], [], [], [8, 9], [2, 3, 4, 5, 6, 7, 8, 9, 10], [0, 1, 2, 3, 4, 5, 6, 7, 8, 9, 10, 11], [0, 1, 2, 3, 4, 5, 6, 7, 8, 9, 10, 11, 12]]) (.gh (.frz 14) (.seq (.reg [⟨some 51, none, .mov (.t 14)⟩, ⟨some 8, none, .mov (.t 51)⟩, ⟨some 9, none, .mov (.c (.pv (.int .i64 0)))⟩]) (.ret)))))))))
theorem k_machine_Write : FnOk Tryz.prog 30 52 c_machine_Write [.tmp 8, .tmp 9] := .mk' (fn := Tryz.f30) rfl rfl (by kernel_rfl) rfl (by kernel_rfl) (by kernel_rfl)
/- "retarget/machine.Write" -/
def c_machine_Write_M : C :=
.seq (.reg [⟨some 4, none, .box 7 (.t 0)⟩, ⟨some 8, none, .mov (.c (.nilS 1))⟩, ⟨some 9, none, .mov (.c (.pv (.int .i64 0)))⟩]) (.seq (.reg [⟨some 17, none, .load (some 7) (.t 4)⟩, ⟨some 18, none, .mov (.t 1)⟩, ⟨some 19, none, .mov (.t 2)⟩, ⟨some 20, none, .callf 88 [(.t 17), (.t 18), (.t 19)]⟩, ⟨some 16, none, .mov (.t 20)⟩, ⟨some 21, none, .ext (.t 16) 0⟩, ⟨some 22, none, .ext (.t 16) 1⟩, ⟨some 23, none, .ext (.t 16) 2⟩, ⟨some 24, none, .ext (.t 16) 3⟩, ⟨some 10, none, .mov (.t 21)⟩, ⟨some 11, none, .mov (.t 22)⟩, ⟨some 12, none, .mov (.t 23)⟩, ⟨some 13, none, .mov (.t 24)⟩]) (.seq (.seq (.reg [⟨some 25, none, .mov (.t 13)⟩, ⟨some 26, none, .bin .neq (.t 25) (.c (.pv (.int .i64 0)))⟩]) (.cond (.t 26) (.seq (.reg [⟨some 27, none, .mov (.t 13)⟩, ⟨some 8, none, .mov (.c (.nilS 1))⟩, ⟨some 9, none, .mov (.t 27)⟩]) (.ret)) (.skip))) (.seq (.seq (.reg [⟨some 28, none, .mov (.t 12)⟩, ⟨some 29, none, .mov (.t 3)⟩, ⟨some 30, none, .callf 92 [(.t 28), (.t 29)]⟩, ⟨some 31, none, .un .not (.t 30)⟩]) (.cond (.t 31) (.seq (.reg [⟨some 8, none, .mov (.c (.nilS 1))⟩, ⟨some 9, none, .mov (.c (.pv (.int .i64 24)))⟩]) (.ret)) (.skip))) (.seq (.reg [⟨some 32, none, .mov (.t 1)⟩, ⟨some 33, none, .callf 93 [(.t 32)]⟩, ⟨some 14, none, .mov (.t 33)⟩]) (.seq (.reg [⟨some 34, none, .mov (.t 12)⟩, ⟨some 35, none, .callf 89 [(.t 34)]⟩, ⟨some 36, none, .mov (.t 11)⟩, ⟨some 37, none, .bin .shl (.t 35) (.t 36)⟩, ⟨some 15, none, .mov (.t 37)⟩]) (.seq (.dreg [⟨some 38, none, .mov (.t 14)⟩, ⟨some 39, none, .mov (.t 10)⟩, ⟨some 40, none, .mov (.t 14)⟩, ⟨some 41, none, .mov (.t 10)⟩, ⟨some 42, none, .iad 1 (.t 40) (.t 41)⟩, ⟨some 43, none, .load none (.t 42)⟩, ⟨some 44, none, .mov (.t 15)⟩, ⟨some 45, none, .bin .andNot (.t 43) (.t 44)⟩, ⟨some 46, none, .mov (.t 3)⟩, ⟨some 47, none, .mov (.t 11)⟩, ⟨some 48, none, .bin .shl (.t 46) (.t 47)⟩, ⟨some 49, none, .bin .or (.t 45) (.t 48)⟩, ⟨some 50, none, .iad 1 (.t 38) (.t 39)⟩, ⟨none, none, .store 1 (.t 50) (.t 49)⟩] [[], [], [], [], [2, 3], [2, 3, 4], [], [2, 3, 4, 5, 6], [], [], [8, 9], [2, 3, 4, 5, 6, 7, 8, 9, 10], [0, 1, 2, 3, 4, 5, 6, 7, 8, 9, 10, 11], [0, 1, 2, 3, 4, 5, 6, 7, 8, 9, 10, 11, 12]]) (.seq (.reg [⟨some 51, none, .mov (.t 14)⟩, ⟨some 8, none, .mov (.t 51)⟩, ⟨some 9, none, .mov (.c (.pv (.int .i64 0)))⟩]) (.ret))))))))
theorem k_machine_Write_M : FnOk Tryz.prog 30 52 c_machine_Write_M [.tmp 8, .tmp 9] := .mk' (fn := Tryz.f30) rfl rfl (by kernel_rfl) rfl (by kernel_rfl) (by kernel_rfl)
/- "retarget/machine.find[retarget/api.MachReg]" -/
def c_machine_find_api_MachReg : C :=
.seq (.reg [⟨some 3, none, .box 7 (.t 0)⟩, ⟨some 6, none, .mov (.c (.pv (.int .i64 0)))⟩, ⟨some 7, none, .mov (.c (.pv (.int .i64 0)))⟩]) (.seq (.seq (.reg [⟨some 10, none, .load (some 7) (.t 3)⟩, ⟨some 11, none, .callf 14 [(.t 10)]⟩, ⟨some 8, none, .mov (.t 11)⟩]) (.seq (.reg [⟨some 12, none, .mov (.t 8)⟩, ⟨some 13, none, .bin .neq (.t 12) (.c (.pv (.int .i64 0)))⟩]) (.cond (.t 13) (.seq (.reg [⟨some 14, none, .mov (.t 8)⟩, ⟨some 6, none, .mov (.c (.pv (.int .i64 0)))⟩, ⟨some 7, none, .mov (.t 14)⟩]) (.ret)) (.skip)))) (.seq (.reg [⟨some 15, none, .mov (.t 1)⟩, ⟨some 16, none, .mov (.t 2)⟩, ⟨some 17, none, .callf 121 [(.t 15), (.t 16)]⟩, ⟨some 9, none, .mov (.t 17)⟩]) (.seq (.seq (.reg [⟨some 18, none, .mov (.t 9)⟩, ⟨some 19, none, .bin .lss (.t 18) (.c (.pv (.int .i64 0)))⟩]) (.cond (.t 19) (.seq (.reg [⟨some 6, none, .mov (.c (.pv (.int .i64 0)))⟩, ⟨some 7, none, .mov (.c (.pv (.int .i64 6)))⟩]) (.ret)) (.skip))) (.seq (.reg [⟨some 20, none, .mov (.t 9)⟩, ⟨some 6, none, .mov (.t 20)⟩, ⟨some 7, none, .mov (.c (.pv (.int .i64 0)))⟩]) (.ret)))))
theorem k_machine_find_api_MachReg : FnOk Tryz.prog 80 21 c_machine_find_api_MachReg [.tmp 6, .tmp 7] := .mk' (fn := Tryz.f80) rfl rfl (by kernel_rfl) rfl (by kernel_rfl) (by kernel_rfl)
/- "retarget/machine.Register$1" -/
def c_machine_Register_1 : C :=
.seq (.reg [⟨some 2, none, .box 4 (.t 0)⟩, ⟨some 3, none, .mov (.c (.pv (.bool false)))⟩]) (.seq (.reg [⟨some 4, none, .fad 0 (.t 2)⟩, ⟨some 5, none, .load none (.t 4)⟩, ⟨some 6, none, .load none (.t 1)⟩, ⟨some 7, none, .bin .eql (.t 5) (.t 6)⟩, ⟨some 3, none, .mov (.t 7)⟩]) (.ret))
theorem k_machine_Register_1 : FnOk Tryz.prog 81 8 c_machine_Register_1 [.tmp 3] := .mk' (fn := Tryz.f81) rfl rfl (by kernel_rfl) rfl (by kernel_rfl) (by kernel_rfl)
/- "retarget/machine.find[retarget/api.MachInstr]" -/
def c_machine_find_api_MachInstr : C :=
.seq (.reg [⟨some 3, none, .box 7 (.t 0)⟩, ⟨some 6, none, .mov (.c (.pv (.int .i64 0)))⟩, ⟨some 7, none, .mov (.c (.pv (.int .i64 0)))⟩]) (.seq (.seq (.reg [⟨some 10, none, .load (some 7) (.t 3)⟩, ⟨some 11, none, .callf 14 [(.t 10)]⟩, ⟨some 8, none, .mov (.t 11)⟩]) (.seq (.reg [⟨some 12, none, .mov (.t 8)⟩, ⟨some 13, none, .bin .neq (.t 12) (.c (.pv (.int .i64 0)))⟩]) (.cond (.t 13) (.seq (.reg [⟨some 14, none, .mov (.t 8)⟩, ⟨some 6, none, .mov (.c (.pv (.int .i64 0)))⟩, ⟨some 7, none, .mov (.t 14)⟩]) (.ret)) (.skip)))) (.seq (.reg [⟨some 15, none, .mov (.t 1)⟩, ⟨some 16, none, .mov (.t 2)⟩, ⟨some 17, none, .callf 122 [(.t 15), (.t 16)]⟩, ⟨some 9, none, .mov (.t 17)⟩]) (.seq (.seq (.reg [⟨some 18, none, .mov (.t 9)⟩, ⟨some 19, none, .bin .lss (.t 18) (.c (.pv (.int .i64 0)))⟩]) (.cond (.t 19) (.seq (.reg [⟨some 6, none, .mov (.c (.pv (.int .i64 0)))⟩, ⟨some 7, none, .mov (.c (.pv (.int .i64 6)))⟩]) (.ret)) (.skip))) (.seq (.reg [⟨some 20, none, .mov (.t 9)⟩, ⟨some 6, none, .mov (.t 20)⟩, ⟨some 7, none, .mov (.c (.pv (.int .i64 0)))⟩]) (.ret)))))
theorem k_machine_find_api_MachInstr : FnOk Tryz.prog 82 21 c_machine_find_api_MachInstr [.tmp 6, .tmp 7] := .mk' (fn := Tryz.f82) rfl rfl (by kernel_rfl) rfl (by kernel_rfl) (by kernel_rfl)
/- "retarget/machine.Instruction$1" -/
def c_machine_Instruction_1 : C :=
.seq (.reg [⟨some 2, none, .box 9 (.t 0)⟩, ⟨some 3, none, .mov (.c (.pv (.bool false)))⟩]) (.seq (.reg [⟨some 4, none, .fad 0 (.t 2)⟩, ⟨some 5, none, .load none (.t 4)⟩, ⟨some 6, none, .load none (.t 1)⟩, ⟨some 7, none, .bin .eql (.t 5) (.t 6)⟩, ⟨some 3, none, .mov (.t 7)⟩]) (.ret))
theorem k_machine_Instruction_1 : FnOk Tryz.prog 83 8 c_machine_Instruction_1 [.tmp 3] := .mk' (fn := Tryz.f83) rfl rfl (by kernel_rfl) rfl (by kernel_rfl) (by kernel_rfl)
/- "retarget/machine.tops" -/
def c_machine_tops : C :=
.seq (.reg [⟨some 1, none, .box 7 (.t 0)⟩, ⟨some 2, none, .mov (.c (.nilS 1))⟩]) (.seq (.reg [⟨some 3, none, .mov (.c (.nilS 1))⟩]) (.gh (.own 3 1) (.seq (.seq (.reg [⟨some 6, none, .fad 3 (.t 1)⟩, ⟨some 7, none, .load none (.t 6)⟩, ⟨some 8, none, .len (.t 7)⟩, ⟨some 9, none, .mov (.c (.pv (.int .i64 0)))⟩]) (.blk 0 (.loop ⟨[3, 7, 8, 9], [0, 1], 2⟩ (.seq (.reg [⟨some 10, none, .bin .lss (.t 9) (.t 8)⟩]) (.seq (.cond (.t 10) (.skip) (.ext 0)) (.seq (.blk 1 (.seq (.reg [⟨some 11, none, .mov (.t 9)⟩, ⟨some 12, none, .iad 4 (.t 7) (.t 9)⟩, ⟨some 13, none, .load (some 4) (.t 12)⟩, ⟨some 5, none, .alloc [.pv (.str ⟨#[]⟩), .pv (.int .i64 0), .pv (.int .i64 0), .pv (.int .i64 0)]⟩, ⟨some 4, none, .mov (.t 11)⟩, ⟨none, none, .store 4 (.t 5) (.t 13)⟩]) (.seq (.reg [⟨some 14, none, .fad 2 (.t 5)⟩, ⟨some 15, none, .load none (.t 14)⟩, ⟨some 16, none, .bin .eql (.t 15) (.c (.pv (.int .i64 (-1))))⟩]) (.cond (.t 16) (.reg [⟨some 17, none, .mov (.t 3)⟩, ⟨some 18, none, .mov (.t 4)⟩, ⟨some 19, none, .lit 1 [(.t 18)]⟩, ⟨some 20, none, .app 1 8 (.t 17) (.t 19)⟩, ⟨some 3, none, .mov (.t 20)⟩]) (.skip))))) (.reg [⟨some 21, none, .bin .add (.t 9) (.c (.pv (.int .i64 1)))⟩, ⟨some 9, none, .mov (.t 21)⟩]))))))) (.seq (.reg [⟨some 22, none, .mov (.t 3)⟩, ⟨some 2, none, .mov (.t 22)⟩]) (.ret)))))
theorem k_machine_tops : FnOk Tryz.prog 84 23 c_machine_tops [.tmp 2] := .mk' (fn := Tryz.f84) rfl rfl (by kernel_rfl) rfl (by kernel_rfl) (by kernel_rfl)
/- "retarget/machine.locate" -/
def c_machine_locate : C :=
.seq (.reg [⟨some 3, none, .box 7 (.t 0)⟩, ⟨some 6, none, .mov (.c (.pv (.int .i64 0)))⟩, ⟨some 7, none, .mov (.c (.pv (.int .i64 0)))⟩, ⟨some 8, none, .mov (.c (.pv (.int .i64 0)))⟩, ⟨some 9, none, .mov (.c (.pv (.int .i64 0)))⟩]) (.seq (.reg [⟨some 14, none, .load (some 7) (.t 3)⟩, ⟨some 15, none, .mov (.t 2)⟩, ⟨some 16, none, .callf 24 [(.t 14), (.t 15)]⟩, ⟨some 13, none, .mov (.t 16)⟩, ⟨some 17, none, .ext (.t 13) 0⟩, ⟨some 18, none, .ext (.t 13) 1⟩, ⟨some 19, none, .ext (.t 13) 2⟩, ⟨some 20, none, .ext (.t 13) 3⟩, ⟨some 6, none, .mov (.t 17)⟩, ⟨some 7, none, .mov (.t 18)⟩, ⟨some 8, none, .mov (.t 19)⟩, ⟨some 9, none, .mov (.t 20)⟩]) (.seq (.seq (.reg [⟨some 21, none, .mov (.t 9)⟩, ⟨some 22, none, .bin .neq (.t 21) (.c (.pv (.int .i64 0)))⟩]) (.cond (.t 22) (.seq (.reg [⟨some 23, none, .mov (.t 9)⟩, ⟨some 6, none, .mov (.c (.pv (.int .i64 0)))⟩, ⟨some 7, none, .mov (.c (.pv (.int .i64 0)))⟩, ⟨some 8, none, .mov (.c (.pv (.int .i64 0)))⟩, ⟨some 9, none, .mov (.t 23)⟩]) (.ret)) (.skip))) (.seq (.reg [⟨some 24, none, .load (some 7) (.t 3)⟩, ⟨some 25, none, .callf 84 [(.t 24)]⟩, ⟨some 10, none, .mov (.t 25)⟩]) (.seq (.seq (.reg [⟨some 26, none, .mov (.t 10)⟩, ⟨some 27, none, .len (.t 26)⟩, ⟨some 28, none, .mov (.t 1)⟩, ⟨some 29, none, .len (.t 28)⟩, ⟨some 30, none, .bin .neq (.t 27) (.t 29)⟩]) (.cond (.t 30) (.seq (.reg [⟨some 6, none, .mov (.c (.pv (.int .i64 0)))⟩, ⟨some 7, none, .mov (.c (.pv (.int .i64 0)))⟩, ⟨some 8, none, .mov (.c (.pv (.int .i64 0)))⟩, ⟨some 9, none, .mov (.c (.pv (.int .i64 14)))⟩]) (.ret)) (.skip))) (.seq (.seq (.reg [⟨some 31, none, .mov (.t 1)⟩, ⟨some 32, none, .len (.t 31)⟩, ⟨some 33, none, .mov (.c (.pv (.int .i64 0)))⟩]) (.blk 0 (.loop ⟨[3, 6, 7, 8, 10, 31, 32, 33], [0], 1⟩ (.seq (.reg [⟨some 34, none, .bin .lss (.t 33) (.t 32)⟩]) (.seq (.cond (.t 34) (.skip) (.ext 0)) (.seq (.blk 1 (.seq (.reg [⟨some 35, none, .mov (.t 33)⟩, ⟨some 36, none, .iad 1 (.t 31) (.t 33)⟩, ⟨some 37, none, .load none (.t 36)⟩, ⟨some 11, none, .mov (.t 35)⟩, ⟨some 12, none, .mov (.t 37)⟩]) (.seq (.dreg [⟨some 38, none, .fad 3 (.t 3)⟩, ⟨some 39, none, .load none (.t 38)⟩, ⟨some 40, none, .mov (.t 10)⟩, ⟨some 41, none, .mov (.t 11)⟩, ⟨some 42, none, .iad 1 (.t 40) (.t 41)⟩, ⟨some 43, none, .load none (.t 42)⟩, ⟨some 44, none, .iad 4 (.t 39) (.t 43)⟩, ⟨some 45, none, .fad 1 (.t 44)⟩, ⟨some 46, none, .load none (.t 45)⟩, ⟨some 47, none, .mov (.t 12)⟩, ⟨some 48, none, .callf 92 [(.t 46), (.t 47)]⟩, ⟨some 49, none, .un .not (.t 48)⟩] [[], [0], [], [], [2, 3], [2, 3, 4], [0, 1, 2, 3, 4, 5], [0, 1, 2, 3, 4, 5, 6], [0, 1, 2, 3, 4, 5, 6, 7], [], [0, 1, 2, 3, 4, 5, 6, 7, 8, 9], [0, 1, 2, 3, 4, 5, 6, 7, 8, 9, 10]]) (.cond (.t 49) (.seq (.reg [⟨some 6, none, .mov (.c (.pv (.int .i64 0)))⟩, ⟨some 7, none, .mov (.c (.pv (.int .i64 0)))⟩, ⟨some 8, none, .mov (.c (.pv (.int .i64 0)))⟩, ⟨some 9, none, .mov (.c (.pv (.int .i64 14)))⟩]) (.ret)) (.skip))))) (.reg [⟨some 50, none, .bin .add (.t 33) (.c (.pv (.int .i64 1)))⟩, ⟨some 33, none, .mov (.t 50)⟩]))))))) (.seq (.reg [⟨some 51, none, .mov (.t 6)⟩, ⟨some 52, none, .mov (.t 7)⟩, ⟨some 53, none, .mov (.t 8)⟩, ⟨some 6, none, .mov (.t 51)⟩, ⟨some 7, none, .mov (.t 52)⟩, ⟨some 8, none, .mov (.t 53)⟩, ⟨some 9, none, .mov (.c (.pv (.int .i64 0)))⟩]) (.ret)))))))
theorem k_machine_locate : FnOk Tryz.prog 88 54 c_machine_locate [.tmp 6, .tmp 7, .tmp 8, .tmp 9] := .mk' (fn := Tryz.f88) rfl rfl (by kernel_rfl) rfl (by kernel_rfl) (by kernel_rfl)
end Go.Proofs.YteiampdhhigjcaaGreatDoorV

/- Plain law: values of registers. -/
namespace Go.Proofs.YteiampdhhigjcaaGreatDoorV
open Go

/-- Values fit the roots. -/
def fitsR (m : Mach) (rs : List Int) : Bool := decide ((tops m).length = rs.length) && allB rs.length fun i => decide (gt rs (i : Nat) < 2 ^ (gt m.regs (gt (tops m) (i : Nat))).width.toNat)
def valE (m : Mach) (rs : List Int) (reg : Int) : Int := if partE m reg = 0 then if fitsR m rs = true then 0 else 14 else partE m reg
/-- Bits of a number from a lowest one on. -/
def fldN (x low n : Nat) : Nat := x / 2 ^ low % 2 ^ n
def putN (old low n x : Nat) : Nat := old % 2 ^ low + (x % 2 ^ n + old / 2 ^ (low + n) * 2 ^ n) * 2 ^ low
def rootV (m : Mach) (rs : List Int) (reg : Int) : Int := gt rs (partI m reg).1
def readI (m : Mach) (rs : List Int) (reg : Int) : Int := if valE m rs reg = 0 then (fldN (rootV m rs reg).toNat (partI m reg).2.1.toNat (partI m reg).2.2.toNat : Nat) else 0
def writeE (m : Mach) (rs : List Int) (reg x : Int) : Int := if valE m rs reg = 0 then if x < 2 ^ (partI m reg).2.2.toNat then 0 else 24 else valE m rs reg
def writeL (m : Mach) (rs : List Int) (reg x : Int) : List Int := if writeE m rs reg x = 0 then rs.set (partI m reg).1.toNat ((putN (rootV m rs reg).toNat (partI m reg).2.1.toNat (partI m reg).2.2.toNat x.toNat : Nat) : Int) else []

theorem fldN_bit (x low n i : Nat) : (fldN x low n).testBit i = (decide (i < n) && x.testBit (low + i)) := by
  rw [fldN, Nat.testBit_mod_two_pow, Nat.testBit_div_two_pow, Nat.add_comm]
theorem add_mul_bit {a b n : Nat} (h : a < 2 ^ n) (i : Nat) : (a + b * 2 ^ n).testBit i = if i < n then a.testBit i else b.testBit (i - n) := by
  rw [Nat.add_comm, Nat.mul_comm, Nat.testBit_two_pow_mul_add b h]
theorem putN_bit (old low n x i : Nat) : (putN old low n x).testBit i = if low ≤ i ∧ i < low + n then x.testBit (i - low) else old.testBit i := by
  rw [putN, add_mul_bit (Nat.mod_lt _ (Nat.two_pow_pos low)), add_mul_bit (Nat.mod_lt _ (Nat.two_pow_pos n))]
  by_cases h1 : i < low
  · rw [if_pos h1, if_neg (by omega), Nat.testBit_mod_two_pow]; simp [h1]
  · rw [if_neg h1]
    by_cases h2 : i - low < n
    · rw [if_pos h2, if_pos (by omega), Nat.testBit_mod_two_pow]; simp [h2]
    · rw [if_neg h2, if_neg (by omega), Nat.testBit_div_two_pow]
      congr 1; omega
theorem putN_lt {old low n x k : Nat} (ho : old < 2 ^ k) (h : low + n ≤ k) : putN old low n x < 2 ^ k := by
  apply Nat.lt_pow_two_of_testBit
  intro i hi
  rw [putN_bit, if_neg (by omega)]
  exact Nat.testBit_lt_two_pow (Nat.lt_of_lt_of_le ho (Nat.pow_le_pow_right (by omega) hi))
theorem mask_bit (n low i : Nat) : ((2 ^ n - 1) <<< low).testBit i = (decide (low ≤ i) && decide (i < low + n)) := by
  rw [Nat.testBit_shiftLeft, Nat.testBit_two_pow_sub_one]
  by_cases h : low ≤ i
  · simp [h]; omega
  · simp [h]
theorem shl_bit (x low i : Nat) : (x <<< low).testBit i = (decide (low ≤ i) && x.testBit (i - low)) := by
  rw [Nat.testBit_shiftLeft]
theorem bits_lt {x n i : Nat} (h : x < 2 ^ n) (hb : x.testBit i = true) : i < n := by
  rcases Nat.lt_or_ge i n with hi | hi
  · exact hi
  · rw [Nat.testBit_lt_two_pow (Nat.lt_of_lt_of_le h (Nat.pow_le_pow_right (by omega) hi))] at hb; simp at hb
theorem put_eq {n l w x : Nat} (hn : n < 2 ^ 64) (hx : x < 2 ^ w) (hlw : l + w ≤ 64) : (n &&& (2 ^ 64 - 1 - ((2 ^ w - 1) <<< l))) ||| (x <<< l) = putN n l w x := by
  have hm : (2 ^ w - 1) <<< l < 2 ^ 64 := by
    apply Nat.lt_pow_two_of_testBit
    intro i hi
    rw [mask_bit]; simp; omega
  apply Nat.eq_of_testBit_eq
  intro i
  rw [putN_bit, Nat.testBit_or, Nat.testBit_and, shl_bit, show 2 ^ 64 - 1 - ((2 ^ w - 1) <<< l) = 2 ^ 64 - ((2 ^ w - 1) <<< l + 1) by omega, Nat.testBit_two_pow_sub_succ hm, mask_bit]
  by_cases h1 : l ≤ i
  · by_cases h2 : i < l + w
    · have : i < 64 := by omega
      simp [h1, h2, this]
    · have h3 : x.testBit (i - l) = false := by
        rw [Bool.eq_false_iff]; intro hb; have := bits_lt hx hb; omega
      simp only [h1, h2, h3, decide_true, decide_false, Bool.and_false, Bool.or_false, Bool.not_false, Bool.and_true, and_false, if_false]
      cases hb : n.testBit i
      · rfl
      · have := bits_lt hn hb; simp [this]
  · simp only [h1, decide_false, Bool.false_and, Bool.or_false, Bool.not_false, Bool.and_true, false_and, if_false]
    cases hb : n.testBit i
    · rfl
    · have := bits_lt hn hb; simp [this]
theorem mod_succ (x i : Nat) : x % 2 ^ (i + 1) = x % 2 ^ i + (if x.testBit i then 2 ^ i else 0) := by
  rw [Nat.pow_succ, Nat.mod_mul, Nat.testBit_eq_decide_div_mod_eq]
  by_cases h : x / 2 ^ i % 2 = 1
  · simp [h]
  · have : x / 2 ^ i % 2 = 0 := by omega
    simp [this]
theorem fldN_succ (x low i : Nat) : fldN x low (i + 1) = fldN x low i + (if x.testBit (low + i) then 2 ^ i else 0) := by
  rw [fldN, mod_succ, fldN, Nat.testBit_div_two_pow, Nat.add_comm i low]
theorem low_of2 {m : Mach} (hr : okRegs m = true) {reg : Int} (h : inR reg 0 (m.regs.length - 1) = true) : (gt m.regs reg).low + (gt m.regs reg).width ≤ 64 := by
  have h1 : 0 ≤ reg ∧ reg ≤ (m.regs.length : Int) - 1 := by simpa [inR] using h
  simp only [okRegs, Bool.and_eq_true] at hr
  have h2 := allB_true.1 hr.1 reg.toNat (by omega)
  simp only [rgOk, Bool.and_eq_true] at h2
  rw [Int.toNat_of_nonneg h1.1] at h2
  have h3 := h2.2
  have h4 : 1 ≤ (gt m.regs reg).width ∧ (gt m.regs reg).width ≤ 64 := by simpa [inR] using h2.1.1.2
  split at h3
  · simp only [decide_eq_true_eq] at h3; omega
  · simp only [Bool.and_eq_true, decide_eq_true_eq] at h3
    have h5 : 1 ≤ (gt m.regs (gt m.regs reg).of).width ∧ (gt m.regs (gt m.regs reg).of).width ≤ 64 := by simpa [inR] using h3.2.1.1.2
    have h6 : 0 ≤ (gt m.regs reg).low ∧ (gt m.regs reg).low ≤ (gt m.regs (gt m.regs reg).of).width - (gt m.regs reg).width := by simpa [inR] using h3.2.2
    omega
theorem partE_zero {m : Mach} {reg : Int} (h : partE m reg = 0) : mcheck m = 0 ∧ inR reg 0 (m.regs.length - 1) = true := by
  unfold partE at h
  split at h
  · rename_i hc
    refine ⟨hc, ?_⟩
    split at h
    · assumption
    · omega
  · rename_i hc; exact absurd h hc
/-- The place of a register's root, its lowest bit, its width. -/
theorem part_ok {m : Mach} {reg : Int} (h : partE m reg = 0) : ∃ p l w : Nat, partI m reg = ((p : Int), (l : Int), (w : Int)) ∧ p < (tops m).length ∧ 1 ≤ w ∧ l + w ≤ 64 ∧ (gt m.regs reg).width = w ∧ (gt m.regs reg).low = l := by
  obtain ⟨hc, hi⟩ := partE_zero h
  obtain ⟨hr, -⟩ := mcheck_regs hc
  have h1 := low_of hr hi
  have h2 := low_of2 hr hi
  have h3 := place_gt (topOf_mem hr hi)
  refine ⟨place (tops m) (topOf m reg), (gt m.regs reg).low.toNat, (gt m.regs reg).width.toNat, ?_, h3.1, by omega, by omega, by omega, by omega⟩
  simp only [partI, hi, if_true]
  rw [Int.toNat_of_nonneg (by omega), Int.toNat_of_nonneg (by omega)]
theorem valE_ok {m : Mach} {rs : List Int} {reg : Int} (h : valE m rs reg = 0) : partE m reg = 0 ∧ (tops m).length = rs.length ∧ fitsR m rs = true := by
  unfold valE at h
  split at h
  · rename_i hp
    refine ⟨hp, ?_⟩
    split at h
    · rename_i hf
      refine ⟨?_, hf⟩
      simp only [fitsR, Bool.and_eq_true, decide_eq_true_eq] at hf
      exact hf.1
    · omega
  · rename_i hp; exact absurd h hp
theorem words_wf {rs : List Int} (h : (DV.pv (.lst 1 (words rs))).wf) : (∀ x ∈ rs, 0 ≤ x ∧ x ≤ 18446744073709551615) ∧ rs.length ≤ 9223372036854775807 := by
  simp [words, maxLen, IntKind.min, IntKind.max, IntKind.signed, IntKind.bits] at h
  exact ⟨fun x hx => h.2 x hx, h.1⟩
/-- A root's register is one of the machine's. -/
theorem tops_reg {m : Mach} {i : Nat} (h : i < (tops m).length) : 0 ≤ gt (tops m) (i : Nat) ∧ gt (tops m) (i : Nat) < m.regs.length := topsN_lt m _ _ (gt_mem (l := tops m) (by omega) (by omega))
end Go.Proofs.YteiampdhhigjcaaGreatDoorV

/- Contracts: layer 8 of the program: Register, Instruction. -/
namespace Go.Proofs.YteiampdhhigjcaaGreatDoorV
open Go
set_option maxRecDepth 100000
set_option maxHeartbeats 4000000

/-- Check's answer. -/
theorem mach_masks {m : Mach} (h : m.pv.wf) : ∀ s ∈ m.instrs, (0 ≤ s.mask ∧ s.mask ≤ 18446744073709551615) ∧ 0 ≤ s.mtch ∧ s.mtch ≤ 18446744073709551615 := by
  rw [Mach.wf_pv] at h; simp [-Mach.fold, maxLen] at h
  obtain ⟨-, -, -, -, -, -, -, h6⟩ := h
  intro s hs
  have := h6 s hs; rw [Ins_.wf_pv] at this; simp [-Ins_.fold, maxLen, IntKind.min, IntKind.max, IntKind.signed, IntKind.bits] at this
  exact ⟨this.2.1, this.2.2.1⟩
theorem p_mCheck {m : Mach} (hwf : m.pv.wf) (ht : mTerms m) : PCall Tryz.prog glob 14 [.pv m.pv] (.pv (.int .i64 (mcheck m))) := by
  have := p_machine_Check m ht
  rwa [mcheck_eq (mach_masks hwf)] at this
theorem p_machine_Register_1 (gl : Glob) (n : ByteArray) (r : Reg) : ACall Tryz.prog gl (.func 81) 1 [.pv r.pv, .ptr 0 0] [(0, .box [.pv (.str n)])] (.pv (.bool (decide (r.name = n)))) [(0, .box [.pv (.str n)])] 1 := by
  refine k_machine_Register_1.acall (by simp) (by simp) (by simp) (by simp) (by simp) (by simp) fun hwf => ?_
  simp [c_machine_Register_1]
  exact ⟨[0], by simp⟩
theorem p_IndexFunc_machine_Register (gl : Glob) (n : ByteArray) (l : List Reg) : ACall Tryz.prog gl (.func 121) 1 [.pv (.lst 4 (l.map Reg.pv)), .fn (.func 81) [] [.ptr 0 0]] [(0, .box [.pv (.str n)])] (.pv (.int .i64 (fstI (fun x : Reg => decide (x.name = n)) l))) [(0, .box [.pv (.str n)])] 1 := by
  refine k_slices_IndexFunc_api_MachReg_api_MachReg.acall (by simp) (by simp) (by simp) (by simp) (by simp) (by simp) fun hwf => ?_
  have hb : l.length ≤ 9223372036854775807 := by have := hwf (.pv (.lst 4 (l.map Reg.pv))) (by simp); simp [maxLen] at this; exact this.1
  simp [c_slices_IndexFunc_api_MachReg_api_MachReg]
  refine Loop.nat (fun i => { e := [(0, .pv (.lst 4 (l.map Reg.pv))), (1, .fn (.func 81) [] [.ptr 0 0]), (7, .pv (.int .i64 l.length)), (8, .pv (.int .i64 i))], h := [(0, .box [.pv (.str n)])], nx := 1 }) l.length (fun i => ∀ j, j < i → decide ((gt l (j : Nat)).name = n) = false) (by simp [DV.nm_fn]) (by simp) (by simp) fun i hi hinv => ?_
  by_cases hlt : i < l.length
  · simp [hlt, evFn]
    refine CallNext.obs [0] (p_machine_Register_1 gl n (gt l i)) (by simp) (by simp) (by simp) (by simp) fun _ => ?_
    simp [hlt, DV.nm_fn]
    refine ⟨fun h => ⟨(fstI_some (p := fun x : Reg => decide (x.name = n)) hlt (by simpa using h) hinv).symm, [0], by simp⟩, fun h => ⟨fun j hj => ?_, wrap_nat (by omega) (by omega)⟩⟩
    rcases Nat.lt_or_eq_of_le (Nat.le_of_lt_succ hj) with hj | rfl
    · simpa using hinv j hj
    · exact h
  · simp [hlt]
    exact ⟨(fstI_none (p := fun x : Reg => decide (x.name = n)) fun j hj => hinv j (by omega)).symm, [0], by simp⟩
theorem p_find_machine_Register (m : Mach) (n : ByteArray) (l : List Reg) (ht : mTerms m) :
    ACall Tryz.prog glob (.func 80) 1 [.pv m.pv, .pv (.lst 4 (l.map Reg.pv)), .fn (.func 81) [] [.ptr 0 0]] [(0, .box [.pv (.str n)])] (.tup [.pv (.int .i64 (fndI m l fun x : Reg => decide (x.name = n))), .pv (.int .i64 (fndE m l fun x : Reg => decide (x.name = n)))]) [(0, .box [.pv (.str n)])] 1 := by
  refine k_machine_find_api_MachReg.acall (by simp) (by simp) (by simp) (by simp) (by simp) (by simp) fun hwf => ?_
  have hm : m.pv.wf := by have := hwf (.pv m.pv) (by simp); simpa only [DV.wf] using this
  simp [c_machine_find_api_MachReg]
  refine CallNext.pure (p_mCheck hm ht) fun _ => ?_
  simp
  refine ⟨fun h => ⟨⟨by simp [fndI, h], by simp [fndE, h]⟩, [0], by simp⟩, fun h => ?_⟩
  refine CallNext.obs [0] (p_IndexFunc_machine_Register glob n l) (by simp) (by simp) (by simp) (by simp) fun _ => ?_
  simp
  refine ⟨fun h2 => ⟨⟨by simp [fndI, h, h2], by simp [fndE, h, h2]⟩, [0], by simp⟩, fun h2 => ⟨⟨?_, ?_⟩, [0], by simp⟩⟩
  · simp only [fndI, h, if_true]; rw [if_neg (by omega)]
  · simp only [fndE, h, if_true]; rw [if_neg (by omega)]
theorem p_machine_Register (m : Mach) (n : ByteArray) (ht : mTerms m) : PCall Tryz.prog glob 18 [.pv m.pv, .pv (.str n)] (.tup [.pv (.int .i64 (fndI m m.regs fun x : Reg => decide (x.name = n))), .pv (.int .i64 (fndE m m.regs fun x : Reg => decide (x.name = n)))]) := by
  refine k_machine_Register.pcall (by simp) (by simp) (by simp) fun hwf => ?_
  simp [c_machine_Register]
  refine CallNext.obs [1] (p_find_machine_Register m n m.regs ht) (by simp) (by simp) (by simp) (by simp) fun _ => ?_
  simp
theorem p_machine_Instruction_1 (gl : Glob) (n : ByteArray) (r : Ins_) : ACall Tryz.prog gl (.func 83) 1 [.pv r.pv, .ptr 0 0] [(0, .box [.pv (.str n)])] (.pv (.bool (decide (r.name = n)))) [(0, .box [.pv (.str n)])] 1 := by
  refine k_machine_Instruction_1.acall (by simp) (by simp) (by simp) (by simp) (by simp) (by simp) fun hwf => ?_
  simp [c_machine_Instruction_1]
  exact ⟨[0], by simp⟩
theorem p_IndexFunc_machine_Instruction (gl : Glob) (n : ByteArray) (l : List Ins_) : ACall Tryz.prog gl (.func 122) 1 [.pv (.lst 9 (l.map Ins_.pv)), .fn (.func 83) [] [.ptr 0 0]] [(0, .box [.pv (.str n)])] (.pv (.int .i64 (fstI (fun x : Ins_ => decide (x.name = n)) l))) [(0, .box [.pv (.str n)])] 1 := by
  refine k_slices_IndexFunc_api_MachInstr_api_MachInstr.acall (by simp) (by simp) (by simp) (by simp) (by simp) (by simp) fun hwf => ?_
  have hb : l.length ≤ 9223372036854775807 := by have := hwf (.pv (.lst 9 (l.map Ins_.pv))) (by simp); simp [maxLen] at this; exact this.1
  simp [c_slices_IndexFunc_api_MachInstr_api_MachInstr]
  refine Loop.nat (fun i => { e := [(0, .pv (.lst 9 (l.map Ins_.pv))), (1, .fn (.func 83) [] [.ptr 0 0]), (7, .pv (.int .i64 l.length)), (8, .pv (.int .i64 i))], h := [(0, .box [.pv (.str n)])], nx := 1 }) l.length (fun i => ∀ j, j < i → decide ((gt l (j : Nat)).name = n) = false) (by simp [DV.nm_fn]) (by simp) (by simp) fun i hi hinv => ?_
  by_cases hlt : i < l.length
  · simp [hlt, evFn]
    refine CallNext.obs [0] (p_machine_Instruction_1 gl n (gt l i)) (by simp) (by simp) (by simp) (by simp) fun _ => ?_
    simp [hlt, DV.nm_fn]
    refine ⟨fun h => ⟨(fstI_some (p := fun x : Ins_ => decide (x.name = n)) hlt (by simpa using h) hinv).symm, [0], by simp⟩, fun h => ⟨fun j hj => ?_, wrap_nat (by omega) (by omega)⟩⟩
    rcases Nat.lt_or_eq_of_le (Nat.le_of_lt_succ hj) with hj | rfl
    · simpa using hinv j hj
    · exact h
  · simp [hlt]
    exact ⟨(fstI_none (p := fun x : Ins_ => decide (x.name = n)) fun j hj => hinv j (by omega)).symm, [0], by simp⟩
theorem p_find_machine_Instruction (m : Mach) (n : ByteArray) (l : List Ins_) (ht : mTerms m) :
    ACall Tryz.prog glob (.func 82) 1 [.pv m.pv, .pv (.lst 9 (l.map Ins_.pv)), .fn (.func 83) [] [.ptr 0 0]] [(0, .box [.pv (.str n)])] (.tup [.pv (.int .i64 (fndI m l fun x : Ins_ => decide (x.name = n))), .pv (.int .i64 (fndE m l fun x : Ins_ => decide (x.name = n)))]) [(0, .box [.pv (.str n)])] 1 := by
  refine k_machine_find_api_MachInstr.acall (by simp) (by simp) (by simp) (by simp) (by simp) (by simp) fun hwf => ?_
  have hm : m.pv.wf := by have := hwf (.pv m.pv) (by simp); simpa only [DV.wf] using this
  simp [c_machine_find_api_MachInstr]
  refine CallNext.pure (p_mCheck hm ht) fun _ => ?_
  simp
  refine ⟨fun h => ⟨⟨by simp [fndI, h], by simp [fndE, h]⟩, [0], by simp⟩, fun h => ?_⟩
  refine CallNext.obs [0] (p_IndexFunc_machine_Instruction glob n l) (by simp) (by simp) (by simp) (by simp) fun _ => ?_
  simp
  refine ⟨fun h2 => ⟨⟨by simp [fndI, h, h2], by simp [fndE, h, h2]⟩, [0], by simp⟩, fun h2 => ⟨⟨?_, ?_⟩, [0], by simp⟩⟩
  · simp only [fndI, h, if_true]; rw [if_neg (by omega)]
  · simp only [fndE, h, if_true]; rw [if_neg (by omega)]
theorem p_machine_Instruction (m : Mach) (n : ByteArray) (ht : mTerms m) : PCall Tryz.prog glob 20 [.pv m.pv, .pv (.str n)] (.tup [.pv (.int .i64 (fndI m m.instrs fun x : Ins_ => decide (x.name = n))), .pv (.int .i64 (fndE m m.instrs fun x : Ins_ => decide (x.name = n)))]) := by
  refine k_machine_Instruction.pcall (by simp) (by simp) (by simp) fun hwf => ?_
  simp [c_machine_Instruction]
  refine CallNext.obs [1] (p_find_machine_Instruction m n m.instrs ht) (by simp) (by simp) (by simp) (by simp) fun _ => ?_
  simp
end Go.Proofs.YteiampdhhigjcaaGreatDoorV

/- Contracts: layer 8 of the program: roots and parts. -/
namespace Go.Proofs.YteiampdhhigjcaaGreatDoorV
open Go
set_option maxRecDepth 100000
set_option maxHeartbeats 4000000

theorem p_isNaN (gl : Glob) (x : Int) : PCall Tryz.prog gl 158 [.pv (.int .i64 x)] (.pv (.bool false)) := by
  refine k_cmp_isNaN_int.pcall (by simp) (by simp) (by simp) fun hwf => ?_
  simp [c_cmp_isNaN_int]
theorem p_Less (gl : Glob) (a b : Int) : PCall Tryz.prog gl 123 [.pv (.int .i64 a), .pv (.int .i64 b)] (.pv (.bool (decide (a < b)))) := by
  refine k_cmp_Less_int.pcall (by simp) (by simp) (by simp) fun hwf => ?_
  simp [c_cmp_Less_int]
  refine CallNext.pure (p_isNaN gl a) fun _ => ?_
  simp
  refine ⟨.pv (.bool false), by simp, ?_⟩
  simp
theorem p_BinarySearch (gl : Glob) (l : List Int) (x : Int) (hs : l.Pairwise (· < ·)) (hx : x ∈ l) (hl : l.length ≤ 1000) : PCall Tryz.prog gl 86 [.pv (.lst 1 (ints l)), .pv (.int .i64 x)] (.tup [.pv (.int .i64 (place l x : Nat)), .pv (.bool true)]) := by
  refine k_slices_BinarySearch_int_int.pcall (by simp) (by simp) (by simp) fun hwf => ?_
  simp [c_slices_BinarySearch_int_int]
  refine Loop.intro (fun y : Nat × Nat => { e := [(0, .pv (.lst 1 (ints l))), (1, .pv (.int .i64 x)), (6, .pv (.int .i64 l.length)), (7, .pv (.int .i64 y.1)), (8, .pv (.int .i64 y.2))], h := [], nx := 0 }) (fun y => y.2 - y.1)
    (fun y => y.1 ≤ y.2 ∧ y.2 ≤ l.length ∧ (∀ k, k < y.1 → gt l (k : Nat) < x) ∧ ∀ k, y.2 ≤ k → k < l.length → x ≤ gt l (k : Nat)) (0, l.length) (by simp) ⟨by simp, by simp, by simp, by intro k h1 h2; simp at h1; omega⟩ (by simp) fun ⟨i, j⟩ ⟨h1, h2, h3, h4⟩ => ?_
  simp only at h1 h2 h3 h4
  simp
  obtain ⟨k, hkd⟩ : ∃ k : Nat, k = (i + j) / 2 := ⟨_, rfl⟩
  have hh : IntKind.i64.wrap ((IntKind.u64.wrap (IntKind.i64.wrap ((i : Int) + j))).fdiv (2 ^ min 1 IntKind.u64.bits)) = (k : Int) := by
    rw [wrap_i64 (n := (i : Int) + j) (by omega) (by omega), wrap_u64 (n := (i : Int) + j) (by omega) (by omega), show min 1 IntKind.u64.bits = 1 from rfl]
    have : ((i : Int) + j).fdiv (2 ^ 1) = (k : Int) := by
      rw [Int.fdiv_eq_ediv_of_nonneg _ (by omega)]; omega
    rw [this, wrap_nat (by omega) (by omega)]
  refine ⟨fun hlt => ?_, fun hge => ?_⟩
  · have hk : k < l.length := by omega
    simp only [hh]
    refine ⟨⟨by omega, by omega⟩, ?_⟩
    simp [hk]
    refine CallNext.pure (p_Less gl _ _) fun _ => ?_
    simp [wrap_nat (show (0:Int) ≤ k + 1 by omega) (by omega)]
    refine ⟨fun h => ⟨k + 1, j, ⟨by omega, h2, fun q hq => ?_, h4⟩, by omega, by simp, rfl⟩, fun h => ⟨i, k, ⟨by omega, by omega, h3, fun q hq hql => ?_⟩, by omega, rfl, rfl⟩⟩
    · rcases Nat.lt_or_eq_of_le (Nat.le_of_lt_succ hq) with hq | rfl
      · have := sorted_gt hs hq hk; omega
      · exact h
    · rcases Nat.lt_or_eq_of_le hq with hq | rfl
      · have := sorted_gt hs hq hql; omega
      · exact h
  · obtain rfl : i = j := by omega
    have hpl := sorted_place hs hx h2 h3 h4
    obtain ⟨hp1, hp2⟩ := place_gt hx
    rw [hpl] at hp1 hp2
    simp [hp1, hp2, hpl]
    refine ⟨.pv (.bool false), by simp, ?_⟩
    simp
    refine ⟨.pv (.bool false), by simp, ?_⟩
    simp
theorem p_machine_tops (gl : Glob) (m : Mach) (hl : m.regs.length ≤ 1000) : PCall Tryz.prog gl 84 [.pv m.pv] (.pv (.lst 1 (ints (tops m)))) := by
  refine k_machine_tops.pcall (by simp) (by simp) (by simp) fun hwf => ?_
  simp [c_machine_tops]
  refine Loop.nat (fun i => { e := [(3, .own 1 1 (ints (topsN m i))), (7, .pv (.lst 4 (m.regs.map Reg.pv))), (8, .pv (.int .i64 m.regs.length)), (9, .pv (.int .i64 i))], h := [(0, m.bx), (1, .tip 1 (topsN m i).length)], nx := 2 }) m.regs.length (fun _ => True) (by simp) (by simp) (by simp [Mach.bx, topsN, ints]) fun i hi hinv => ?_
  by_cases hlt : i < m.regs.length
  · have h1 := topsN_len m i
    simp [hlt, Mach.bx, wrap_nat (show (0:Int) ≤ i + 1 by omega) (by omega)]
    refine ⟨fun h => ⟨by omega, ?_, ?_⟩, fun h => ⟨?_, ?_⟩⟩ <;> simp [topsN, h, ints]
  · obtain rfl : i = m.regs.length := by omega
    simp [Mach.bx, tops]
theorem p_machine_Roots (m : Mach) (ht : mTerms m) : PCall Tryz.prog glob 22 [.pv m.pv] (.tup [.pv (.lst 1 (ints (rootsL m))), .pv (.int .i64 (mcheck m))]) := by
  refine k_machine_Roots.pcall (by simp) (by simp) (by simp) fun hwf => ?_
  have hm : m.pv.wf := by have := hwf (.pv m.pv) (by simp); simpa only [DV.wf] using this
  simp [c_machine_Roots]
  refine CallNext.pure (p_mCheck hm ht) fun _ => ?_
  simp
  refine ⟨fun h => ?_, fun h => ?_⟩
  · simp [rootsL, h, ints]
  · have hl := (inLimits_iff (mcheck_regs h).2).1
    refine CallNext.pure (p_machine_tops glob m (by omega)) fun _ => ?_
    simp [rootsL, h]
theorem p_machine_Part (m : Mach) (reg : Int) (ht : mTerms m) : PCall Tryz.prog glob 24 [.pv m.pv, .pv (.int .i64 reg)] (.tup [.pv (.int .i64 (partR m reg).1), .pv (.int .i64 (partR m reg).2.1), .pv (.int .i64 (partR m reg).2.2), .pv (.int .i64 (partE m reg))]) := by
  refine k_machine_Part.pcall (by simp) (by simp) (by simp) fun hwf => ?_
  have hm : m.pv.wf := by have := hwf (.pv m.pv) (by simp); simpa only [DV.wf] using this
  simp [c_machine_Part]
  refine CallNext.pure (p_mCheck hm ht) fun _ => ?_
  simp
  refine ⟨fun h => ?_, fun h => ?_⟩
  · simp [partR, partE, h]
  obtain ⟨hr, hl⟩ := mcheck_regs h
  have hl := (inLimits_iff hl).1
  refine CallNext.pure (p_machine_within glob _ _ _) fun _ => ?_
  simp
  rw [wrap_i64 (by omega) (by omega)]
  refine ⟨fun hi => ?_, fun hi => ?_⟩
  · simp [partR, partE, partI, h, hi]
  have hi' : 0 ≤ reg ∧ reg ≤ (m.regs.length : Int) - 1 := by simpa [inR] using hi
  have hne : m.regs ≠ [] := by intro h; simp [h] at hi'; omega
  have hk := topsN_len m m.regs.length
  have hmem := topOf_mem hr hi
  have h0 := (topsN_lt m _ _ hmem).1
  have hpi : partR m reg = (((place (tops m) (topOf m reg) : Nat) : Int), (gt m.regs reg).low, (gt m.regs reg).width) := by simp only [partR, partI, h, hi, if_true]
  have hpe : partE m reg = 0 := by simp only [partE, h, hi, if_true]
  rw [hpi, hpe]
  simp [hne, Mach.bx, Reg.bx, show 0 ≤ reg by omega, show reg < (m.regs.length : Int) by omega]
  refine ⟨fun g => ?_, fun g => ?_⟩
  · have ht2 : topOf m reg = (gt m.regs reg).of := by rw [topOf, if_neg (by omega)]
    refine CallNext.pure (p_machine_tops glob m (by omega)) fun _ => ?_
    simp
    rw [ht2] at hmem ⊢
    refine CallNext.pure (p_BinarySearch glob (tops m) _ (topsN_sorted m _) hmem (by unfold tops; omega)) fun _ => ?_
    simp [Reg.bx]
  · have ht2 : topOf m reg = reg := by
      by_cases hof : (gt m.regs reg).of = -1
      · rw [topOf, if_pos hof]
      · rw [topOf, if_neg hof] at h0; omega
    refine CallNext.pure (p_machine_tops glob m (by omega)) fun _ => ?_
    simp
    rw [ht2] at hmem ⊢
    refine CallNext.pure (p_BinarySearch glob (tops m) _ (topsN_sorted m _) hmem (by unfold tops; omega)) fun _ => ?_
    simp [Reg.bx]
theorem partE_ok {m : Mach} {reg : Int} (h : partE m reg = 0) : mcheck m = 0 ∧ inR reg 0 (m.regs.length - 1) = true := by
  unfold partE at h
  split at h
  · rename_i hc
    refine ⟨hc, ?_⟩
    split at h
    · assumption
    · omega
  · rename_i hc; exact absurd h hc
theorem p_machine_Overlap (m : Mach) (a b : Int) (ht : mTerms m) : PCall Tryz.prog glob 26 [.pv m.pv, .pv (.int .i64 a), .pv (.int .i64 b)] (.tup [.pv (.bool (overR m a b)), .pv (.int .i64 (overE m a b))]) := by
  refine k_machine_Overlap.pcall (by simp) (by simp) (by simp) fun hwf => ?_
  simp [c_machine_Overlap]
  refine CallNext.pure (p_machine_Part m a ht) fun _ => ?_
  simp
  refine ⟨fun h => ?_, fun h => ?_⟩
  · simp [overR, overE, h]
  refine CallNext.pure (p_machine_Part m b ht) fun _ => ?_
  simp
  refine ⟨fun h2 => ?_, fun h2 => ?_⟩
  · simp [overR, overE, h, h2]
  obtain ⟨hc, ha⟩ := partE_ok h
  obtain ⟨-, hb⟩ := partE_ok h2
  obtain ⟨hr, -⟩ := mcheck_regs hc
  have hE : overE m a b = 0 := by simp only [overE, h, h2, if_true]
  have hla := low_of hr ha
  have hlb := low_of hr hb
  have hpa : partR m a = partI m a := by simp only [partR, hc, if_true]
  have hpb : partR m b = partI m b := by simp only [partR, hc, if_true]
  have la : (partI m a).2 = ((gt m.regs a).low, (gt m.regs a).width) := by simp only [partI, ha, if_true]
  have lb : (partI m b).2 = ((gt m.regs b).low, (gt m.regs b).width) := by simp only [partI, hb, if_true]
  refine ⟨?_, hE.symm⟩
  rw [overR, hE, over_eq hr ha hb, hpa, hpb, la, lb]
  rw [wrap_i64 (by omega) (by omega), wrap_i64 (by omega) (by omega)]
  simp
end Go.Proofs.YteiampdhhigjcaaGreatDoorV

/- A call that looks at a row which may still be written: a function that gives plain data for a list gives the same for a row of an object. -/
namespace Go.Proofs.YteiampdhhigjcaaGreatDoorV
open Go

/-- Numbers, strings, bools. -/
def PV.isLit : PV → Bool
  | .int _ _ | .str _ | .bool _ => true
  | _ => false
theorem PRep.lit_any {m m' : Mem} {p : PV} {v : Value} (hp : p.isLit = true) (h : PRep m p v) : PRep m' p v := by
  cases h <;> simp [PV.isLit] at hp
  · exact .int ‹_› ‹_›
  · exact .bool
  · exact .str ‹_›
/-- More numbers than the call's objects have. -/
theorem ACall.more {P : Program} {gl : Glob} {f : Fn} {n n' n2 : Nat} {ds : List DV} {H H' : Heap} {d : DV} (h : ACall P gl f n ds H d H' n') (hn : n' ≤ n2) : ACall P gl f n ds H d H' n2 where
  enter := h.enter
  isFn := h.isFn
  le := Nat.le_trans h.le hn
  args := h.args
  obs := h.obs
  res := DV.nm_mono (fun i hi => Nat.lt_of_lt_of_le hi hn) d h.res
  obs' i o hi := ⟨Nat.lt_of_lt_of_le (h.obs' i o hi).1 hn, Ob.nm_mono (fun j hj => Nat.lt_of_lt_of_le hj hn) (h.obs' i o hi).2⟩
  run K w0 g w vs hH hl ha := (h.run K w0 g w vs hH hl ha).mono fun e w' ⟨v, g', h1, h2, h3, h4⟩ => ⟨v, g', h1, h2, h3.frmono fun i hi => Nat.le_trans hn hi, h4⟩
theorem PCall.view {P : Program} {gl : Glob} {f : FuncId} {sz : Nat} {xs : List PV} {r : List DV} {p : PV} (hc : PCall P gl f (.pv (.lst sz xs) :: r) (.pv p)) (hp : p.isLit = true) (hz : 0 < sz) (hcs : ∀ x ∈ xs, x.cells.length = sz) (hone : ∀ c ∈ flat xs, c.one = true) :
    ACall P gl (.func f) 1 (.mrow 0 0 xs.length sz :: r) [(0, .box ((flat xs).map .pv))] (.pv p) [(0, .box ((flat xs).map .pv))] 1 where
  enter fid h vs w := by obtain rfl := Fn.func.inj h; exact hc.enter vs w
  isFn := .inl ⟨f, rfl⟩
  le := Nat.le_refl _
  args x hx := by
    rcases List.mem_cons.1 hx with rfl | hx
    · exact DV.nm_mrow.2 (by omega)
    · exact DV.nm_mono (fun _ h => h.elim) x (hc.args x (.tail _ hx))
  obs i o h := by
    simp only [hget] at h
    split at h
    · rename_i hi
      obtain rfl := Option.some.inj h
      refine ⟨by omega, fun c hc => ?_⟩
      obtain ⟨q, -, rfl⟩ := List.mem_map.1 hc
      exact DV.nm_pv
    · simp at h
  obs' i o h := by
    simp only [hget] at h
    split at h
    · rename_i hi
      obtain rfl := Option.some.inj h
      refine ⟨by omega, fun c hc => ?_⟩
      obtain ⟨q, -, rfl⟩ := List.mem_map.1 hc
      exact DV.nm_pv
    · simp at h
  res := DV.nm_pv
  run K w0 g w vs hH hlen ha := by
    have hob := hH.obj 0 (.box ((flat xs).map .pv)) (by simp [hget])
    obtain ⟨B, us, e, hμ, hB, hle, honec, hrep, hmB⟩ := hob
    have hBlt : B < w.heap.size := (Array.getElem?_eq_some_iff.1 hB).1
    have hKB : ¬ K B := hH.off 0 (.box ((flat xs).map .pv)) B (by simp [hget]) hμ
    let g1 : Gh := { m := fun b o => if b = B then us[o]? else g.m b o, μ := fun _ => none, τ := fun _ _ => none }
    have hm1 : MemLe g.m g1.m := fun b o v h => by
      show (if b = B then us[o]? else g.m b o) = some v
      by_cases hb : b = B
      · subst hb; rw [hmB] at h; simp at h
      · rw [if_neg hb]; exact h
    have hgg1 : GLe (fun _ => False) (fun _ => False) g g1 := ⟨hm1, fun _ h => h.elim, fun _ h => h.elim, fun _ h => h.elim⟩
    have hcell : ∀ (o : Nat) v, us[o]? = some v → w.cell? ⟨B, o, none⟩ = some v := fun o v h => by
      unfold World.cell?
      simp [hB, h]
    have hH1 : SimH gl (fun b => b < w.heap.size) w (fun _ => none) (fun _ => True) g1 w :=
      { os := rfl, tape := rfl, output := rfl, size := Nat.le_refl _, kept := fun _ _ => rfl, old := fun _ h => h
        mem := fun b o v h => by
          have h : (if b = B then us[o]? else g.m b o) = some v := h
          by_cases hb : b = B
          · subst hb; rw [if_pos rfl] at h; exact hcell o v h
          · rw [if_neg hb] at h; exact hH.mem b o v h
        ids := fun _ _ h => by simp at h
        low := fun _ _ => ⟨rfl, fun _ => rfl⟩, obj := fun _ _ h => by simp at h, nm := fun _ _ h => by simp at h, inj := fun _ _ _ _ _ h => by simp at h, off := fun _ _ _ h => by simp at h
        glo := fun b cs hb j c hc => let ⟨k1, u, k2, k3⟩ := hH.glo b cs hb j c hc; ⟨k1, u, hm1 _ _ _ k2, k3.mono hm1⟩ }
    have harg : ∀ (j : Nat) (d : DV) (v : Value), (DV.pv (.lst sz xs) :: r)[j]? = some d → vs[j]? = some v → DRep g1 d v := by
      intro j d v hd hv
      cases j with
      | zero =>
        simp only [List.getElem?_cons_zero, Option.some.injEq] at hd
        subst hd
        have h0 := ha 0 _ v rfl hv
        have h1 : DRep { g1 with μ := g.μ } (.mrow 0 0 xs.length sz) v := by
          cases h0 with
          | mrow a b c => exact .mrow a b c
        have h2 := frz_row (g' := { g1 with μ := g.μ }) (B := B) (xs := xs) h1 hμ (fun j c hc => by
          have hjl : j < (flat xs).length := (List.getElem?_eq_some_iff.1 hc).1
          have hju : j < us.size := by simp at hle; omega
          have hu : us[j]? = some us[j] := Array.getElem?_eq_getElem hju
          refine ⟨us[j], by show (if B = B then us[j]? else g.m B j) = _; rw [if_pos rfl, hu], ?_, honec _ (by simp)⟩
          have h3 := hrep j (.pv c) us[j] (by simp [hc]) hu
          cases h3 with
          | pv h3 => exact h3.mono hm1) rfl hz hcs hone
        cases h2 with
        | pv h2 => exact .pv h2
      | succ j =>
        have hd' : r[j]? = some d := by simpa using hd
        exact (ha (j + 1) d v (by simpa using hd') hv).mono hgg1 (hc.args d (.tail _ (List.mem_of_getElem? hd')))
    show Calls P f vs w _
    refine (hc.run _ w g1 w vs hH1 (by simpa using hlen) harg).mono ?_
    rintro en w' ⟨v, g', rfl, hd, h1, hg⟩
    let g2 : Gh := { m := fun b o => if b = B then none else g'.m b o, μ := g.μ, τ := g.τ }
    have hold : ∀ b, K b → b < w.heap.size := fun b hb => Nat.lt_of_lt_of_le (hH.old b hb) hH.size
    have hm2 : MemLe g.m g2.m := fun b o v h => by
      show (if b = B then none else g'.m b o) = some v
      by_cases hb : b = B
      · subst hb; rw [hmB] at h; simp at h
      · rw [if_neg hb]; exact hg.m b o v (hm1 b o v h)
    have hgg : GLe K (fun i => i < 1) g g2 := ⟨hm2, fun b hb o => by
      have hbB : b ≠ B := fun h => hKB (h ▸ hb)
      show (if b = B then none else g'.m b o) = g.m b o
      rw [if_neg hbB, hg.fix b (hold b hb) o]
      show (if b = B then us[o]? else g.m b o) = g.m b o
      rw [if_neg hbB], fun _ _ => rfl, fun _ _ _ _ h => h⟩
    have hlit : DRep g2 (.pv p) v := by
      cases hd with
      | pv h => exact .pv (h.lit_any hp)
    refine ⟨v, g2, rfl, hlit, ?_, hgg⟩
    exact
      { os := h1.os.trans hH.os, tape := h1.tape.trans hH.tape, output := h1.output.trans hH.output, size := Nat.le_trans hH.size h1.size
        kept := fun b hb => (h1.kept b (hold b hb)).trans (hH.kept b hb), old := hH.old
        mem := fun b o v h => by
          have h : (if b = B then none else g'.m b o) = some v := h
          by_cases hb : b = B
          · rw [if_pos hb] at h; simp at h
          · rw [if_neg hb] at h; exact h1.mem b o v h
        ids := hH.ids, low := hH.low
        obj := fun i o hi => (hH.obj i o hi).mono (p := fun i => i < 1) hgg (by
            have := hi; simp only [hget] at this
            split at this
            · omega
            · simp at this) (by
            have := hi; simp only [hget] at this
            split at this
            · obtain rfl := Option.some.inj this
              intro c hc
              obtain ⟨q, -, rfl⟩ := List.mem_map.1 hc
              exact DV.nm_pv
            · simp at this) rfl fun B' hB' => by
          have hi0 : B' = B := by
            have := hi; simp only [hget] at this
            split at this
            · rename_i he
              obtain rfl := Option.some.inj this
              subst he
              have : g.μ 0 = some B' := hB'
              rw [hμ] at this; exact (Option.some.inj this).symm
            · simp at this
          subst hi0
          refine ⟨h1.kept B' hBlt, fun x => ?_⟩
          show (if B' = B' then none else g'.m B' x) = g.m B' x
          rw [if_pos rfl, hmB]
        nm := hH.nm, inj := fun i j o o' B h2 h3 h4 h5 => hH.inj i j o o' B h2 h3 (by cases o <;> exact h4) (by cases o' <;> exact h5)
        off := fun i o B h2 h3 => hH.off i o B h2 (by cases o <;> exact h3)
        glo := fun b cs hb j c hc => let ⟨k1, u, k2, k3⟩ := hH.glo b cs hb j c hc; ⟨k1, u, hm2 _ _ _ k2, k3.mono hm2⟩ }
end Go.Proofs.YteiampdhhigjcaaGreatDoorV

/- Contracts: layer 8 of the program: values of registers. -/
namespace Go.Proofs.YteiampdhhigjcaaGreatDoorV
open Go
set_option maxRecDepth 100000
set_option maxHeartbeats 4000000

def locR (m : Mach) (rs : List Int) (reg : Int) : Int × Int × Int := if valE m rs reg = 0 then partI m reg else (0, 0, 0)
theorem okVal_eq {w x : Int} (h : 1 ≤ w ∧ w ≤ 64) : okVal w x = decide (x < 2 ^ w.toNat) := by
  have h1 : wideB w = true := by simp [wideB, inR, h]
  rw [okVal, h1, maskI, if_pos h1, Bool.true_and, decide_eq_decide]
  omega
theorem p_machine_locate (m : Mach) (rs : List Int) (reg : Int) (ht : mTerms m) : PCall Tryz.prog glob 88 [.pv m.pv, .pv (.lst 1 (words rs)), .pv (.int .i64 reg)] (.tup [.pv (.int .i64 (locR m rs reg).1), .pv (.int .i64 (locR m rs reg).2.1), .pv (.int .i64 (locR m rs reg).2.2), .pv (.int .i64 (valE m rs reg))]) := by
  refine k_machine_locate.pcall (by simp) (by simp) (by simp) fun hwf => ?_
  have hw := words_wf (hwf (.pv (.lst 1 (words rs))) (by simp))
  simp [c_machine_locate]
  refine CallNext.pure (p_machine_Part m reg ht) fun _ => ?_
  simp
  refine ⟨fun h => by simp [locR, valE, h], fun hp => ?_⟩
  obtain ⟨hc, hi⟩ := partE_zero hp
  obtain ⟨hr, hl⟩ := mcheck_regs hc
  have hl := (inLimits_iff hl).1
  have hk := topsN_len m m.regs.length
  have hR : partR m reg = partI m reg := by simp only [partR, hc, if_true]
  refine CallNext.pure (p_machine_tops glob m (by omega)) fun _ => ?_
  simp
  refine ⟨fun hn => ?_, fun hn => ?_⟩
  · have : ¬ (tops m).length = rs.length := by omega
    simp [locR, valE, hp, fitsR, this]
  have hn' : (tops m).length = rs.length := by omega
  have hl2 : (tops m).length ≤ 64 := by unfold tops; omega
  have hfit : ∀ {i : Nat}, i < rs.length → ¬ gt rs (i : Nat) < 2 ^ (gt m.regs (gt (tops m) (i : Nat))).width.toNat → valE m rs reg = 14 := fun {i} hi h => by
    have : fitsR m rs = false := by rw [fitsR, allB_false hi (by simpa using h)]; simp
    simp [valE, hp, this]
  refine Loop.nat (fun i => { e := [(3, .ptr 0 0), (6, .pv (.int .i64 (partI m reg).1)), (7, .pv (.int .i64 (partI m reg).2.1)), (8, .pv (.int .i64 (partI m reg).2.2)), (10, .pv (.lst 1 (ints (tops m)))), (31, .pv (.lst 1 (words rs))), (32, .pv (.int .i64 rs.length)), (33, .pv (.int .i64 i))], h := [(0, m.bx)], nx := 1 }) rs.length (fun i => (allB i fun i => decide (gt rs (i : Nat) < 2 ^ (gt m.regs (gt (tops m) (i : Nat))).width.toNat)) = true) (by simp [Mach.bx]) (by simp) (by simp [Mach.bx, hR]) fun i hi2 hinv => ?_
  by_cases hlt : i < rs.length
  · have hlt2 : i < (tops m).length := by omega
    have htr := tops_reg hlt2
    have hne : m.regs ≠ [] := by intro h; simp [h] at htr; omega
    have hwd := low_of hr (reg := gt (tops m) (i : Nat)) (by simp only [inR, Bool.and_eq_true, decide_eq_true_eq]; omega)
    simp [hlt, hlt2, hne, Mach.bx, htr.1, htr.2]
    refine DCallNext.pure (p_bits_Ok glob _ _) ?_
    rw [okVal_eq ⟨hwd.2.2.1, hwd.2.2.2⟩]
    simp [hlt, wrap_nat (show (0:Int) ≤ i + 1 by omega) (by omega)]
    refine ⟨fun h => ?_, fun h => ?_⟩
    · have hv := hfit hlt (by omega)
      simp [locR, hv]
    · rw [allB_succ, hinv]; simpa using h
  · obtain rfl : i = rs.length := by omega
    have hf : fitsR m rs = true := by rw [fitsR, hinv, hn']; simp
    have hv : valE m rs reg = 0 := by simp [valE, hp, hf]
    simp [locR, hv]
theorem maskI_of {w : Nat} (h : 1 ≤ w ∧ w ≤ 64) : maskI (w : Int) = ((2 ^ w - 1 : Nat) : Int) := by
  have h1 : wideB (w : Int) = true := by simp [wideB, inR]; omega
  rw [maskI, if_pos h1, Int.toNat_natCast]
  have h2 := Nat.two_pow_pos w
  have h3 : ((2 : Int) ^ w) = ((2 ^ w : Nat) : Int) := by push_cast; rfl
  omega
theorem shr_nat (n l : Nat) (hl : l ≤ 64) : (n : Int).fdiv (2 ^ min l IntKind.u64.bits) = ((n / 2 ^ l : Nat) : Int) := by
  rw [show min l IntKind.u64.bits = l from Nat.min_eq_left hl, Int.fdiv_eq_ediv_of_nonneg _ (Int.pow_nonneg (by omega))]
  push_cast; rfl
theorem rd_ops {n l w : Nat} (hn : n < 2 ^ 64) (hlw : l + w ≤ 64) : bandI .u64 ((n : Int).fdiv (2 ^ min l IntKind.u64.bits)) ((2 ^ w - 1 : Nat) : Int) = (fldN n l w : Nat) := by
  have h1 : n / 2 ^ l < 2 ^ 64 := Nat.lt_of_le_of_lt (Nat.div_le_self _ _) hn
  have h2 : 2 ^ w ≤ 2 ^ 64 := Nat.pow_le_pow_right (by omega) (by omega)
  rw [shr_nat n l (by omega), and_u64 h1 (by omega), Nat.and_two_pow_sub_one_eq_mod]; rfl
theorem p_machine_Read (m : Mach) (rs : List Int) (reg : Int) (ht : mTerms m) : PCall Tryz.prog glob 28 [.pv m.pv, .pv (.lst 1 (words rs)), .pv (.int .i64 reg)] (.tup [.pv (.int .u64 (readI m rs reg)), .pv (.int .i64 (valE m rs reg))]) := by
  refine k_machine_Read.pcall (by simp) (by simp) (by simp) fun hwf => ?_
  have hw := (words_wf (hwf (.pv (.lst 1 (words rs))) (by simp))).1
  simp [c_machine_Read]
  refine CallNext.pure (p_machine_locate m rs reg ht) fun _ => ?_
  simp
  refine ⟨fun h => by simp [readI, h], fun h => ?_⟩
  obtain ⟨hp, hlen, hfit⟩ := valE_ok h
  obtain ⟨p, l, w, hpi, hpl, hw1, hlw, -, -⟩ := part_ok hp
  have hx := hw _ (gt_mem (l := rs) (i := (p : Nat)) (by omega) (by omega))
  have hrd : readI m rs reg = (fldN (gt rs (p : Nat)).toNat l w : Nat) := by rw [readI, if_pos h, rootV, hpi]; simp
  have hL : locR m rs reg = ((p : Int), (l : Int), (w : Int)) := by rw [locR, if_pos h, hpi]
  rw [hrd, hL, h]
  simp [show p < rs.length by omega]
  refine DCallNext.pure (p_bits_Mask glob _) ?_
  rw [maskI_of ⟨hw1, by omega⟩]
  simp
  obtain ⟨n, hn⟩ := Int.eq_ofNat_of_zero_le hx.1
  rw [hn] at hx ⊢
  rw [rd_ops (by omega) hlw, Int.toNat_natCast]
theorem flat_words (l : List Int) : flat (words l) = words l := by
  induction l with
  | nil => rfl
  | cons x r ih => simp only [words, List.map_cons, flat, List.flatMap_cons] at ih ⊢; rw [ih]; rfl
theorem pvs_map : ∀ l : List PV, pvs (l.map DV.pv) = some l
  | [] => rfl
  | x :: r => by rw [List.map_cons, pvs, pvs_map r]; rfl
theorem words_set {l : List Int} {p : Nat} {v : Int} : ((words l).map DV.pv).set p (.pv (.int .u64 v)) = (words (l.set p v)).map DV.pv := by
  simp only [words, ← List.map_set]
theorem words_cells {l : List Int} : ∀ x ∈ words l, x.cells.length = 1 := by
  intro x hx; simp only [words, List.mem_map] at hx; obtain ⟨y, -, rfl⟩ := hx; rfl
theorem words_one {l : List Int} : ∀ x ∈ words l, x.one = true := by
  intro x hx; simp only [words, List.mem_map] at hx; obtain ⟨y, -, rfl⟩ := hx; rfl
theorem shl_nat {x l k : Nat} (h : x < 2 ^ k) (hk : k + l ≤ 64) : shlI .u64 (x : Int) (l : Int) = ((x <<< l : Nat) : Int) := by
  have h1 : x <<< l < 2 ^ 64 := by
    apply Nat.lt_pow_two_of_testBit
    intro i hi
    rw [shl_bit, Bool.and_eq_false_iff]
    right
    rw [Bool.eq_false_iff]; intro hb; have := bits_lt h hb; omega
  have h2 : (x : Int) * 2 ^ l = ((x <<< l : Nat) : Int) := by rw [Nat.shiftLeft_eq]; push_cast; rfl
  rw [shlI, Int.toNat_natCast, show min l IntKind.u64.bits = l from Nat.min_eq_left (by show l ≤ 64; omega), h2]
  generalize x <<< l = y at h1
  exact wrap_u64 (by omega) (by omega)
theorem wr_ops {n l w x : Nat} (hn : n < 2 ^ 64) (hx : x < 2 ^ w) (hlw : l + w ≤ 64) : borI .u64 (bandNotI .u64 (n : Int) (shlI .u64 ((2 ^ w - 1 : Nat) : Int) (l : Int))) (shlI .u64 (x : Int) (l : Int)) = (putN n l w x : Nat) := by
  have hm : (2 ^ w - 1) <<< l < 2 ^ 64 := by
    apply Nat.lt_pow_two_of_testBit
    intro i hi
    rw [mask_bit]; simp; omega
  have hs : x <<< l < 2 ^ 64 := by
    apply Nat.lt_pow_two_of_testBit
    intro i hi
    rw [shl_bit, Bool.and_eq_false_iff]
    right
    rw [Bool.eq_false_iff]; intro hb; have := bits_lt hx hb; omega
  have h2 := Nat.two_pow_pos w
  rw [shl_nat (k := w) (by omega) (by omega), shl_nat hx (by omega), andNot_u64 hn hm, or_u64 (Nat.lt_of_le_of_lt Nat.and_le_left hn) hs, put_eq hn hx hlw]
theorem words_at {l : List Int} {p : Nat} (h : p < (words l).length) : (words l)[p] = .int .u64 (gt l (p : Nat)) := by
  have h2 : p < l.length := by simpa using h
  rw [gt_nat h2]; simp [words]
theorem p_Clone (gl : Glob) (l : List Int) (hne : l ≠ []) (hl : l.length ≤ 1000) : ACall Tryz.prog gl (.func 93) 0 [.pv (.lst 1 (words l))] [] (.mrow 0 0 l.length 1) [(0, .box ((words l).map .pv))] 1 := by
  have hw : words l ≠ [] := by simpa [words] using hne
  refine k_slices_Clone_uint64_uint64.acall (by simp) (by simp) (by simp) (by simp) (by simp) (by simp) fun hwf => ?_
  simp [c_slices_Clone_uint64_uint64, hw, ownOf0, flat_words]
  exact ⟨by omega, [0], by simp⟩
@[simp] theorem ren_comp {ρ : Nat → Nat} : (fun x => DV.ren ρ x) ∘ DV.pv = DV.pv := by funext x; simp
@[simp] theorem ren_map {ρ : Nat → Nat} {l : List PV} : (l.map DV.pv).map (fun x => DV.ren ρ x) = l.map DV.pv := by simp
theorem p_machine_Write (m : Mach) (rs : List Int) (reg x : Int) (ht : mTerms m) : PCall Tryz.prog glob 30 [.pv m.pv, .pv (.lst 1 (words rs)), .pv (.int .i64 reg), .pv (.int .u64 x)] (.tup [.pv (.lst 1 (words (writeL m rs reg x))), .pv (.int .i64 (writeE m rs reg x))]) := by
  refine k_machine_Write.pcall (by simp) (by simp) (by simp) fun hwf => ?_
  have hw := (words_wf (hwf (.pv (.lst 1 (words rs))) (by simp))).1
  have hx0 := hwf (.pv (.int .u64 x)) (by simp)
  simp [IntKind.min, IntKind.max, IntKind.signed, IntKind.bits] at hx0
  simp [c_machine_Write]
  refine CallNext.pure (p_machine_locate m rs reg ht) fun _ => ?_
  simp
  refine ⟨fun h => by simp [writeL, writeE, h, words], fun h => ?_⟩
  obtain ⟨hp, hlen, hfit⟩ := valE_ok h
  obtain ⟨p, l, w, hpi, hpl, hw1, hlw, -, -⟩ := part_ok hp
  have hxr := hw _ (gt_mem (l := rs) (i := (p : Nat)) (by omega) (by omega))
  have hL : locR m rs reg = ((p : Int), (l : Int), (w : Int)) := by rw [locR, if_pos h, hpi]
  have hE : writeE m rs reg x = if x < 2 ^ w then 0 else 24 := by rw [writeE, if_pos h, hpi]; simp
  rw [hL]
  refine CallNext.pure (p_bits_Ok glob _ _) fun _ => ?_
  rw [okVal_eq ⟨by simp; omega, by simp; omega⟩]
  simp
  refine ⟨fun h2 => by simp [writeL, hE, Int.not_lt.2 h2, words], fun h2 => ?_⟩
  rw [if_pos h2] at hE
  have hne : rs ≠ [] := by intro hh; rw [hh] at hlen; simp only [List.length_nil] at hlen; omega
  have hlen2 : rs.length ≤ 64 := by
    have hk := topsN_len m m.regs.length
    have hl := (inLimits_iff (mcheck_regs (partE_zero hp).1).2).1
    rw [← hlen]; unfold tops; omega
  refine CallNext.obs [] (p_Clone glob rs hne (by omega)) (by simp) (by simp) (by simp) (by simp) fun _ => ?_
  simp
  refine CallNext.pure (p_bits_Mask glob _) fun _ => ?_
  have hpr : p < rs.length := by omega
  simp [hpr, words_at, show p + 1 ≤ rs.length by omega]
  obtain ⟨n, hn⟩ := Int.eq_ofNat_of_zero_le hxr.1
  obtain ⟨X, hX⟩ := Int.eq_ofNat_of_zero_le hx0.1
  have hX2 : X < 2 ^ w := by
    have h3 : ((2 : Int) ^ w) = ((2 ^ w : Nat) : Int) := by push_cast; rfl
    rw [hX] at h2; omega
  have hWL : writeL m rs reg x = rs.set p ((putN n l w X : Nat) : Int) := by
    rw [writeL, if_pos hE, rootV, hpi]; simp [hn, hX]
  rw [hE, hWL, hn, hX, maskI_of ⟨hw1, by omega⟩, wr_ops (by omega) hX2 hlw, words_set, pvs_map]
  exact ⟨_, flat_words _, by simp, words_cells, words_one, rfl, rfl⟩
/-- Write's result as a list that may still be written. -/
def wres (m : Mach) (rs : List Int) (reg x : Int) : DV := if writeE m rs reg x = 0 then .tup [.mrow 1 0 rs.length 1, .pv (.int .i64 0)] else .tup [.pv (.lst 1 []), .pv (.int .i64 (writeE m rs reg x))]
def wheap (m : Mach) (rs : List Int) (reg x : Int) : Heap := if writeE m rs reg x = 0 then [(1, .box ((words (writeL m rs reg x)).map .pv))] else []
theorem p_machine_WriteM (m : Mach) (rs : List Int) (reg x : Int) (ht : mTerms m) : ACall Tryz.prog glob (.func 30) 0 [.pv m.pv, .pv (.lst 1 (words rs)), .pv (.int .i64 reg), .pv (.int .u64 x)] [] (wres m rs reg x) (wheap m rs reg x) 2 := by
  have hno : ∀ e : Int, valE m rs reg = e → e ≠ 0 ∨ (e = 0 ∧ ¬ x < 2 ^ (partI m reg).2.2.toNat) → wres m rs reg x = .tup [.pv (.lst 1 []), .pv (.int .i64 (writeE m rs reg x))] ∧ wheap m rs reg x = [] := fun e he h => by
    have : writeE m rs reg x ≠ 0 := by
      unfold writeE; rw [he]
      rcases h with h | ⟨h, h2⟩
      · rw [if_neg h]; exact h
      · rw [if_pos h, if_neg h2]; omega
    exact ⟨if_neg this, if_neg this⟩
  by_cases h : valE m rs reg = 0
  rotate_left
  · obtain ⟨hr, hh⟩ := hno _ rfl (.inl h)
    rw [hr, hh]
    refine ACall.more (n' := 0) (k_machine_Write_M.acall (by simp) (by simp) (by simp) (by simp) (by simp) (by simp) fun hwf => ?_) (by omega)
    simp [c_machine_Write_M]
    refine CallNext.pure (p_machine_locate m rs reg ht) fun _ => ?_
    simp [h, writeE]
    exact ⟨[], by simp⟩
  obtain ⟨hp, hlen, hfit⟩ := valE_ok h
  obtain ⟨p, l, w, hpi, hpl, hw1, hlw, -, -⟩ := part_ok hp
  have hL : locR m rs reg = ((p : Int), (l : Int), (w : Int)) := by rw [locR, if_pos h, hpi]
  have hE : writeE m rs reg x = if x < 2 ^ w then 0 else 24 := by rw [writeE, if_pos h, hpi]; simp
  by_cases h2 : x < 2 ^ w
  rotate_left
  · obtain ⟨hr, hh⟩ := hno _ h (.inr ⟨rfl, by rw [hpi]; simpa using h2⟩)
    rw [hr, hh]
    refine ACall.more (n' := 0) (k_machine_Write_M.acall (by simp) (by simp) (by simp) (by simp) (by simp) (by simp) fun hwf => ?_) (by omega)
    simp [c_machine_Write_M]
    refine CallNext.pure (p_machine_locate m rs reg ht) fun _ => ?_
    simp [h]
    rw [hL]
    refine CallNext.pure (p_bits_Ok glob _ _) fun _ => ?_
    rw [okVal_eq ⟨by simp; omega, by simp; omega⟩]
    simp [h2, hE]
    exact ⟨[], by simp⟩
  rw [if_pos h2] at hE
  rw [wres, wheap, if_pos hE, if_pos hE]
  refine k_machine_Write_M.acall (by simp) (by simp) (by simp) (by simp) (by simp) (by simp) fun hwf => ?_
  have hw := (words_wf (hwf (.pv (.lst 1 (words rs))) (by simp))).1
  have hx0 := hwf (.pv (.int .u64 x)) (by simp)
  simp [IntKind.min, IntKind.max, IntKind.signed, IntKind.bits] at hx0
  have hxr := hw _ (gt_mem (l := rs) (i := (p : Nat)) (by omega) (by omega))
  have hne : rs ≠ [] := by intro hh; rw [hh] at hlen; simp only [List.length_nil] at hlen; omega
  have hlen2 : rs.length ≤ 64 := by
    have hk := topsN_len m m.regs.length
    have hl := (inLimits_iff (mcheck_regs (partE_zero hp).1).2).1
    rw [← hlen]; unfold tops; omega
  simp [c_machine_Write_M]
  refine CallNext.pure (p_machine_locate m rs reg ht) fun _ => ?_
  simp [h]
  rw [hL]
  refine CallNext.pure (p_bits_Ok glob _ _) fun _ => ?_
  rw [okVal_eq ⟨by simp; omega, by simp; omega⟩]
  simp [h2]
  refine CallNext.obs [] (p_Clone glob rs hne (by omega)) (by simp) (by simp) (by simp) (by simp) fun _ => ?_
  simp
  refine CallNext.pure (p_bits_Mask glob _) fun _ => ?_
  have hpr : p < rs.length := by omega
  simp [hpr, words_at, show p + 1 ≤ rs.length by omega]
  obtain ⟨n, hn⟩ := Int.eq_ofNat_of_zero_le hxr.1
  obtain ⟨X, hX⟩ := Int.eq_ofNat_of_zero_le hx0.1
  have hX2 : X < 2 ^ w := by
    have h3 : ((2 : Int) ^ w) = ((2 ^ w : Nat) : Int) := by push_cast; rfl
    rw [hX] at h2; omega
  have hWL : writeL m rs reg x = rs.set p ((putN n l w X : Nat) : Int) := by
    rw [writeL, if_pos hE, rootV, hpi]; simp [hn, hX]
  rw [hWL, hn, hX, maskI_of ⟨hw1, by omega⟩, wr_ops (by omega) hX2 hlw, words_set]
  exact ⟨[1], by simp⟩
end Go.Proofs.YteiampdhhigjcaaGreatDoorV

/- Contracts: the reference of layer 8: values. -/
namespace Go.Proofs.YteiampdhhigjcaaGreatDoorV
open Go
set_option maxRecDepth 100000
set_option maxHeartbeats 4000000

theorem p_r8_SameWords (gl : Glob) (a b : List Int) : PCall Tryz.prog gl 32 [.pv (.lst 1 (words a)), .pv (.lst 1 (words b))] (.pv (.bool (decide (a = b)))) := by
  refine k_retargetref08_SameWords.pcall (by simp) (by simp) (by simp) fun hwf => ?_
  have hb := (words_wf (hwf (.pv (.lst 1 (words a))) (by simp))).2
  simp [c_retargetref08_SameWords]
  refine ⟨fun h => ?_, fun h => ?_⟩
  · intro he; rw [he] at h; simp at h
  have h' : a.length = b.length := by omega
  refine Loop.nat (fun i => { e := [(0, .pv (.lst 1 (words a))), (1, .pv (.lst 1 (words b))), (5, .pv (.int .i64 i))], h := [], nx := 0 }) a.length (fun i => ∀ k : Nat, k < i → gt a (k : Nat) = gt b (k : Nat)) (by simp) (by simp) (by simp) fun i hi hinv => ?_
  by_cases hlt : i < a.length
  · simp [hlt, show i < b.length by omega, wrap_nat (show (0:Int) ≤ i + 1 by omega) (by omega)]
    refine ⟨fun hn he => hn (by rw [he]), fun he k hk => ?_⟩
    rcases Nat.lt_or_eq_of_le (Nat.le_of_lt_succ hk) with hk | rfl
    · exact hinv k hk
    · exact he
  · obtain rfl : i = a.length := by omega
    simp
    refine List.ext_getElem h' fun k h1 h2 => ?_
    have := hinv k h1
    rwa [gt_nat h1, gt_nat h2] at this
def pw (i : Nat) : Int := if i < 64 then 2 ^ i else 0
theorem pw_succ0 : ∀ i, i < 64 → IntKind.u64.wrap (2 * pw i) = pw (i + 1) := by decide
theorem pw_succ (i : Nat) : IntKind.u64.wrap (2 * pw i) = pw (i + 1) := by
  by_cases h : i < 64
  · exact pw_succ0 i h
  · unfold pw; rw [if_neg h, if_neg (by omega)]; decide
theorem pw_lt {i : Nat} (h : i < 64) : pw i = ((2 ^ i : Nat) : Int) := by rw [pw, if_pos h]; push_cast; rfl
theorem fldN_lt (x low n : Nat) : fldN x low n < 2 ^ n := Nat.mod_lt _ (Nat.two_pow_pos n)
theorem p_r8_Bits (gl : Glob) (x low n : Nat) (h : low + n ≤ 64) : PCall Tryz.prog gl 91 [.pv (.int .u64 x), .pv (.int .i64 low), .pv (.int .i64 n)] (.pv (.int .u64 (fldN x low n : Nat))) := by
  refine k_retargetref08_Bits.pcall (by simp) (by simp) (by simp) fun hwf => ?_
  simp [c_retargetref08_Bits]
  refine Loop.nat (fun i => { e := [(0, .pv (.int .u64 x)), (1, .pv (.int .i64 low)), (2, .pv (.int .i64 n)), (7, .pv (.int .u64 (fldN x low i : Nat))), (8, .pv (.int .u64 (pw i))), (9, .pv (.int .i64 i))], h := [], nx := 0 }) n (fun _ => True) (by simp) (by simp) (by simp [fldN, pw, Nat.mod_one]) fun i hi hinv => ?_
  by_cases hlt : i < n
  · simp [hlt]
    rw [wrap_i64 (by omega) (by omega)]
    refine CallNext.pure (by have := p_r8_Bit gl x (low + i) (by omega); push_cast at this; exact this) fun _ => ?_
    simp [wrap_nat (show (0:Int) ≤ i + 1 by omega) (by omega), pw_succ, fldN_succ]
    have hb : bitI (x : Int) (low + i) = if x.testBit (low + i) then 1 else 0 := by rw [bitI_bit (by omega), Int.toNat_natCast]
    have h1 := fldN_lt x low i
    have h2 : 2 ^ i ≤ 2 ^ 63 := Nat.pow_le_pow_right (by omega) (by omega)
    rw [pw_lt (by omega)]
    generalize 2 ^ i = y at *
    rw [hb]
    cases hbt : x.testBit (low + i)
    · simp [hlt]
    · simp [hlt]
      exact wrap_u64 (by omega) (by omega)
  · obtain rfl : i = n := by omega
    simp
theorem p_r8_valued (gl : Glob) (m : Mach) (rs : List Int) (reg : Int) (ht : mTerms m) : PCall Tryz.prog gl 90 [.pv m.pv, .pv (.lst 1 (words rs)), .pv (.int .i64 reg)] (.pv (.int .i64 (valE m rs reg))) := by
  refine k_retargetref08_valued.pcall (by simp) (by simp) (by simp) fun hwf => ?_
  simp [c_retargetref08_valued]
  refine CallNext.pure (p_r8_Check gl m ht) fun _ => ?_
  simp
  refine ⟨fun h => ?_, fun h => ?_⟩
  · simp [valE, partE, h]
  obtain ⟨hr, hl⟩ := mcheck_regs h
  have hl := (inLimits_iff hl).1
  have hk := topsN_len m m.regs.length
  refine CallNext.pure (p_r8_In gl _ _ _) fun _ => ?_
  simp
  rw [wrap_i64 (by omega) (by omega)]
  refine ⟨fun hi => ?_, fun hi => ?_⟩
  · simp [valE, partE, h, hi]
  have hp : partE m reg = 0 := by simp [partE, h, hi]
  refine CallNext.pure (p_r8_Tops gl m (by omega)) fun _ => ?_
  simp
  refine ⟨fun hn => ?_, fun hn => ?_⟩
  · have : ¬ (tops m).length = rs.length := by omega
    simp [valE, hp, fitsR, this]
  have hn' : (tops m).length = rs.length := by omega
  have hfit : ∀ {i : Nat}, i < rs.length → ¬ gt rs (i : Nat) < 2 ^ (gt m.regs (gt (tops m) (i : Nat))).width.toNat → valE m rs reg = 14 := fun {i} hi h => by
    have : fitsR m rs = false := by rw [fitsR, allB_false hi (by simpa using h)]; simp
    simp [valE, hp, this]
  refine Loop.nat (fun i => { e := [(1, .pv (.lst 1 (words rs))), (3, .ptr 0 0), (8, .pv (.lst 1 (ints (tops m)))), (9, .pv (.int .i64 i))], h := [(0, m.bx)], nx := 1 }) (tops m).length (fun i => (allB i fun i => decide (gt rs (i : Nat) < 2 ^ (gt m.regs (gt (tops m) (i : Nat))).width.toNat)) = true) (by simp [Mach.bx]) (by simp) (by simp [Mach.bx]) fun i hi2 hinv => ?_
  by_cases hlt : i < (tops m).length
  · have htr := tops_reg hlt
    have hne : m.regs ≠ [] := by intro h; simp [h] at htr; omega
    have hl2 : (tops m).length ≤ 64 := by unfold tops; omega
    simp [hlt, show i < rs.length by omega, hne, Mach.bx, htr.1, htr.2]
    refine DCallNext.pure (p_r8_Below gl _ _) ?_
    simp [hlt, wrap_nat (show (0:Int) ≤ i + 1 by omega) (by omega)]
    refine ⟨fun h => (hfit (i := i) (by omega) (Int.not_lt.2 h)).symm, fun h => ?_⟩
    rw [allB_succ, hinv]; simpa using h
  · obtain rfl : i = (tops m).length := by omega
    have : fitsR m rs = true := by rw [fitsR, hn'] ; rw [hn'] at hinv; rw [hinv]; simp
    simp [valE, hp, this]
theorem p_r8_Read (gl : Glob) (m : Mach) (rs : List Int) (reg : Int) (ht : mTerms m) : PCall Tryz.prog gl 29 [.pv m.pv, .pv (.lst 1 (words rs)), .pv (.int .i64 reg)] (.tup [.pv (.int .u64 (readI m rs reg)), .pv (.int .i64 (valE m rs reg))]) := by
  refine k_retargetref08_Read.pcall (by simp) (by simp) (by simp) fun hwf => ?_
  have hw := (words_wf (hwf (.pv (.lst 1 (words rs))) (by simp))).1
  simp [c_retargetref08_Read]
  refine CallNext.pure (p_r8_valued gl m rs reg ht) fun _ => ?_
  simp
  refine ⟨fun h => by simp [readI, h], fun h => ?_⟩
  obtain ⟨hp, hlen, hfit⟩ := valE_ok h
  obtain ⟨hc, hi⟩ := partE_zero hp
  obtain ⟨p, l, w, hpi, hpl, hw1, hlw, -, -⟩ := part_ok hp
  refine CallNext.pure (p_r8_Piece gl m reg hc hi) fun _ => ?_
  have hx := hw _ (gt_mem (l := rs) (i := (p : Nat)) (by omega) (by omega))
  have hrd : readI m rs reg = (fldN (gt rs (p : Nat)).toNat l w : Nat) := by rw [readI, if_pos h, rootV, hpi]; simp
  rw [hrd, hpi, h]
  simp [show p < rs.length by omega]
  refine CallNext.pure (by have := p_r8_Bits gl (gt rs (p : Nat)).toNat l w hlw; rw [Int.toNat_of_nonneg hx.1] at this; exact this) fun _ => ?_
  simp
def modN (W i : Nat) : Nat := W % 2 ^ i
theorem modN_succ (W i : Nat) : modN W (i + 1) = modN W i + (if W.testBit i then 2 ^ i else 0) := mod_succ W i
theorem modN_lt (W i : Nat) : modN W i < 2 ^ i := Nat.mod_lt _ (Nat.two_pow_pos i)
theorem modN_all {W : Nat} (h : W < 2 ^ 64) : modN W 64 = W := Nat.mod_eq_of_lt h
theorem modN_zero (W : Nat) : modN W 0 = 0 := by simp [modN, Nat.mod_one]
theorem bitI_nat (x i : Nat) : bitI (x : Int) i = if x.testBit i then 1 else 0 := by rw [bitI_bit (by omega), Int.toNat_natCast]
theorem p_r8_Write (gl : Glob) (m : Mach) (rs : List Int) (reg x : Int) (ht : mTerms m) : PCall Tryz.prog gl 31 [.pv m.pv, .pv (.lst 1 (words rs)), .pv (.int .i64 reg), .pv (.int .u64 x)] (.tup [.pv (.lst 1 (words (writeL m rs reg x))), .pv (.int .i64 (writeE m rs reg x))]) := by
  refine k_retargetref08_Write.pcall (by simp) (by simp) (by simp) fun hwf => ?_
  have hw := words_wf (hwf (.pv (.lst 1 (words rs))) (by simp))
  have hln := (mach_bd (hwf (.pv m.pv) (by simp))).1
  have hx0 := hwf (.pv (.int .u64 x)) (by simp)
  simp [IntKind.min, IntKind.max, IntKind.signed, IntKind.bits] at hx0
  simp [c_retargetref08_Write]
  refine CallNext.pure (p_r8_valued gl m rs reg ht) fun _ => ?_
  by_cases h : valE m rs reg = 0
  rotate_left
  · have hE : writeE m rs reg x = valE m rs reg := by simp [writeE, h]
    by_cases hne : m.regs = []
    · simp [h, hne, nth]
      refine ⟨.pv (.bool false), by simp, ?_⟩
      simp [h, writeL, hE, words]
    · simp [h, hne]
      refine ⟨.pv (.bool false), by simp, ?_⟩
      simp [h, writeL, hE, words]
  obtain ⟨hp, hlen, hfit⟩ := valE_ok h
  obtain ⟨hc, hi⟩ := partE_zero hp
  obtain ⟨p, l, w, hpi, hpl, hw1, hlw, hwd, -⟩ := part_ok hp
  have hi' : 0 ≤ reg ∧ reg ≤ (m.regs.length : Int) - 1 := by simpa [inR] using hi
  have hne : m.regs ≠ [] := by intro h; simp [h] at hi'; omega
  simp [h, hne, show 0 ≤ reg by omega, show reg < (m.regs.length : Int) by omega]
  refine ⟨_, .of (p_r8_Below gl _ _), by simp, ?_⟩
  have hE : writeE m rs reg x = if x < 2 ^ w then 0 else 24 := by rw [writeE, if_pos h, hpi]; simp
  have hxr := hw.1 _ (gt_mem (l := rs) (i := (p : Nat)) (by omega) (by omega))
  have hner : rs ≠ [] := by intro hh; rw [hh] at hlen; simp only [List.length_nil] at hlen; omega
  have hner2 : words rs ≠ [] := by simpa [words] using hner
  have hlen2 : rs.length ≤ 64 := by
    have hk := topsN_len m m.regs.length
    have hl := (inLimits_iff (mcheck_regs hc).2).1
    rw [← hlen]; unfold tops; omega
  simp [hwd]
  refine ⟨fun h2 => by simp [writeL, hE, Int.not_lt.2 h2, words], fun h2 => ?_⟩
  rw [if_pos h2] at hE
  refine CallNext.pure (p_r8_Piece gl m reg hc hi) fun _ => ?_
  rw [hpi]
  simp [ownOf0, flat_words, hner2]
  refine ⟨by omega, ?_⟩
  have hpr : p < rs.length := by omega
  obtain ⟨n, hn⟩ := Int.eq_ofNat_of_zero_le hxr.1
  obtain ⟨X, hX⟩ := Int.eq_ofNat_of_zero_le hx0.1
  have hX2 : X < 2 ^ w := by
    have h3 : ((2 : Int) ^ w) = ((2 ^ w : Nat) : Int) := by push_cast; rfl
    rw [hX] at h2; omega
  have hWL : writeL m rs reg x = rs.set p ((putN n l w X : Nat) : Int) := by
    rw [writeL, if_pos hE, rootV, hpi]; simp [hn, hX]
  have hW64 : putN n l w X < 2 ^ 64 := putN_lt (by omega) hlw
  have hbit := putN_bit n l w X
  rw [hWL, hE, hX]
  generalize putN n l w X = W at *
  refine Loop.nat (fun i => { e := [(1, .pv (.lst 1 (words rs))), (3, .pv (.int .u64 X)), (11, .pv (.int .i64 p)), (12, .pv (.int .i64 l)), (13, .pv (.int .i64 w)), (14, .mrow 1 0 rs.length 1), (15, .pv (.int .u64 (modN W i : Nat))), (16, .pv (.int .u64 (pw i))), (17, .pv (.int .i64 i))], h := [(0, m.bx), (1, .box ((words rs).map .pv))], nx := 2 }) 64 (fun _ => True) (by simp [Mach.bx]) (by simp) (by simp [Mach.bx, pw, modN_zero]) fun i hi2 hinv => ?_
  by_cases hlt : i < 64
  · have hms := modN_succ W i
    rw [hbit] at hms
    have hml := modN_lt W i
    have hy : 2 ^ i ≤ 2 ^ 63 := Nat.pow_le_pow_right (by omega) (by omega)
    simp [show (i : Int) < 64 by omega, hpr]
    refine CallNext.pure (p_r8_Bit gl _ i (by omega)) fun _ => ?_
    rw [hn, bitI_nat]
    simp
    refine CallNext.pure (p_r8_In gl _ _ _) fun _ => ?_
    rw [wrap_i64 (n := (l : Int) + w) (by omega) (by omega), wrap_i64 (by omega) (by omega)]
    simp
    refine ⟨fun hin => ?_, fun hin => ?_⟩
    · have hin' : l ≤ i ∧ i < l + w := by simp [inR] at hin; omega
      have hil : IntKind.i64.wrap ((i : Int) - l) = ((i - l : Nat) : Int) := by rw [wrap_i64 (by omega) (by omega)]; omega
      rw [hil]
      refine CallNext.pure (p_r8_Bit gl _ (i - l) (by omega)) fun _ => ?_
      rw [bitI_nat]
      rw [if_pos hin'] at hms
      simp [wrap_nat (show (0:Int) ≤ i + 1 by omega) (by omega), pw_succ]
      rw [hms, pw_lt hlt]
      generalize 2 ^ i = y at *
      refine ⟨fun hb => ⟨by simp [Mach.bx], hlt, ?_⟩, fun hb => ⟨by simp [Mach.bx], hlt, by rw [hb]; simp⟩⟩
      rw [hb, if_pos rfl, wrap_u64 (by omega) (by omega)]; omega
    · have hin' : ¬ (l ≤ i ∧ i < l + w) := by
        intro h; rw [Bool.eq_false_iff] at hin; apply hin; simp [inR]; omega
      rw [if_neg hin'] at hms
      simp [wrap_nat (show (0:Int) ≤ i + 1 by omega) (by omega), pw_succ]
      rw [hms, pw_lt hlt]
      generalize 2 ^ i = y at *
      refine ⟨fun hb => ⟨by simp [Mach.bx], hlt, ?_⟩, fun hb => ⟨by simp [Mach.bx], hlt, by rw [hb]; simp⟩⟩
      rw [hb, if_pos rfl, wrap_u64 (by omega) (by omega)]; omega
  · obtain rfl : i = 64 := by omega
    simp [hpr, show p + 1 ≤ rs.length by omega]
    rw [modN_all hW64, words_set, pvs_map]
    exact ⟨_, flat_words _, by simp, words_cells, words_one, rfl⟩
end Go.Proofs.YteiampdhhigjcaaGreatDoorV

/- The law MachineValues gives true. -/
namespace Go.Proofs.YteiampdhhigjcaaGreatDoorV
open Go
set_option maxRecDepth 100000
set_option maxHeartbeats 4000000

def sevens (l : List Int) (i : Nat) : List Int := List.replicate i 7 ++ l.drop i
theorem sevens_len {l : List Int} {i : Nat} (h : i ≤ l.length) : (sevens l i).length = l.length := by simp [sevens]; omega
theorem sevens_set {l : List Int} {i : Nat} (h : i < l.length) : (sevens l i).set i 7 = sevens l (i + 1) := by
  apply List.ext_getElem
  · rw [List.length_set, sevens_len (by omega), sevens_len (by omega)]
  · intro j h1 h2
    rw [List.getElem_set]
    simp only [sevens, List.getElem_append, List.length_replicate, List.getElem_replicate, List.getElem_drop]
    by_cases hj : i = j
    · subst hj; simp
    · by_cases hlt : j < i
      · simp [hj, hlt, show j < i + 1 by omega]
      · simp [hj, hlt, show ¬ j < i + 1 by omega]
        congr 1; omega
theorem p_MachineValues (m : Mach) (rs : List Int) (reg x : Int) : PCall Tryz.prog glob 5 [.pv m.pv, .pv (.lst 1 (words rs)), .pv (.int .i64 reg), .pv (.int .u64 x)] (.pv (.bool true)) := by
  refine k_retargetlaw08_MachineValues.pcall (by simp) (by simp) (by simp) fun hwf => ?_
  have hln := (words_wf (hwf (.pv (.lst 1 (words rs))) (by simp))).2
  simp [c_retargetlaw08_MachineValues]
  refine CallNext.pure (p_r8_Great glob m) fun _ => ?_
  simp
  intro hg hn
  have ht := great_terms hg
  have hA := p_machine_WriteM m rs reg x ht
  refine ⟨by omega, ?_⟩
  refine CallNext.pure (p_machine_Read m rs reg ht) fun _ => ?_
  simp
  refine CallNext.pure (p_r8_Read glob m rs reg ht) fun _ => ?_
  simp
  by_cases hE : writeE m rs reg x = 0
  · rw [wres, wheap, if_pos hE, if_pos hE] at hA
    have hwl : (writeL m rs reg x).length = rs.length := by rw [writeL, if_pos hE, List.length_set]
    refine CallNext.obs [] hA (by simp) (by simp) (by simp) (by simp) fun _ => ?_
    simp
    refine CallNext.pure (p_r8_Write glob m rs reg x ht) fun _ => ?_
    simp [hE]
    refine ⟨rfl, ?_⟩
    have hv := PCall.view (p_r8_SameWords glob (writeL m rs reg x) (writeL m rs reg x)) rfl (by omega) words_cells (by rw [flat_words]; exact words_one)
    rw [flat_words, words_length, hwl] at hv
    refine CallNext.obs [3] hv (by simp) (by simp) (by simp) (by simp) fun _ => ?_
    simp
    refine Loop.nat (fun i => { e := [(1, .pv (.lst 1 (words rs))), (9, .own 1 1 (words rs)), (14, .mrow 3 0 rs.length 1), (18, .pv (.bool true)), (19, .pv (.int .i64 i))], h := [(0, m.bx), (1, .tip 1 rs.length), (3, .box ((words (sevens (writeL m rs reg x) i)).map .pv))], nx := 4 }) rs.length (fun _ => True) (by simp [Mach.bx]) (by simp) (by simp [Mach.bx, sevens]) fun i hi hinv => ?_
    by_cases hlt : i < rs.length
    · have hs := sevens_set (l := writeL m rs reg x) (i := i) (by omega)
      have hsl := sevens_len (l := writeL m rs reg x) (i := i) (by omega)
      simp [hlt, hsl, hwl, Mach.bx, show i + 1 ≤ rs.length by omega, wrap_nat (show (0:Int) ≤ i + 1 by omega) (by omega)]
      rw [words_set, hs]
      exact ⟨fun c hc => by obtain ⟨q, -, rfl⟩ := List.mem_map.1 hc; exact DV.nm_pv, rfl⟩
    · obtain rfl : i = rs.length := by omega
      simp
      refine ⟨_, .of (p_r8_SameWords glob rs rs), by simp, ?_⟩
      simp
  · rw [wres, wheap, if_neg hE, if_neg hE] at hA
    refine CallNext.obs [] hA (by simp) (by simp) (by simp) (by simp) fun _ => ?_
    simp
    refine CallNext.pure (p_r8_Write glob m rs reg x ht) fun _ => ?_
    simp [hE]
    refine ⟨rfl, ?_⟩
    have hwl : writeL m rs reg x = [] := if_neg hE
    rw [hwl]
    refine CallNext.pure (p_r8_SameWords glob [] []) fun _ => ?_
    simp
    refine Loop.nat (fun i => { e := [(1, .pv (.lst 1 (words rs))), (9, .own 1 1 (words rs)), (14, .pv (.lst 1 [])), (18, .pv (.bool true)), (19, .pv (.int .i64 i))], h := [(0, m.bx), (1, .tip 1 rs.length)], nx := 4 }) 0 (fun _ => True) (by simp [Mach.bx]) (by simp) (by simp [Mach.bx]) fun i hi hinv => ?_
    obtain rfl : i = 0 := by omega
    simp
    refine ⟨_, .of (p_r8_SameWords glob rs rs), by simp, ?_⟩
    simp
end Go.Proofs.YteiampdhhigjcaaGreatDoorV
