/- Packed: Tb Ta Tf Td Tc Pi Pk Pj Ce Cw Rk Lo -/
import Derived.Test.YteiampdhhigjcaaDoorChk3
import Derived.Test.YteiampdhhigjcaaDoorProg
set_option linter.all false
/- The program's functions as trees of our logic (group b). -/
namespace Go.Proofs.YteiampdhhigjcaaDoorV
open Go
set_option maxRecDepth 100000
/- "retarget/retargetref02.SameBound" -/
def c_retargetref02_SameBound : C :=
.seq (.reg [⟨some 4, none, .mov (.c (.pv (.bool false)))⟩]) (.seq (.seq (.reg [⟨some 6, none, .mov (.t 0)⟩, ⟨some 7, none, .len (.t 6)⟩, ⟨some 8, none, .mov (.t 1)⟩, ⟨some 9, none, .len (.t 8)⟩, ⟨some 10, none, .bin .neq (.t 7) (.t 9)⟩]) (.cond (.t 10) (.seq (.reg [⟨some 4, none, .mov (.c (.pv (.bool false)))⟩]) (.ret)) (.skip))) (.seq (.seq (.reg [⟨some 5, none, .mov (.c (.pv (.int .i64 0)))⟩]) (.blk 0 (.loop ⟨[0, 1, 5], [], 0⟩ (.seq (.seq (.reg [⟨some 11, none, .mov (.t 5)⟩, ⟨some 12, none, .mov (.t 0)⟩, ⟨some 13, none, .len (.t 12)⟩, ⟨some 14, none, .bin .lss (.t 11) (.t 13)⟩]) (.cond (.t 14) (.skip) (.ext 0))) (.seq (.blk 1 (.seq (.dreg [⟨some 17, none, .mov (.t 0)⟩, ⟨some 18, none, .mov (.t 5)⟩, ⟨some 19, none, .iad 3 (.t 17) (.t 18)⟩, ⟨some 20, none, .load (some 3) (.t 19)⟩, ⟨some 21, none, .mov (.t 1)⟩, ⟨some 22, none, .mov (.t 5)⟩, ⟨some 23, none, .iad 3 (.t 21) (.t 22)⟩, ⟨some 24, none, .load (some 3) (.t 23)⟩, ⟨some 25, none, .ceq true [2, 1, 1] (.t 20) (.t 24)⟩] [[], [], [0, 1], [0, 1, 2], [], [], [4, 5], [4, 5, 6], [0, 1, 2, 3, 4, 5, 6, 7]]) (.cond (.t 25) (.seq (.reg [⟨some 4, none, .mov (.c (.pv (.bool false)))⟩]) (.ret)) (.skip)))) (.reg [⟨some 15, none, .mov (.t 5)⟩, ⟨some 16, none, .bin .add (.t 15) (.c (.pv (.int .i64 1)))⟩, ⟨some 5, none, .mov (.t 16)⟩])))))) (.seq (.reg [⟨some 4, none, .mov (.c (.pv (.bool true)))⟩]) (.ret))))
theorem k_retargetref02_SameBound : FnOk Tryd.prog 7 26 c_retargetref02_SameBound [.tmp 4] := .mk' (fn := Tryd.f7) rfl rfl (by kernel_rfl) rfl (by kernel_rfl) (by kernel_rfl)
end Go.Proofs.YteiampdhhigjcaaDoorV

/- The program's functions as trees of our logic (group a). -/
namespace Go.Proofs.YteiampdhhigjcaaDoorV
open Go
set_option maxRecDepth 100000
end Go.Proofs.YteiampdhhigjcaaDoorV

/- The program's functions as trees of our logic (group f). -/
namespace Go.Proofs.YteiampdhhigjcaaDoorV
open Go
set_option maxRecDepth 100000
/- "retarget/retargetlaw08.MachineOps" -/
def c_retargetlaw08_MachineOps : C :=
.seq (.reg [⟨some 3, none, .box 7 (.t 0)⟩, ⟨some 4, none, .box 2 (.t 1)⟩, ⟨some 6, none, .mov (.c (.pv (.bool false)))⟩]) (.seq (.seq (.reg [⟨some 12, none, .load (some 7) (.t 3)⟩, ⟨some 13, none, .callf 4 [(.t 12)]⟩, ⟨some 14, none, .mov (.t 13)⟩, ⟨some 15, some (14, false), .fad 1 (.t 4)⟩, ⟨some 16, some (14, false), .load none (.t 15)⟩, ⟨some 17, some (14, false), .len (.t 16)⟩, ⟨some 18, some (14, false), .bin .gtr (.t 17) (.c (.pv (.int .i64 20)))⟩, ⟨some 19, none, .lor (.t 14) (.t 18)⟩]) (.cond (.t 19) (.seq (.reg [⟨some 6, none, .mov (.c (.pv (.bool true)))⟩]) (.ret)) (.skip))) (.seq (.dreg [⟨some 20, none, .fad 0 (.t 4)⟩, ⟨some 21, none, .load none (.t 20)⟩, ⟨some 22, none, .lit 1 []⟩, ⟨some 23, none, .fad 1 (.t 4)⟩, ⟨some 24, none, .load none (.t 23)⟩, ⟨some 25, none, .app 1 8 (.t 22) (.t 24)⟩, ⟨some 26, none, .build [.pv (.int .i64 0), .nilS 1] [((0, 1), (.t 21)), ((1, 1), (.t 25))]⟩, ⟨some 7, none, .alloc [.pv (.int .i64 0), .nilS 1]⟩, ⟨none, none, .store 2 (.t 7) (.t 26)⟩] [[], [0], [], [], [3], [2, 3, 4], [0, 1, 2, 3, 4, 5], [], [0, 1, 2, 3, 4, 5, 6, 7]]) (.gh (.nrm 7) (.seq (.reg [⟨some 28, none, .load (some 7) (.t 3)⟩, ⟨some 29, none, .load (some 2) (.t 4)⟩, ⟨some 30, none, .mov (.t 2)⟩, ⟨some 31, none, .callf 5 [(.t 28), (.t 29), (.t 30)]⟩, ⟨some 27, none, .mov (.t 31)⟩, ⟨some 32, none, .ext (.t 27) 0⟩, ⟨some 33, none, .ext (.t 27) 1⟩, ⟨some 8, none, .mov (.t 32)⟩, ⟨some 9, none, .mov (.t 33)⟩]) (.seq (.reg [⟨some 35, none, .load (some 7) (.t 3)⟩, ⟨some 36, none, .load (some 2) (.t 4)⟩, ⟨some 37, none, .mov (.t 2)⟩, ⟨some 38, none, .callf 6 [(.t 35), (.t 36), (.t 37)]⟩, ⟨some 34, none, .mov (.t 38)⟩, ⟨some 39, none, .ext (.t 34) 0⟩, ⟨some 40, none, .ext (.t 34) 1⟩, ⟨some 10, none, .mov (.t 39)⟩, ⟨some 11, none, .mov (.t 40)⟩]) (.seq (.dreg [⟨some 41, none, .mov (.t 8)⟩, ⟨some 42, none, .mov (.t 10)⟩, ⟨some 43, none, .callf 7 [(.t 41), (.t 42)]⟩, ⟨some 44, none, .mov (.t 43)⟩, ⟨some 45, some (44, true), .mov (.t 9)⟩, ⟨some 46, some (44, true), .mov (.t 11)⟩, ⟨some 47, some (44, true), .bin .eql (.t 45) (.t 46)⟩, ⟨some 48, none, .land (.t 44) (.t 47)⟩, ⟨some 49, none, .mov (.t 48)⟩, ⟨some 50, some (49, true), .load (some 7) (.t 3)⟩, ⟨some 51, some (49, true), .load (some 2) (.t 4)⟩, ⟨some 52, some (49, true), .callf 8 [(.t 50), (.t 51)]⟩, ⟨some 53, some (49, true), .load (some 7) (.t 3)⟩, ⟨some 54, some (49, true), .load (some 2) (.t 4)⟩, ⟨some 55, some (49, true), .callf 9 [(.t 53), (.t 54)]⟩, ⟨some 56, some (49, true), .bin .eql (.t 52) (.t 55)⟩, ⟨some 57, none, .land (.t 49) (.t 56)⟩, ⟨some 58, none, .mov (.t 57)⟩, ⟨some 59, some (58, true), .load (some 2) (.t 4)⟩, ⟨some 60, some (58, true), .load (some 2) (.t 7)⟩, ⟨some 61, some (58, true), .callf 10 [(.t 59), (.t 60)]⟩, ⟨some 62, none, .land (.t 58) (.t 61)⟩, ⟨some 6, none, .mov (.t 62)⟩] [[], [], [0, 1], [0, 1, 2], [0, 1, 2, 3], [0, 1, 2, 3], [0, 1, 2, 3, 4, 5], [0, 1, 2, 3, 4, 5, 6], [0, 1, 2, 3, 4, 5, 6, 7], [0, 1, 2, 3, 4, 5, 6, 7, 8], [0, 1, 2, 3, 4, 5, 6, 7, 8], [0, 1, 2, 3, 4, 5, 6, 7, 8, 9, 10], [0, 1, 2, 3, 4, 5, 6, 7, 8], [0, 1, 2, 3, 4, 5, 6, 7, 8], [0, 1, 2, 3, 4, 5, 6, 7, 8, 9, 10, 11, 12, 13], [0, 1, 2, 3, 4, 5, 6, 7, 8, 9, 10, 11, 12, 13, 14], [0, 1, 2, 3, 4, 5, 6, 7, 8, 9, 10, 11, 12, 13, 14, 15], [0, 1, 2, 3, 4, 5, 6, 7, 8, 9, 10, 11, 12, 13, 14, 15, 16], [0, 1, 2, 3, 4, 5, 6, 7, 8, 9, 10, 11, 12, 13, 14, 15, 16, 17], [0, 1, 2, 3, 4, 5, 6, 7, 8, 9, 10, 11, 12, 13, 14, 15, 16, 17], [0, 1, 2, 3, 4, 5, 6, 7, 8, 9, 10, 11, 12, 13, 14, 15, 16, 17, 18, 19], [0, 1, 2, 3, 4, 5, 6, 7, 8, 9, 10, 11, 12, 13, 14, 15, 16, 17, 18, 19, 20], [0, 1, 2, 3, 4, 5, 6, 7, 8, 9, 10, 11, 12, 13, 14, 15, 16, 17, 18, 19, 20, 21]]) (.ret)))))))
theorem k_retargetlaw08_MachineOps : FnOk Tryd.prog 3 63 c_retargetlaw08_MachineOps [.tmp 6] := .mk' (fn := Tryd.f3) rfl rfl (by kernel_rfl) rfl (by kernel_rfl) (by kernel_rfl)
end Go.Proofs.YteiampdhhigjcaaDoorV

/- The program's functions as trees of our logic (group d). -/
namespace Go.Proofs.YteiampdhhigjcaaDoorV
open Go
set_option maxRecDepth 100000
/- "retarget/retargetref08.Vars" -/
def c_retargetref08_Vars : C :=
.seq (.reg [⟨some 3, none, .box 7 (.t 0)⟩, ⟨some 4, none, .box 2 (.t 1)⟩, ⟨some 6, none, .mov (.c (.nilS 3))⟩, ⟨some 7, none, .mov (.c (.pv (.int .i64 0)))⟩]) (.seq (.reg [⟨some 14, none, .load (some 7) (.t 3)⟩, ⟨some 15, none, .load (some 2) (.t 4)⟩, ⟨some 16, none, .callf 9 [(.t 14), (.t 15)]⟩, ⟨some 8, none, .mov (.t 16)⟩]) (.seq (.seq (.reg [⟨some 17, none, .mov (.t 8)⟩, ⟨some 18, none, .bin .eql (.t 17) (.c (.pv (.int .i64 0)))⟩, ⟨some 19, none, .mov (.t 18)⟩, ⟨some 20, some (19, true), .mov (.t 2)⟩, ⟨some 21, some (19, true), .fad 2 (.t 3)⟩, ⟨some 22, some (19, true), .load none (.t 21)⟩, ⟨some 23, some (19, true), .callf 14 [(.t 20), (.t 22)]⟩, ⟨some 24, some (19, true), .un .not (.t 23)⟩, ⟨some 25, none, .land (.t 19) (.t 24)⟩]) (.cond (.t 25) (.reg [⟨some 8, none, .mov (.c (.pv (.int .i64 24)))⟩]) (.skip))) (.seq (.seq (.reg [⟨some 26, none, .mov (.t 8)⟩, ⟨some 27, none, .bin .neq (.t 26) (.c (.pv (.int .i64 0)))⟩]) (.cond (.t 27) (.seq (.reg [⟨some 28, none, .mov (.t 8)⟩, ⟨some 6, none, .mov (.c (.nilS 3))⟩, ⟨some 7, none, .mov (.t 28)⟩]) (.ret)) (.skip))) (.seq (.reg [⟨some 9, none, .mov (.c (.nilS 3))⟩]) (.gh (.own 9 3) (.seq (.reg [⟨some 29, none, .fad 6 (.t 3)⟩, ⟨some 30, none, .load none (.t 29)⟩, ⟨some 31, none, .fad 0 (.t 4)⟩, ⟨some 32, none, .load none (.t 31)⟩, ⟨some 33, none, .iad 9 (.t 30) (.t 32)⟩, ⟨some 34, none, .load (some 9) (.t 33)⟩, ⟨some 10, none, .alloc [.pv (.str ⟨#[]⟩), .pv (.int .u64 0), .pv (.int .u64 0), .nilS 6, .nilS 21, .pv (.int .i64 0), .pv (.int .i64 0), .pv (.int .i64 0), .pv (.int .i64 0)]⟩, ⟨none, none, .store 9 (.t 10) (.t 34)⟩]) (.seq (.seq (.reg [⟨some 11, none, .mov (.c (.pv (.int .i64 0)))⟩]) (.blk 0 (.loop ⟨[2, 3, 4, 9, 10, 11], [0, 1, 2, 3], 4⟩ (.seq (.seq (.reg [⟨some 35, none, .mov (.t 11)⟩, ⟨some 36, none, .fad 3 (.t 10)⟩, ⟨some 37, none, .load none (.t 36)⟩, ⟨some 38, none, .len (.t 37)⟩, ⟨some 39, none, .bin .lss (.t 35) (.t 38)⟩]) (.cond (.t 39) (.skip) (.ext 0))) (.seq (.blk 1 (.seq (.reg [⟨some 42, none, .fad 3 (.t 10)⟩, ⟨some 43, none, .load none (.t 42)⟩, ⟨some 44, none, .mov (.t 11)⟩, ⟨some 45, none, .iad 6 (.t 43) (.t 44)⟩, ⟨some 46, none, .load (some 6) (.t 45)⟩, ⟨some 12, none, .alloc [.pv (.str ⟨#[]⟩), .pv (.int .u8 0), .pv (.int .i64 0), .pv (.int .i64 0), .nilS 2, .pv (.int .i64 0)]⟩, ⟨none, none, .store 6 (.t 12) (.t 46)⟩]) (.seq (.reg [⟨some 47, none, .fad 1 (.t 4)⟩, ⟨some 48, none, .load none (.t 47)⟩, ⟨some 49, none, .mov (.t 11)⟩, ⟨some 50, none, .iad 1 (.t 48) (.t 49)⟩, ⟨some 51, none, .load none (.t 50)⟩, ⟨some 13, none, .mov (.t 51)⟩]) (.seq (.seq (.reg [⟨some 52, none, .fad 1 (.t 12)⟩, ⟨some 53, none, .load none (.t 52)⟩]) (.blk 2 (.seq (.reg [⟨some 55, none, .bin .eql (.t 53) (.c (.pv (.int .u8 1)))⟩, ⟨some 54, none, .mov (.t 55)⟩]) (.cond (.t 54) (.ext 1) (.seq (.reg [⟨some 57, none, .bin .eql (.t 53) (.c (.pv (.int .u8 4)))⟩, ⟨some 56, none, .mov (.t 57)⟩]) (.cond (.t 56) (.reg [⟨some 58, none, .mov (.t 2)⟩, ⟨some 59, none, .conv .i64 (.t 58)⟩, ⟨some 60, none, .fad 1 (.t 3)⟩, ⟨some 61, none, .load none (.t 60)⟩, ⟨some 62, none, .bin .add (.t 59) (.t 61)⟩, ⟨some 63, none, .fad 1 (.t 3)⟩, ⟨some 64, none, .load none (.t 63)⟩, ⟨some 65, none, .mov (.t 13)⟩, ⟨some 66, none, .bin .mul (.t 64) (.t 65)⟩, ⟨some 67, none, .bin .add (.t 62) (.t 66)⟩, ⟨some 13, none, .mov (.t 67)⟩]) (.skip))))))) (.dreg [⟨some 68, none, .mov (.t 9)⟩, ⟨some 69, none, .fad 0 (.t 12)⟩, ⟨some 70, none, .load none (.t 69)⟩, ⟨some 71, none, .fad 2 (.t 3)⟩, ⟨some 72, none, .load none (.t 71)⟩, ⟨some 73, none, .mov (.t 13)⟩, ⟨some 74, none, .fad 2 (.t 3)⟩, ⟨some 75, none, .load none (.t 74)⟩, ⟨some 76, none, .callf 15 [(.t 73), (.t 75)]⟩, ⟨some 77, none, .build [.pv (.str ⟨#[]⟩), .pv (.int .i64 0), .pv (.int .u64 0)] [((0, 1), (.t 70)), ((1, 1), (.t 72)), ((2, 1), (.t 76))]⟩, ⟨some 78, none, .lit 3 [(.t 77)]⟩, ⟨some 79, none, .app 3 32 (.t 68) (.t 78)⟩, ⟨some 9, none, .mov (.t 79)⟩] [[], [], [1], [], [3], [], [], [6], [5, 6, 7], [1, 2, 3, 4, 5, 6, 7, 8], [1, 2, 3, 4, 5, 6, 7, 8, 9], [0, 1, 2, 3, 4, 5, 6, 7, 8, 9, 10], [0, 1, 2, 3, 4, 5, 6, 7, 8, 9, 10, 11]]))))) (.reg [⟨some 40, none, .mov (.t 11)⟩, ⟨some 41, none, .bin .add (.t 40) (.c (.pv (.int .i64 1)))⟩, ⟨some 11, none, .mov (.t 41)⟩])))))) (.seq (.reg [⟨some 80, none, .mov (.t 9)⟩, ⟨some 81, none, .fad 2 (.t 3)⟩, ⟨some 82, none, .load none (.t 81)⟩, ⟨some 83, none, .mov (.t 2)⟩, ⟨some 84, none, .build [.pv (.str ⟨#[]⟩), .pv (.int .i64 0), .pv (.int .u64 0)] [((0, 1), (.c (.pv (.str ⟨#[112, 99]⟩)))), ((1, 1), (.t 82)), ((2, 1), (.t 83))]⟩, ⟨some 85, none, .lit 3 [(.t 84)]⟩, ⟨some 86, none, .app 3 32 (.t 80) (.t 85)⟩, ⟨some 6, none, .mov (.t 86)⟩, ⟨some 7, none, .mov (.c (.pv (.int .i64 0)))⟩]) (.ret)))))))))
theorem k_retargetref08_Vars : FnOk Tryd.prog 6 87 c_retargetref08_Vars [.tmp 6, .tmp 7] := .mk' (fn := Tryd.f6) rfl rfl (by kernel_rfl) rfl (by kernel_rfl) (by kernel_rfl)
/- "retarget/retargetref08.CheckOp" -/
def c_retargetref08_CheckOp : C :=
.seq (.reg [⟨some 2, none, .box 7 (.t 0)⟩, ⟨some 3, none, .box 2 (.t 1)⟩, ⟨some 4, none, .mov (.c (.pv (.int .i64 0)))⟩]) (.seq (.reg [⟨some 6, none, .load (some 7) (.t 2)⟩, ⟨some 7, none, .callf 20 [(.t 6)]⟩, ⟨some 5, none, .mov (.t 7)⟩]) (.seq (.seq (.reg [⟨some 8, none, .mov (.t 5)⟩, ⟨some 9, none, .bin .neq (.t 8) (.c (.pv (.int .i64 0)))⟩]) (.cond (.t 9) (.seq (.reg [⟨some 10, none, .mov (.t 5)⟩, ⟨some 4, none, .mov (.t 10)⟩]) (.ret)) (.skip))) (.seq (.reg [⟨some 11, none, .load (some 7) (.t 2)⟩, ⟨some 12, none, .load (some 2) (.t 3)⟩, ⟨some 13, none, .callf 21 [(.t 11), (.t 12)]⟩, ⟨some 4, none, .mov (.t 13)⟩]) (.ret))))
theorem k_retargetref08_CheckOp : FnOk Tryd.prog 9 14 c_retargetref08_CheckOp [.tmp 4] := .mk' (fn := Tryd.f9) rfl rfl (by kernel_rfl) rfl (by kernel_rfl) (by kernel_rfl)
/- "retarget/retargetref08.SameOp" -/
def c_retargetref08_SameOp : C :=
.seq (.reg [⟨some 2, none, .box 2 (.t 0)⟩, ⟨some 3, none, .box 2 (.t 1)⟩, ⟨some 4, none, .mov (.c (.pv (.bool false)))⟩]) (.seq (.reg [⟨some 5, none, .fad 0 (.t 2)⟩, ⟨some 6, none, .load none (.t 5)⟩, ⟨some 7, none, .fad 0 (.t 3)⟩, ⟨some 8, none, .load none (.t 7)⟩, ⟨some 9, none, .bin .eql (.t 6) (.t 8)⟩, ⟨some 10, none, .mov (.t 9)⟩, ⟨some 11, some (10, true), .fad 1 (.t 2)⟩, ⟨some 12, some (10, true), .load none (.t 11)⟩, ⟨some 13, some (10, true), .fad 1 (.t 3)⟩, ⟨some 14, some (10, true), .load none (.t 13)⟩, ⟨some 15, some (10, true), .callf 22 [(.t 12), (.t 14)]⟩, ⟨some 16, none, .land (.t 10) (.t 15)⟩, ⟨some 4, none, .mov (.t 16)⟩]) (.ret))
theorem k_retargetref08_SameOp : FnOk Tryd.prog 10 17 c_retargetref08_SameOp [.tmp 4] := .mk' (fn := Tryd.f10) rfl rfl (by kernel_rfl) rfl (by kernel_rfl) (by kernel_rfl)
/- "retarget/retargetref08.Modulo" -/
def c_retargetref08_Modulo : C :=
.seq (.reg [⟨some 4, none, .mov (.c (.pv (.int .u64 0)))⟩]) (.seq (.reg [⟨some 6, none, .mov (.t 1)⟩, ⟨some 7, none, .callf 27 [(.t 6)]⟩, ⟨some 5, none, .mov (.t 7)⟩]) (.seq (.reg [⟨some 8, none, .mov (.t 0)⟩, ⟨some 9, none, .mov (.t 5)⟩, ⟨some 10, none, .bin .rem (.t 8) (.t 9)⟩, ⟨some 11, none, .mov (.t 5)⟩, ⟨some 12, none, .bin .add (.t 10) (.t 11)⟩, ⟨some 13, none, .mov (.t 5)⟩, ⟨some 14, none, .bin .rem (.t 12) (.t 13)⟩, ⟨some 15, none, .conv .u64 (.t 14)⟩, ⟨some 4, none, .mov (.t 15)⟩]) (.ret)))
theorem k_retargetref08_Modulo : FnOk Tryd.prog 15 16 c_retargetref08_Modulo [.tmp 4] := .mk' (fn := Tryd.f15) rfl rfl (by kernel_rfl) rfl (by kernel_rfl) (by kernel_rfl)
/- "retarget/retargetref08.Suits" -/
def c_retargetref08_Suits : C :=
.seq (.reg [⟨some 2, none, .box 7 (.t 0)⟩, ⟨some 3, none, .box 2 (.t 1)⟩, ⟨some 4, none, .mov (.c (.pv (.int .i64 0)))⟩]) (.seq (.seq (.reg [⟨some 8, none, .fad 0 (.t 3)⟩, ⟨some 9, none, .load none (.t 8)⟩, ⟨some 10, none, .fad 6 (.t 2)⟩, ⟨some 11, none, .load none (.t 10)⟩, ⟨some 12, none, .len (.t 11)⟩, ⟨some 13, none, .bin .sub (.t 12) (.c (.pv (.int .i64 1)))⟩, ⟨some 14, none, .callf 40 [(.t 9), (.c (.pv (.int .i64 0))), (.t 13)]⟩, ⟨some 15, none, .un .not (.t 14)⟩]) (.cond (.t 15) (.seq (.reg [⟨some 4, none, .mov (.c (.pv (.int .i64 6)))⟩]) (.ret)) (.skip))) (.seq (.reg [⟨some 16, none, .fad 6 (.t 2)⟩, ⟨some 17, none, .load none (.t 16)⟩, ⟨some 18, none, .fad 0 (.t 3)⟩, ⟨some 19, none, .load none (.t 18)⟩, ⟨some 20, none, .iad 9 (.t 17) (.t 19)⟩, ⟨some 21, none, .load (some 9) (.t 20)⟩, ⟨some 5, none, .alloc [.pv (.str ⟨#[]⟩), .pv (.int .u64 0), .pv (.int .u64 0), .nilS 6, .nilS 21, .pv (.int .i64 0), .pv (.int .i64 0), .pv (.int .i64 0), .pv (.int .i64 0)]⟩, ⟨none, none, .store 9 (.t 5) (.t 21)⟩]) (.seq (.seq (.reg [⟨some 22, none, .fad 1 (.t 3)⟩, ⟨some 23, none, .load none (.t 22)⟩, ⟨some 24, none, .len (.t 23)⟩, ⟨some 25, none, .fad 3 (.t 5)⟩, ⟨some 26, none, .load none (.t 25)⟩, ⟨some 27, none, .len (.t 26)⟩, ⟨some 28, none, .bin .neq (.t 24) (.t 27)⟩]) (.cond (.t 28) (.seq (.reg [⟨some 4, none, .mov (.c (.pv (.int .i64 2)))⟩]) (.ret)) (.skip))) (.seq (.seq (.reg [⟨some 6, none, .mov (.c (.pv (.int .i64 0)))⟩]) (.blk 0 (.loop ⟨[2, 3, 5, 6], [0, 1, 2], 3⟩ (.seq (.seq (.reg [⟨some 29, none, .mov (.t 6)⟩, ⟨some 30, none, .fad 3 (.t 5)⟩, ⟨some 31, none, .load none (.t 30)⟩, ⟨some 32, none, .len (.t 31)⟩, ⟨some 33, none, .bin .lss (.t 29) (.t 32)⟩]) (.cond (.t 33) (.skip) (.ext 0))) (.seq (.blk 1 (.seq (.reg [⟨some 36, none, .fad 3 (.t 5)⟩, ⟨some 37, none, .load none (.t 36)⟩, ⟨some 38, none, .mov (.t 6)⟩, ⟨some 39, none, .iad 6 (.t 37) (.t 38)⟩, ⟨some 40, none, .load (some 6) (.t 39)⟩, ⟨some 7, none, .alloc [.pv (.str ⟨#[]⟩), .pv (.int .u8 0), .pv (.int .i64 0), .pv (.int .i64 0), .nilS 2, .pv (.int .i64 0)]⟩, ⟨none, none, .store 6 (.t 7) (.t 40)⟩]) (.blk 2 (.seq (.reg [⟨some 42, none, .fad 1 (.t 7)⟩, ⟨some 43, none, .load none (.t 42)⟩, ⟨some 44, none, .bin .neq (.t 43) (.c (.pv (.int .u8 1)))⟩, ⟨some 41, none, .mov (.t 44)⟩]) (.cond (.t 41) (.seq (.dreg [⟨some 45, none, .load (some 6) (.t 7)⟩, ⟨some 46, none, .fad 1 (.t 3)⟩, ⟨some 47, none, .load none (.t 46)⟩, ⟨some 48, none, .mov (.t 6)⟩, ⟨some 49, none, .iad 1 (.t 47) (.t 48)⟩, ⟨some 50, none, .load none (.t 49)⟩, ⟨some 51, none, .callf 45 [(.t 45), (.t 50)]⟩, ⟨some 52, none, .un .not (.t 51)⟩] [[], [], [1], [], [1, 2, 3], [1, 2, 3, 4], [0, 1, 2, 3, 4, 5], [0, 1, 2, 3, 4, 5, 6]]) (.cond (.t 52) (.seq (.reg [⟨some 4, none, .mov (.c (.pv (.int .i64 24)))⟩]) (.ret)) (.skip))) (.seq (.dreg [⟨some 54, none, .fad 4 (.t 2)⟩, ⟨some 55, none, .load none (.t 54)⟩, ⟨some 56, none, .fad 2 (.t 7)⟩, ⟨some 57, none, .load none (.t 56)⟩, ⟨some 58, none, .iad 2 (.t 55) (.t 57)⟩, ⟨some 59, none, .load (some 2) (.t 58)⟩, ⟨some 60, none, .fad 1 (.t 3)⟩, ⟨some 61, none, .load none (.t 60)⟩, ⟨some 62, none, .mov (.t 6)⟩, ⟨some 63, none, .iad 1 (.t 61) (.t 62)⟩, ⟨some 64, none, .load none (.t 63)⟩, ⟨some 65, none, .callf 46 [(.t 59), (.t 64)]⟩, ⟨some 66, none, .bin .lss (.t 65) (.c (.pv (.int .i64 0)))⟩, ⟨some 53, none, .mov (.t 66)⟩] [[], [0], [], [2], [0, 1, 2, 3], [0, 1, 2, 3, 4], [], [6], [], [6, 7, 8], [6, 7, 8, 9], [0, 1, 2, 3, 4, 5, 6, 7, 8, 9, 10], [0, 1, 2, 3, 4, 5, 6, 7, 8, 9, 10, 11], [0, 1, 2, 3, 4, 5, 6, 7, 8, 9, 10, 11, 12]]) (.cond (.t 53) (.seq (.reg [⟨some 4, none, .mov (.c (.pv (.int .i64 16)))⟩]) (.ret)) (.seq (.dreg [⟨some 68, none, .fad 5 (.t 7)⟩, ⟨some 69, none, .load none (.t 68)⟩, ⟨some 70, none, .bin .geq (.t 69) (.c (.pv (.int .i64 0)))⟩, ⟨some 71, none, .mov (.t 70)⟩, ⟨some 72, some (71, true), .fad 1 (.t 3)⟩, ⟨some 73, some (71, true), .load none (.t 72)⟩, ⟨some 74, some (71, true), .fad 5 (.t 7)⟩, ⟨some 75, some (71, true), .load none (.t 74)⟩, ⟨some 76, some (71, true), .iad 1 (.t 73) (.t 75)⟩, ⟨some 77, some (71, true), .load none (.t 76)⟩, ⟨some 78, some (71, true), .fad 1 (.t 3)⟩, ⟨some 79, some (71, true), .load none (.t 78)⟩, ⟨some 80, some (71, true), .mov (.t 6)⟩, ⟨some 81, some (71, true), .iad 1 (.t 79) (.t 80)⟩, ⟨some 82, some (71, true), .load none (.t 81)⟩, ⟨some 83, some (71, true), .bin .neq (.t 77) (.t 82)⟩, ⟨some 84, none, .land (.t 71) (.t 83)⟩, ⟨some 67, none, .mov (.t 84)⟩] [[], [0], [0, 1], [0, 1, 2], [0, 1, 2, 3], [0, 1, 2, 3, 4], [0, 1, 2, 3], [0, 1, 2, 3, 6], [0, 1, 2, 3, 4, 5, 6, 7], [0, 1, 2, 3, 4, 5, 6, 7, 8], [0, 1, 2, 3], [0, 1, 2, 3, 10], [0, 1, 2, 3], [0, 1, 2, 3, 10, 11, 12], [0, 1, 2, 3, 10, 11, 12, 13], [0, 1, 2, 3, 4, 5, 6, 7, 8, 9, 10, 11, 12, 13, 14], [0, 1, 2, 3, 4, 5, 6, 7, 8, 9, 10, 11, 12, 13, 14, 15], [0, 1, 2, 3, 4, 5, 6, 7, 8, 9, 10, 11, 12, 13, 14, 15, 16]]) (.cond (.t 67) (.seq (.reg [⟨some 4, none, .mov (.c (.pv (.int .i64 40)))⟩]) (.ret)) (.skip)))))))))) (.reg [⟨some 34, none, .mov (.t 6)⟩, ⟨some 35, none, .bin .add (.t 34) (.c (.pv (.int .i64 1)))⟩, ⟨some 6, none, .mov (.t 35)⟩])))))) (.seq (.reg [⟨some 4, none, .mov (.c (.pv (.int .i64 0)))⟩]) (.ret))))))
theorem k_retargetref08_Suits : FnOk Tryd.prog 21 85 c_retargetref08_Suits [.tmp 4] := .mk' (fn := Tryd.f21) rfl rfl (by kernel_rfl) rfl (by kernel_rfl) (by kernel_rfl)
/- "retarget/retargetref08.sameInts" -/
def c_retargetref08_sameInts : C :=
.seq (.reg [⟨some 4, none, .mov (.c (.pv (.bool false)))⟩]) (.seq (.seq (.reg [⟨some 6, none, .mov (.t 0)⟩, ⟨some 7, none, .len (.t 6)⟩, ⟨some 8, none, .mov (.t 1)⟩, ⟨some 9, none, .len (.t 8)⟩, ⟨some 10, none, .bin .neq (.t 7) (.t 9)⟩]) (.cond (.t 10) (.seq (.reg [⟨some 4, none, .mov (.c (.pv (.bool false)))⟩]) (.ret)) (.skip))) (.seq (.seq (.reg [⟨some 5, none, .mov (.c (.pv (.int .i64 0)))⟩]) (.blk 0 (.loop ⟨[0, 1, 5], [], 0⟩ (.seq (.seq (.reg [⟨some 11, none, .mov (.t 5)⟩, ⟨some 12, none, .mov (.t 0)⟩, ⟨some 13, none, .len (.t 12)⟩, ⟨some 14, none, .bin .lss (.t 11) (.t 13)⟩]) (.cond (.t 14) (.skip) (.ext 0))) (.seq (.blk 1 (.seq (.dreg [⟨some 17, none, .mov (.t 0)⟩, ⟨some 18, none, .mov (.t 5)⟩, ⟨some 19, none, .iad 1 (.t 17) (.t 18)⟩, ⟨some 20, none, .load none (.t 19)⟩, ⟨some 21, none, .mov (.t 1)⟩, ⟨some 22, none, .mov (.t 5)⟩, ⟨some 23, none, .iad 1 (.t 21) (.t 22)⟩, ⟨some 24, none, .load none (.t 23)⟩, ⟨some 25, none, .bin .neq (.t 20) (.t 24)⟩] [[], [], [0, 1], [0, 1, 2], [], [], [4, 5], [4, 5, 6], [0, 1, 2, 3, 4, 5, 6, 7]]) (.cond (.t 25) (.seq (.reg [⟨some 4, none, .mov (.c (.pv (.bool false)))⟩]) (.ret)) (.skip)))) (.reg [⟨some 15, none, .mov (.t 5)⟩, ⟨some 16, none, .bin .add (.t 15) (.c (.pv (.int .i64 1)))⟩, ⟨some 5, none, .mov (.t 16)⟩])))))) (.seq (.reg [⟨some 4, none, .mov (.c (.pv (.bool true)))⟩]) (.ret))))
theorem k_retargetref08_sameInts : FnOk Tryd.prog 22 26 c_retargetref08_sameInts [.tmp 4] := .mk' (fn := Tryd.f22) rfl rfl (by kernel_rfl) rfl (by kernel_rfl) (by kernel_rfl)
/- "retarget/retargetref08.Ranged" -/
def c_retargetref08_Ranged : C :=
.seq (.reg [⟨some 2, none, .box 6 (.t 0)⟩, ⟨some 4, none, .mov (.c (.pv (.bool false)))⟩]) (.seq (.reg [⟨some 7, none, .fad 3 (.t 2)⟩, ⟨some 8, none, .load none (.t 7)⟩, ⟨some 9, none, .callf 27 [(.t 8)]⟩, ⟨some 5, none, .mov (.t 9)⟩]) (.seq (.seq (.reg [⟨some 10, none, .mov (.t 1)⟩, ⟨some 11, none, .mov (.t 5)⟩, ⟨some 12, none, .bin .rem (.t 10) (.t 11)⟩, ⟨some 13, none, .bin .neq (.t 12) (.c (.pv (.int .i64 0)))⟩]) (.cond (.t 13) (.seq (.reg [⟨some 4, none, .mov (.c (.pv (.bool false)))⟩]) (.ret)) (.skip))) (.seq (.reg [⟨some 14, none, .load (some 6) (.t 2)⟩, ⟨some 15, none, .callf 56 [(.t 14)]⟩, ⟨some 6, none, .mov (.t 15)⟩]) (.seq (.seq (.reg [⟨some 16, none, .fad 1 (.t 2)⟩, ⟨some 17, none, .load none (.t 16)⟩, ⟨some 18, none, .bin .eql (.t 17) (.c (.pv (.int .u8 3)))⟩]) (.cond (.t 18) (.seq (.dreg [⟨some 19, none, .mov (.t 1)⟩, ⟨some 20, none, .mov (.t 5)⟩, ⟨some 21, none, .bin .quo (.t 19) (.t 20)⟩, ⟨some 22, none, .mov (.t 6)⟩, ⟨some 23, none, .callf 27 [(.t 22)]⟩, ⟨some 24, none, .bin .sub (.t 23) (.c (.pv (.int .i64 1)))⟩, ⟨some 25, none, .callf 40 [(.t 21), (.c (.pv (.int .i64 0))), (.t 24)]⟩, ⟨some 4, none, .mov (.t 25)⟩] [[], [], [0, 1], [], [3], [3, 4], [0, 1, 2, 3, 4, 5], [0, 1, 2, 3, 4, 5, 6]]) (.ret)) (.skip))) (.seq (.dreg [⟨some 26, none, .mov (.t 1)⟩, ⟨some 27, none, .mov (.t 5)⟩, ⟨some 28, none, .bin .quo (.t 26) (.t 27)⟩, ⟨some 29, none, .mov (.t 6)⟩, ⟨some 30, none, .bin .sub (.t 29) (.c (.pv (.int .i64 1)))⟩, ⟨some 31, none, .callf 27 [(.t 30)]⟩, ⟨some 32, none, .un .neg (.t 31)⟩, ⟨some 33, none, .mov (.t 6)⟩, ⟨some 34, none, .bin .sub (.t 33) (.c (.pv (.int .i64 1)))⟩, ⟨some 35, none, .callf 27 [(.t 34)]⟩, ⟨some 36, none, .bin .sub (.t 35) (.c (.pv (.int .i64 1)))⟩, ⟨some 37, none, .callf 40 [(.t 28), (.t 32), (.t 36)]⟩, ⟨some 4, none, .mov (.t 37)⟩] [[], [], [0, 1], [], [3], [3, 4], [3, 4, 5], [], [7], [3, 4, 5, 7, 8], [3, 4, 5, 7, 8, 9], [0, 1, 2, 3, 4, 5, 6, 7, 8, 9, 10], [0, 1, 2, 3, 4, 5, 6, 7, 8, 9, 10, 11]]) (.ret))))))
theorem k_retargetref08_Ranged : FnOk Tryd.prog 45 38 c_retargetref08_Ranged [.tmp 4] := .mk' (fn := Tryd.f45) rfl rfl (by kernel_rfl) rfl (by kernel_rfl) (by kernel_rfl)
/- "retarget/retargetref08.Place" -/
def c_retargetref08_Place : C :=
.seq (.reg [⟨some 2, none, .box 2 (.t 0)⟩, ⟨some 4, none, .mov (.c (.pv (.int .i64 0)))⟩]) (.seq (.seq (.reg [⟨some 5, none, .mov (.c (.pv (.int .i64 0)))⟩]) (.blk 0 (.loop ⟨[1, 2, 5], [0], 1⟩ (.seq (.seq (.reg [⟨some 6, none, .mov (.t 5)⟩, ⟨some 7, none, .fad 1 (.t 2)⟩, ⟨some 8, none, .load none (.t 7)⟩, ⟨some 9, none, .len (.t 8)⟩, ⟨some 10, none, .bin .lss (.t 6) (.t 9)⟩]) (.cond (.t 10) (.skip) (.ext 0))) (.seq (.blk 1 (.seq (.reg [⟨some 13, none, .fad 1 (.t 2)⟩, ⟨some 14, none, .load none (.t 13)⟩, ⟨some 15, none, .mov (.t 5)⟩, ⟨some 16, none, .iad 1 (.t 14) (.t 15)⟩, ⟨some 17, none, .load none (.t 16)⟩, ⟨some 18, none, .mov (.t 1)⟩, ⟨some 19, none, .bin .eql (.t 17) (.t 18)⟩]) (.cond (.t 19) (.seq (.reg [⟨some 20, none, .mov (.t 5)⟩, ⟨some 4, none, .mov (.t 20)⟩]) (.ret)) (.skip)))) (.reg [⟨some 11, none, .mov (.t 5)⟩, ⟨some 12, none, .bin .add (.t 11) (.c (.pv (.int .i64 1)))⟩, ⟨some 5, none, .mov (.t 12)⟩])))))) (.seq (.reg [⟨some 4, none, .mov (.c (.pv (.int .i64 (-1))))⟩]) (.ret)))
theorem k_retargetref08_Place : FnOk Tryd.prog 46 21 c_retargetref08_Place [.tmp 4] := .mk' (fn := Tryd.f46) rfl rfl (by kernel_rfl) rfl (by kernel_rfl) (by kernel_rfl)
end Go.Proofs.YteiampdhhigjcaaDoorV

/- The program's functions as trees of our logic (group c). -/
namespace Go.Proofs.YteiampdhhigjcaaDoorV
open Go
set_option maxRecDepth 100000
/- "retarget/machine.Vars" -/
def c_machine_Vars : C :=
.seq (.reg [⟨some 3, none, .box 7 (.t 0)⟩, ⟨some 4, none, .box 2 (.t 1)⟩, ⟨some 6, none, .mov (.c (.nilS 3))⟩, ⟨some 7, none, .mov (.c (.pv (.int .i64 0)))⟩]) (.seq (.seq (.reg [⟨some 14, none, .load (some 7) (.t 3)⟩, ⟨some 15, none, .load (some 2) (.t 4)⟩, ⟨some 16, none, .callf 8 [(.t 14), (.t 15)]⟩, ⟨some 8, none, .mov (.t 16)⟩]) (.seq (.reg [⟨some 17, none, .mov (.t 8)⟩, ⟨some 18, none, .bin .neq (.t 17) (.c (.pv (.int .i64 0)))⟩]) (.cond (.t 18) (.seq (.reg [⟨some 19, none, .mov (.t 8)⟩, ⟨some 6, none, .mov (.c (.nilS 3))⟩, ⟨some 7, none, .mov (.t 19)⟩]) (.ret)) (.skip)))) (.seq (.reg [⟨some 20, none, .fad 2 (.t 3)⟩, ⟨some 21, none, .load none (.t 20)⟩, ⟨some 22, none, .callf 13 [(.t 21)]⟩, ⟨some 9, none, .mov (.t 22)⟩]) (.seq (.seq (.reg [⟨some 23, none, .mov (.t 2)⟩, ⟨some 24, none, .mov (.t 9)⟩, ⟨some 25, none, .bin .gtr (.t 23) (.t 24)⟩]) (.cond (.t 25) (.seq (.reg [⟨some 6, none, .mov (.c (.nilS 3))⟩, ⟨some 7, none, .mov (.c (.pv (.int .i64 24)))⟩]) (.ret)) (.skip))) (.seq (.reg [⟨some 10, none, .mov (.c (.nilS 3))⟩]) (.gh (.own 10 3) (.seq (.seq (.reg [⟨some 26, none, .fad 6 (.t 3)⟩, ⟨some 27, none, .load none (.t 26)⟩, ⟨some 28, none, .fad 0 (.t 4)⟩, ⟨some 29, none, .load none (.t 28)⟩, ⟨some 30, none, .iad 9 (.t 27) (.t 29)⟩, ⟨some 31, none, .fad 3 (.t 30)⟩, ⟨some 32, none, .load none (.t 31)⟩, ⟨some 33, none, .len (.t 32)⟩, ⟨some 34, none, .mov (.c (.pv (.int .i64 0)))⟩]) (.blk 0 (.loop ⟨[2, 3, 4, 9, 10, 32, 33, 34], [0, 1, 2], 3⟩ (.seq (.reg [⟨some 35, none, .bin .lss (.t 34) (.t 33)⟩]) (.seq (.cond (.t 35) (.skip) (.ext 0)) (.seq (.blk 1 (.seq (.reg [⟨some 36, none, .mov (.t 34)⟩, ⟨some 37, none, .iad 6 (.t 32) (.t 34)⟩, ⟨some 38, none, .load (some 6) (.t 37)⟩, ⟨some 12, none, .alloc [.pv (.str ⟨#[]⟩), .pv (.int .u8 0), .pv (.int .i64 0), .pv (.int .i64 0), .nilS 2, .pv (.int .i64 0)]⟩, ⟨some 11, none, .mov (.t 36)⟩, ⟨none, none, .store 6 (.t 12) (.t 38)⟩]) (.seq (.reg [⟨some 39, none, .fad 1 (.t 4)⟩, ⟨some 40, none, .load none (.t 39)⟩, ⟨some 41, none, .mov (.t 11)⟩, ⟨some 42, none, .iad 1 (.t 40) (.t 41)⟩, ⟨some 43, none, .load none (.t 42)⟩, ⟨some 44, none, .conv .u64 (.t 43)⟩, ⟨some 13, none, .mov (.t 44)⟩]) (.seq (.seq (.reg [⟨some 45, none, .fad 1 (.t 12)⟩, ⟨some 46, none, .load none (.t 45)⟩]) (.blk 2 (.seq (.reg [⟨some 48, none, .bin .eql (.t 46) (.c (.pv (.int .u8 1)))⟩, ⟨some 47, none, .mov (.t 48)⟩]) (.cond (.t 47) (.ext 1) (.seq (.reg [⟨some 50, none, .bin .eql (.t 46) (.c (.pv (.int .u8 4)))⟩, ⟨some 49, none, .mov (.t 50)⟩]) (.cond (.t 49) (.reg [⟨some 51, none, .mov (.t 2)⟩, ⟨some 52, none, .fad 1 (.t 3)⟩, ⟨some 53, none, .load none (.t 52)⟩, ⟨some 54, none, .conv .u64 (.t 53)⟩, ⟨some 55, none, .mov (.t 13)⟩, ⟨some 56, none, .bin .add (.t 55) (.c (.pv (.int .u64 1)))⟩, ⟨some 57, none, .bin .mul (.t 54) (.t 56)⟩, ⟨some 58, none, .bin .add (.t 51) (.t 57)⟩, ⟨some 13, none, .mov (.t 58)⟩]) (.skip))))))) (.reg [⟨some 59, none, .mov (.t 10)⟩, ⟨some 60, none, .fad 0 (.t 12)⟩, ⟨some 61, none, .load none (.t 60)⟩, ⟨some 62, none, .fad 2 (.t 3)⟩, ⟨some 63, none, .load none (.t 62)⟩, ⟨some 64, none, .mov (.t 13)⟩, ⟨some 65, none, .mov (.t 9)⟩, ⟨some 66, none, .bin .and (.t 64) (.t 65)⟩, ⟨some 67, none, .build [.pv (.str ⟨#[]⟩), .pv (.int .i64 0), .pv (.int .u64 0)] [((0, 1), (.t 61)), ((1, 1), (.t 63)), ((2, 1), (.t 66))]⟩, ⟨some 68, none, .lit 3 [(.t 67)]⟩, ⟨some 69, none, .app 3 32 (.t 59) (.t 68)⟩, ⟨some 10, none, .mov (.t 69)⟩]))))) (.reg [⟨some 70, none, .bin .add (.t 34) (.c (.pv (.int .i64 1)))⟩, ⟨some 34, none, .mov (.t 70)⟩]))))))) (.seq (.reg [⟨some 71, none, .mov (.t 10)⟩, ⟨some 72, none, .fad 2 (.t 3)⟩, ⟨some 73, none, .load none (.t 72)⟩, ⟨some 74, none, .mov (.t 2)⟩, ⟨some 75, none, .build [.pv (.str ⟨#[]⟩), .pv (.int .i64 0), .pv (.int .u64 0)] [((0, 1), (.c (.pv (.str ⟨#[112, 99]⟩)))), ((1, 1), (.t 73)), ((2, 1), (.t 74))]⟩, ⟨some 76, none, .lit 3 [(.t 75)]⟩, ⟨some 77, none, .app 3 32 (.t 71) (.t 76)⟩, ⟨some 6, none, .mov (.t 77)⟩, ⟨some 7, none, .mov (.c (.pv (.int .i64 0)))⟩]) (.ret))))))))
theorem k_machine_Vars : FnOk Tryd.prog 5 78 c_machine_Vars [.tmp 6, .tmp 7] := .mk' (fn := Tryd.f5) rfl rfl (by kernel_rfl) rfl (by kernel_rfl) (by kernel_rfl)
/- "retarget/machine.CheckOp" -/
def c_machine_CheckOp : C :=
.seq (.reg [⟨some 2, none, .box 7 (.t 0)⟩, ⟨some 3, none, .box 2 (.t 1)⟩, ⟨some 4, none, .mov (.c (.pv (.int .i64 0)))⟩]) (.seq (.seq (.reg [⟨some 10, none, .load (some 7) (.t 2)⟩, ⟨some 11, none, .callf 16 [(.t 10)]⟩, ⟨some 5, none, .mov (.t 11)⟩]) (.seq (.reg [⟨some 12, none, .mov (.t 5)⟩, ⟨some 13, none, .bin .neq (.t 12) (.c (.pv (.int .i64 0)))⟩]) (.cond (.t 13) (.seq (.reg [⟨some 14, none, .mov (.t 5)⟩, ⟨some 4, none, .mov (.t 14)⟩]) (.ret)) (.skip)))) (.seq (.seq (.reg [⟨some 15, none, .fad 0 (.t 3)⟩, ⟨some 16, none, .load none (.t 15)⟩, ⟨some 17, none, .fad 6 (.t 2)⟩, ⟨some 18, none, .load none (.t 17)⟩, ⟨some 19, none, .len (.t 18)⟩, ⟨some 20, none, .bin .sub (.t 19) (.c (.pv (.int .i64 1)))⟩, ⟨some 21, none, .callf 17 [(.t 16), (.c (.pv (.int .i64 0))), (.t 20)]⟩, ⟨some 22, none, .un .not (.t 21)⟩]) (.cond (.t 22) (.seq (.reg [⟨some 4, none, .mov (.c (.pv (.int .i64 6)))⟩]) (.ret)) (.skip))) (.seq (.reg [⟨some 23, none, .fad 6 (.t 2)⟩, ⟨some 24, none, .load none (.t 23)⟩, ⟨some 25, none, .fad 0 (.t 3)⟩, ⟨some 26, none, .load none (.t 25)⟩, ⟨some 27, none, .iad 9 (.t 24) (.t 26)⟩, ⟨some 28, none, .load (some 9) (.t 27)⟩, ⟨some 6, none, .alloc [.pv (.str ⟨#[]⟩), .pv (.int .u64 0), .pv (.int .u64 0), .nilS 6, .nilS 21, .pv (.int .i64 0), .pv (.int .i64 0), .pv (.int .i64 0), .pv (.int .i64 0)]⟩, ⟨none, none, .store 9 (.t 6) (.t 28)⟩]) (.seq (.seq (.reg [⟨some 29, none, .fad 1 (.t 3)⟩, ⟨some 30, none, .load none (.t 29)⟩, ⟨some 31, none, .len (.t 30)⟩, ⟨some 32, none, .fad 3 (.t 6)⟩, ⟨some 33, none, .load none (.t 32)⟩, ⟨some 34, none, .len (.t 33)⟩, ⟨some 35, none, .bin .neq (.t 31) (.t 34)⟩]) (.cond (.t 35) (.seq (.reg [⟨some 4, none, .mov (.c (.pv (.int .i64 2)))⟩]) (.ret)) (.skip))) (.seq (.seq (.reg [⟨some 36, none, .fad 3 (.t 6)⟩, ⟨some 37, none, .load none (.t 36)⟩, ⟨some 38, none, .len (.t 37)⟩, ⟨some 39, none, .mov (.c (.pv (.int .i64 0)))⟩]) (.blk 0 (.loop ⟨[2, 3, 37, 38, 39], [0, 1, 2], 3⟩ (.seq (.reg [⟨some 40, none, .bin .lss (.t 39) (.t 38)⟩]) (.seq (.cond (.t 40) (.skip) (.ext 0)) (.seq (.blk 1 (.seq (.reg [⟨some 41, none, .mov (.t 39)⟩, ⟨some 42, none, .iad 6 (.t 37) (.t 39)⟩, ⟨some 43, none, .load (some 6) (.t 42)⟩, ⟨some 8, none, .alloc [.pv (.str ⟨#[]⟩), .pv (.int .u8 0), .pv (.int .i64 0), .pv (.int .i64 0), .nilS 2, .pv (.int .i64 0)]⟩, ⟨some 7, none, .mov (.t 41)⟩, ⟨none, none, .store 6 (.t 8) (.t 43)⟩]) (.seq (.reg [⟨some 44, none, .fad 1 (.t 3)⟩, ⟨some 45, none, .load none (.t 44)⟩, ⟨some 46, none, .mov (.t 7)⟩, ⟨some 47, none, .iad 1 (.t 45) (.t 46)⟩, ⟨some 48, none, .load none (.t 47)⟩, ⟨some 9, none, .mov (.t 48)⟩]) (.seq (.seq (.reg [⟨some 49, none, .fad 1 (.t 8)⟩, ⟨some 50, none, .load none (.t 49)⟩, ⟨some 51, none, .bin .neq (.t 50) (.c (.pv (.int .u8 1)))⟩]) (.cond (.t 51) (.seq (.seq (.reg [⟨some 52, none, .load (some 6) (.t 8)⟩, ⟨some 53, none, .mov (.t 9)⟩, ⟨some 54, none, .callf 18 [(.t 52), (.t 53)]⟩, ⟨some 55, none, .un .not (.t 54)⟩]) (.cond (.t 55) (.seq (.reg [⟨some 4, none, .mov (.c (.pv (.int .i64 24)))⟩]) (.ret)) (.skip))) (.ext 1)) (.skip))) (.seq (.seq (.reg [⟨some 56, none, .fad 4 (.t 2)⟩, ⟨some 57, none, .load none (.t 56)⟩, ⟨some 58, none, .fad 2 (.t 8)⟩, ⟨some 59, none, .load none (.t 58)⟩, ⟨some 60, none, .iad 2 (.t 57) (.t 59)⟩, ⟨some 61, none, .fad 1 (.t 60)⟩, ⟨some 62, none, .load none (.t 61)⟩, ⟨some 63, none, .mov (.t 9)⟩, ⟨some 64, none, .callf 19 [(.t 62), (.t 63)]⟩, ⟨some 65, none, .un .not (.t 64)⟩]) (.cond (.t 65) (.seq (.reg [⟨some 4, none, .mov (.c (.pv (.int .i64 16)))⟩]) (.ret)) (.skip))) (.seq (.reg [⟨some 66, none, .fad 5 (.t 8)⟩, ⟨some 67, none, .load none (.t 66)⟩, ⟨some 68, none, .bin .geq (.t 67) (.c (.pv (.int .i64 0)))⟩, ⟨some 69, none, .mov (.t 68)⟩, ⟨some 70, some (69, true), .fad 1 (.t 3)⟩, ⟨some 71, some (69, true), .load none (.t 70)⟩, ⟨some 72, some (69, true), .fad 5 (.t 8)⟩, ⟨some 73, some (69, true), .load none (.t 72)⟩, ⟨some 74, some (69, true), .iad 1 (.t 71) (.t 73)⟩, ⟨some 75, some (69, true), .load none (.t 74)⟩, ⟨some 76, some (69, true), .mov (.t 9)⟩, ⟨some 77, some (69, true), .bin .neq (.t 75) (.t 76)⟩, ⟨some 78, none, .land (.t 69) (.t 77)⟩]) (.cond (.t 78) (.seq (.reg [⟨some 4, none, .mov (.c (.pv (.int .i64 40)))⟩]) (.ret)) (.skip)))))))) (.reg [⟨some 79, none, .bin .add (.t 39) (.c (.pv (.int .i64 1)))⟩, ⟨some 39, none, .mov (.t 79)⟩]))))))) (.seq (.reg [⟨some 4, none, .mov (.c (.pv (.int .i64 0)))⟩]) (.ret)))))))
theorem k_machine_CheckOp : FnOk Tryd.prog 8 80 c_machine_CheckOp [.tmp 4] := .mk' (fn := Tryd.f8) rfl rfl (by kernel_rfl) rfl (by kernel_rfl) (by kernel_rfl)
/- "retarget/machine.ranged" -/
def c_machine_ranged : C :=
.seq (.reg [⟨some 2, none, .box 6 (.t 0)⟩, ⟨some 4, none, .mov (.c (.pv (.bool false)))⟩]) (.seq (.reg [⟨some 7, none, .fad 3 (.t 2)⟩, ⟨some 8, none, .load none (.t 7)⟩, ⟨some 9, none, .bin .shl (.c (.pv (.int .i64 1))) (.t 8)⟩, ⟨some 5, none, .mov (.t 9)⟩]) (.seq (.seq (.reg [⟨some 10, none, .mov (.t 1)⟩, ⟨some 11, none, .mov (.t 5)⟩, ⟨some 12, none, .bin .rem (.t 10) (.t 11)⟩, ⟨some 13, none, .bin .neq (.t 12) (.c (.pv (.int .i64 0)))⟩]) (.cond (.t 13) (.seq (.reg [⟨some 4, none, .mov (.c (.pv (.bool false)))⟩]) (.ret)) (.skip))) (.seq (.reg [⟨some 14, none, .mov (.t 1)⟩, ⟨some 15, none, .mov (.t 5)⟩, ⟨some 16, none, .bin .quo (.t 14) (.t 15)⟩, ⟨some 1, none, .mov (.t 16)⟩]) (.seq (.reg [⟨some 17, none, .load (some 6) (.t 2)⟩, ⟨some 18, none, .callf 36 [(.t 17)]⟩, ⟨some 6, none, .mov (.t 18)⟩]) (.seq (.reg [⟨some 19, none, .fad 1 (.t 2)⟩, ⟨some 20, none, .load none (.t 19)⟩, ⟨some 21, none, .bin .eql (.t 20) (.c (.pv (.int .u8 3)))⟩]) (.cond (.t 21) (.seq (.reg [⟨some 22, none, .mov (.t 1)⟩, ⟨some 23, none, .mov (.t 6)⟩, ⟨some 24, none, .bin .shl (.c (.pv (.int .i64 1))) (.t 23)⟩, ⟨some 25, none, .bin .sub (.t 24) (.c (.pv (.int .i64 1)))⟩, ⟨some 26, none, .callf 17 [(.t 22), (.c (.pv (.int .i64 0))), (.t 25)]⟩, ⟨some 4, none, .mov (.t 26)⟩]) (.ret)) (.seq (.dreg [⟨some 27, none, .mov (.t 1)⟩, ⟨some 28, none, .mov (.t 6)⟩, ⟨some 29, none, .bin .sub (.t 28) (.c (.pv (.int .i64 1)))⟩, ⟨some 30, none, .bin .shl (.c (.pv (.int .i64 (-1)))) (.t 29)⟩, ⟨some 31, none, .mov (.t 6)⟩, ⟨some 32, none, .bin .sub (.t 31) (.c (.pv (.int .i64 1)))⟩, ⟨some 33, none, .bin .shl (.c (.pv (.int .i64 1))) (.t 32)⟩, ⟨some 34, none, .bin .sub (.t 33) (.c (.pv (.int .i64 1)))⟩, ⟨some 35, none, .callf 17 [(.t 27), (.t 30), (.t 34)]⟩, ⟨some 4, none, .mov (.t 35)⟩] [[], [], [1], [1, 2], [], [4], [4, 5], [4, 5, 6], [0, 1, 2, 3, 4, 5, 6, 7], [0, 1, 2, 3, 4, 5, 6, 7, 8]]) (.ret))))))))
theorem k_machine_ranged : FnOk Tryd.prog 18 36 c_machine_ranged [.tmp 4] := .mk' (fn := Tryd.f18) rfl rfl (by kernel_rfl) rfl (by kernel_rfl) (by kernel_rfl)
end Go.Proofs.YteiampdhhigjcaaDoorV

/- Plain law: values of registers. -/
namespace Go.Proofs.YteiampdhhigjcaaDoorV
open Go

/-- Values fit the roots. -/
def fitsR (m : Mach) (rs : List Int) : Bool := decide ((tops m).length = rs.length) && allB rs.length fun i => decide (gt rs (i : Nat) < 2 ^ (gt m.regs (gt (tops m) (i : Nat))).width.toNat)
def valE (m : Mach) (rs : List Int) (reg : Int) : Int := if partE m reg = 0 then if fitsR m rs = true then 0 else 14 else partE m reg
/-- Bits of a number from a lowest one on. -/
def fldN (x low n : Nat) : Nat := x / 2 ^ low % 2 ^ n
def putN (old low n x : Nat) : Nat := old % 2 ^ low + (x % 2 ^ n + old / 2 ^ (low + n) * 2 ^ n) * 2 ^ low
def rootV (m : Mach) (rs : List Int) (reg : Int) : Int := gt rs (partI m reg).1
def readI (m : Mach) (rs : List Int) (reg : Int) : Int := if valE m rs reg = 0 then (fldN (rootV m rs reg).toNat (partI m reg).2.1.toNat (partI m reg).2.2.toNat : Nat) else 0
def writeE (m : Mach) (rs : List Int) (reg x : Int) : Int := if valE m rs reg = 0 then if x < 2 ^ (partI m reg).2.2.toNat then 0 else 24 else valE m rs reg
def writeL (m : Mach) (rs : List Int) (reg x : Int) : List Int := if writeE m rs reg x = 0 then rs.set (partI m reg).1.toNat ((putN (rootV m rs reg).toNat (partI m reg).2.1.toNat (partI m reg).2.2.toNat x.toNat : Nat) : Int) else []

theorem fldN_bit (x low n i : Nat) : (fldN x low n).testBit i = (decide (i < n) && x.testBit (low + i)) := by
  rw [fldN, Nat.testBit_mod_two_pow, Nat.testBit_div_two_pow, Nat.add_comm]
theorem add_mul_bit {a b n : Nat} (h : a < 2 ^ n) (i : Nat) : (a + b * 2 ^ n).testBit i = if i < n then a.testBit i else b.testBit (i - n) := by
  rw [Nat.add_comm, Nat.mul_comm, Nat.testBit_two_pow_mul_add b h]
theorem putN_bit (old low n x i : Nat) : (putN old low n x).testBit i = if low ≤ i ∧ i < low + n then x.testBit (i - low) else old.testBit i := by
  rw [putN, add_mul_bit (Nat.mod_lt _ (Nat.two_pow_pos low)), add_mul_bit (Nat.mod_lt _ (Nat.two_pow_pos n))]
  by_cases h1 : i < low
  · rw [if_pos h1, if_neg (by omega), Nat.testBit_mod_two_pow]; simp [h1]
  · rw [if_neg h1]
    by_cases h2 : i - low < n
    · rw [if_pos h2, if_pos (by omega), Nat.testBit_mod_two_pow]; simp [h2]
    · rw [if_neg h2, if_neg (by omega), Nat.testBit_div_two_pow]
      congr 1; omega
theorem putN_lt {old low n x k : Nat} (ho : old < 2 ^ k) (h : low + n ≤ k) : putN old low n x < 2 ^ k := by
  apply Nat.lt_pow_two_of_testBit
  intro i hi
  rw [putN_bit, if_neg (by omega)]
  exact Nat.testBit_lt_two_pow (Nat.lt_of_lt_of_le ho (Nat.pow_le_pow_right (by omega) hi))
theorem mask_bit (n low i : Nat) : ((2 ^ n - 1) <<< low).testBit i = (decide (low ≤ i) && decide (i < low + n)) := by
  rw [Nat.testBit_shiftLeft, Nat.testBit_two_pow_sub_one]
  by_cases h : low ≤ i
  · simp [h]; omega
  · simp [h]
theorem shl_bit (x low i : Nat) : (x <<< low).testBit i = (decide (low ≤ i) && x.testBit (i - low)) := by
  rw [Nat.testBit_shiftLeft]
theorem bits_lt {x n i : Nat} (h : x < 2 ^ n) (hb : x.testBit i = true) : i < n := by
  rcases Nat.lt_or_ge i n with hi | hi
  · exact hi
  · rw [Nat.testBit_lt_two_pow (Nat.lt_of_lt_of_le h (Nat.pow_le_pow_right (by omega) hi))] at hb; simp at hb
theorem put_eq {n l w x : Nat} (hn : n < 2 ^ 64) (hx : x < 2 ^ w) (hlw : l + w ≤ 64) : (n &&& (2 ^ 64 - 1 - ((2 ^ w - 1) <<< l))) ||| (x <<< l) = putN n l w x := by
  have hm : (2 ^ w - 1) <<< l < 2 ^ 64 := by
    apply Nat.lt_pow_two_of_testBit
    intro i hi
    rw [mask_bit]; simp; omega
  apply Nat.eq_of_testBit_eq
  intro i
  rw [putN_bit, Nat.testBit_or, Nat.testBit_and, shl_bit, show 2 ^ 64 - 1 - ((2 ^ w - 1) <<< l) = 2 ^ 64 - ((2 ^ w - 1) <<< l + 1) by omega, Nat.testBit_two_pow_sub_succ hm, mask_bit]
  by_cases h1 : l ≤ i
  · by_cases h2 : i < l + w
    · have : i < 64 := by omega
      simp [h1, h2, this]
    · have h3 : x.testBit (i - l) = false := by
        rw [Bool.eq_false_iff]; intro hb; have := bits_lt hx hb; omega
      simp only [h1, h2, h3, decide_true, decide_false, Bool.and_false, Bool.or_false, Bool.not_false, Bool.and_true, and_false, if_false]
      cases hb : n.testBit i
      · rfl
      · have := bits_lt hn hb; simp [this]
  · simp only [h1, decide_false, Bool.false_and, Bool.or_false, Bool.not_false, Bool.and_true, false_and, if_false]
    cases hb : n.testBit i
    · rfl
    · have := bits_lt hn hb; simp [this]
theorem mod_succ (x i : Nat) : x % 2 ^ (i + 1) = x % 2 ^ i + (if x.testBit i then 2 ^ i else 0) := by
  rw [Nat.pow_succ, Nat.mod_mul, Nat.testBit_eq_decide_div_mod_eq]
  by_cases h : x / 2 ^ i % 2 = 1
  · simp [h]
  · have : x / 2 ^ i % 2 = 0 := by omega
    simp [this]
theorem fldN_succ (x low i : Nat) : fldN x low (i + 1) = fldN x low i + (if x.testBit (low + i) then 2 ^ i else 0) := by
  rw [fldN, mod_succ, fldN, Nat.testBit_div_two_pow, Nat.add_comm i low]
theorem low_of2 {m : Mach} (hr : okRegs m = true) {reg : Int} (h : inR reg 0 (m.regs.length - 1) = true) : (gt m.regs reg).low + (gt m.regs reg).width ≤ 64 := by
  have h1 : 0 ≤ reg ∧ reg ≤ (m.regs.length : Int) - 1 := by simpa [inR] using h
  simp only [okRegs, Bool.and_eq_true] at hr
  have h2 := allB_true.1 hr.1 reg.toNat (by omega)
  simp only [rgOk, Bool.and_eq_true] at h2
  rw [Int.toNat_of_nonneg h1.1] at h2
  have h3 := h2.2
  have h4 : 1 ≤ (gt m.regs reg).width ∧ (gt m.regs reg).width ≤ 64 := by simpa [inR] using h2.1.1.2
  split at h3
  · simp only [decide_eq_true_eq] at h3; omega
  · simp only [Bool.and_eq_true, decide_eq_true_eq] at h3
    have h5 : 1 ≤ (gt m.regs (gt m.regs reg).of).width ∧ (gt m.regs (gt m.regs reg).of).width ≤ 64 := by simpa [inR] using h3.2.1.1.2
    have h6 : 0 ≤ (gt m.regs reg).low ∧ (gt m.regs reg).low ≤ (gt m.regs (gt m.regs reg).of).width - (gt m.regs reg).width := by simpa [inR] using h3.2.2
    omega
theorem partE_zero {m : Mach} {reg : Int} (h : partE m reg = 0) : mcheck m = 0 ∧ inR reg 0 (m.regs.length - 1) = true := by
  unfold partE at h
  split at h
  · rename_i hc
    refine ⟨hc, ?_⟩
    split at h
    · assumption
    · omega
  · rename_i hc; exact absurd h hc
/-- The place of a register's root, its lowest bit, its width. -/
theorem part_ok {m : Mach} {reg : Int} (h : partE m reg = 0) : ∃ p l w : Nat, partI m reg = ((p : Int), (l : Int), (w : Int)) ∧ p < (tops m).length ∧ 1 ≤ w ∧ l + w ≤ 64 ∧ (gt m.regs reg).width = w ∧ (gt m.regs reg).low = l := by
  obtain ⟨hc, hi⟩ := partE_zero h
  obtain ⟨hr, -⟩ := mcheck_regs hc
  have h1 := low_of hr hi
  have h2 := low_of2 hr hi
  have h3 := place_gt (topOf_mem hr hi)
  refine ⟨place (tops m) (topOf m reg), (gt m.regs reg).low.toNat, (gt m.regs reg).width.toNat, ?_, h3.1, by omega, by omega, by omega, by omega⟩
  simp only [partI, hi, if_true]
  rw [Int.toNat_of_nonneg (by omega), Int.toNat_of_nonneg (by omega)]
theorem valE_ok {m : Mach} {rs : List Int} {reg : Int} (h : valE m rs reg = 0) : partE m reg = 0 ∧ (tops m).length = rs.length ∧ fitsR m rs = true := by
  unfold valE at h
  split at h
  · rename_i hp
    refine ⟨hp, ?_⟩
    split at h
    · rename_i hf
      refine ⟨?_, hf⟩
      simp only [fitsR, Bool.and_eq_true, decide_eq_true_eq] at hf
      exact hf.1
    · omega
  · rename_i hp; exact absurd h hp
theorem words_wf {rs : List Int} (h : (DV.pv (.lst 1 (words rs))).wf) : (∀ x ∈ rs, 0 ≤ x ∧ x ≤ 18446744073709551615) ∧ rs.length ≤ 9223372036854775807 := by
  simp [words, maxLen, IntKind.min, IntKind.max, IntKind.signed, IntKind.bits] at h
  exact ⟨fun x hx => h.2 x hx, h.1⟩
/-- A root's register is one of the machine's. -/
theorem tops_reg {m : Mach} {i : Nat} (h : i < (tops m).length) : 0 ≤ gt (tops m) (i : Nat) ∧ gt (tops m) (i : Nat) < m.regs.length := topsN_lt m _ _ (gt_mem (l := tops m) (by omega) (by omega))
end Go.Proofs.YteiampdhhigjcaaDoorV

/- Plain law: words, masks and shifts. -/
namespace Go.Proofs.YteiampdhhigjcaaDoorV
open Go

theorem okVal_eq {w x : Int} (h : 1 ≤ w ∧ w ≤ 64) : okVal w x = decide (x < 2 ^ w.toNat) := by
  have h1 : wideB w = true := by simp [wideB, inR, h]
  rw [okVal, h1, maskI, if_pos h1, Bool.true_and, decide_eq_decide]
  omega
theorem maskI_of {w : Nat} (h : 1 ≤ w ∧ w ≤ 64) : maskI (w : Int) = ((2 ^ w - 1 : Nat) : Int) := by
  have h1 : wideB (w : Int) = true := by simp [wideB, inR]; omega
  rw [maskI, if_pos h1, Int.toNat_natCast]
  have h2 := Nat.two_pow_pos w
  have h3 : ((2 : Int) ^ w) = ((2 ^ w : Nat) : Int) := by push_cast; rfl
  omega
theorem shr_nat (n l : Nat) (hl : l ≤ 64) : (n : Int).fdiv (2 ^ min l IntKind.u64.bits) = ((n / 2 ^ l : Nat) : Int) := by
  rw [show min l IntKind.u64.bits = l from Nat.min_eq_left hl, Int.fdiv_eq_ediv_of_nonneg _ (Int.pow_nonneg (by omega))]
  push_cast; rfl
theorem rd_ops {n l w : Nat} (hn : n < 2 ^ 64) (hlw : l + w ≤ 64) : bandI .u64 ((n : Int).fdiv (2 ^ min l IntKind.u64.bits)) ((2 ^ w - 1 : Nat) : Int) = (fldN n l w : Nat) := by
  have h1 : n / 2 ^ l < 2 ^ 64 := Nat.lt_of_le_of_lt (Nat.div_le_self _ _) hn
  have h2 : 2 ^ w ≤ 2 ^ 64 := Nat.pow_le_pow_right (by omega) (by omega)
  rw [shr_nat n l (by omega), and_u64 h1 (by omega), Nat.and_two_pow_sub_one_eq_mod]; rfl
theorem flat_words (l : List Int) : flat (words l) = words l := by
  induction l with
  | nil => rfl
  | cons x r ih => simp only [words, List.map_cons, flat, List.flatMap_cons] at ih ⊢; rw [ih]; rfl
theorem pvs_map : ∀ l : List PV, pvs (l.map DV.pv) = some l
  | [] => rfl
  | x :: r => by rw [List.map_cons, pvs, pvs_map r]; rfl
theorem words_set {l : List Int} {p : Nat} {v : Int} : ((words l).map DV.pv).set p (.pv (.int .u64 v)) = (words (l.set p v)).map DV.pv := by
  simp only [words, ← List.map_set]
theorem words_cells {l : List Int} : ∀ x ∈ words l, x.cells.length = 1 := by
  intro x hx; simp only [words, List.mem_map] at hx; obtain ⟨y, -, rfl⟩ := hx; rfl
theorem words_one {l : List Int} : ∀ x ∈ words l, x.one = true := by
  intro x hx; simp only [words, List.mem_map] at hx; obtain ⟨y, -, rfl⟩ := hx; rfl
theorem shl_nat {x l k : Nat} (h : x < 2 ^ k) (hk : k + l ≤ 64) : shlI .u64 (x : Int) (l : Int) = ((x <<< l : Nat) : Int) := by
  have h1 : x <<< l < 2 ^ 64 := by
    apply Nat.lt_pow_two_of_testBit
    intro i hi
    rw [shl_bit, Bool.and_eq_false_iff]
    right
    rw [Bool.eq_false_iff]; intro hb; have := bits_lt h hb; omega
  have h2 : (x : Int) * 2 ^ l = ((x <<< l : Nat) : Int) := by rw [Nat.shiftLeft_eq]; push_cast; rfl
  rw [shlI, Int.toNat_natCast, show min l IntKind.u64.bits = l from Nat.min_eq_left (by show l ≤ 64; omega), h2]
  generalize x <<< l = y at h1
  exact wrap_u64 (by omega) (by omega)
theorem wr_ops {n l w x : Nat} (hn : n < 2 ^ 64) (hx : x < 2 ^ w) (hlw : l + w ≤ 64) : borI .u64 (bandNotI .u64 (n : Int) (shlI .u64 ((2 ^ w - 1 : Nat) : Int) (l : Int))) (shlI .u64 (x : Int) (l : Int)) = (putN n l w x : Nat) := by
  have hm : (2 ^ w - 1) <<< l < 2 ^ 64 := by
    apply Nat.lt_pow_two_of_testBit
    intro i hi
    rw [mask_bit]; simp; omega
  have hs : x <<< l < 2 ^ 64 := by
    apply Nat.lt_pow_two_of_testBit
    intro i hi
    rw [shl_bit, Bool.and_eq_false_iff]
    right
    rw [Bool.eq_false_iff]; intro hb; have := bits_lt hx hb; omega
  have h2 := Nat.two_pow_pos w
  rw [shl_nat (k := w) (by omega) (by omega), shl_nat hx (by omega), andNot_u64 hn hm, or_u64 (Nat.lt_of_le_of_lt Nat.and_le_left hn) hs, put_eq hn hx hlw]
theorem words_at {l : List Int} {p : Nat} (h : p < (words l).length) : (words l)[p] = .int .u64 (gt l (p : Nat)) := by
  have h2 : p < l.length := by simpa using h
  rw [gt_nat h2]; simp [words]
@[simp] theorem ren_comp {ρ : Nat → Nat} : (fun x => DV.ren ρ x) ∘ DV.pv = DV.pv := by funext x; simp
@[simp] theorem ren_map {ρ : Nat → Nat} {l : List PV} : (l.map DV.pv).map (fun x => DV.ren ρ x) = l.map DV.pv := by simp
end Go.Proofs.YteiampdhhigjcaaDoorV

/- Plain law: ops of a valid machine. -/
namespace Go.Proofs.YteiampdhhigjcaaDoorV
open Go

def rangedB (o : Opnd) (n : Int) : Bool :=
  decide (n.tmod (2 ^ o.scale.toNat) = 0) &&
  if o.kind = 3 then inR (n.tdiv (2 ^ o.scale.toNat)) 0 (2 ^ (fieldI o).toNat - 1)
  else inR (n.tdiv (2 ^ o.scale.toNat)) (-2 ^ ((fieldI o).toNat - 1)) (2 ^ ((fieldI o).toNat - 1) - 1)
def hasI (l : List Int) (x : Int) : Bool := l.any fun y => decide (x = y)
/-- What is wrong with an argument. -/
def argE (m : Mach) (s : Ins_) (args : List Int) (i : Nat) : Int :=
  let o := gt s.operands (i : Nat); let n := gt args (i : Nat)
  if o.kind = 1 then (if hasI (gt m.banks o.bank).regs n then (if 0 ≤ o.tied ∧ gt args o.tied ≠ n then 40 else 0) else 16) else if rangedB o n then 0 else 24
def firstE (f : Nat → Int) : Nat → Int
  | 0 => 0
  | n + 1 => if firstE f n = 0 then f n else firstE f n
def suitE (m : Mach) (op : MOp) : Int :=
  if inR op.instr 0 (m.instrs.length - 1) then (if op.args.length = (gt m.instrs op.instr).operands.length then firstE (argE m (gt m.instrs op.instr) op.args) (gt m.instrs op.instr).operands.length else 2) else 6
def opE (m : Mach) (op : MOp) : Int := if mcheck m = 0 then suitE m op else mcheck m
def numI (m : Mach) (o : Opnd) (n pc : Int) : Int := (if o.kind = 4 then pc + m.word + m.word * n else n) % 2 ^ m.address.toNat
def varsN (m : Mach) (s : Ins_) (args : List Int) (pcv : Int) : Nat → List Bnd
  | 0 => []
  | i + 1 => varsN m s args pcv i ++ if (gt s.operands (i : Nat)).kind = 1 then [] else [⟨(gt s.operands (i : Nat)).name, m.address, numI m (gt s.operands (i : Nat)) (gt args (i : Nat)) pcv⟩]
def varsE (m : Mach) (op : MOp) (pcv : Int) : Int := if opE m op = 0 then (if pcv < 2 ^ m.address.toNat then 0 else 24) else opE m op
def varsL (m : Mach) (op : MOp) (pcv : Int) : List Bnd := if varsE m op pcv = 0 then varsN m (gt m.instrs op.instr) op.args pcv (gt m.instrs op.instr).operands.length ++ [⟨pc, m.address, pcv⟩] else []

theorem firstE_zero {f : Nat → Int} : ∀ {n : Nat}, (∀ j, j < n → f j = 0) → firstE f n = 0
  | 0, _ => rfl
  | n + 1, h => by rw [firstE, firstE_zero fun j hj => h j (by omega), if_pos rfl]; exact h n (by omega)
theorem firstE_at {f : Nat → Int} {i : Nat} (hz : ∀ j, j < i → f j = 0) (hi : f i ≠ 0) : ∀ {n : Nat}, i < n → firstE f n = f i
  | 0, h => by omega
  | n + 1, h => by
    rcases Nat.lt_or_eq_of_le (Nat.le_of_lt_succ h) with h | rfl
    · rw [firstE, firstE_at hz hi h, if_neg hi]
    · rw [firstE, firstE_zero hz, if_pos rfl]
theorem firstE_all {f : Nat → Int} : ∀ {n : Nat}, firstE f n = 0 → ∀ j, j < n → f j = 0
  | 0, _, j, hj => by omega
  | n + 1, h, j, hj => by
    rw [firstE] at h
    split at h
    · rename_i h1
      rcases Nat.lt_or_eq_of_le (Nat.le_of_lt_succ hj) with hj | rfl
      · exact firstE_all h1 j hj
      · exact h
    · rename_i h1; exact absurd h h1
theorem mcheck_all {m : Mach} (h : mcheck m = 0) : (1 ≤ m.word ∧ m.word ≤ 4) ∧ (m.address = 16 ∨ m.address = 32) ∧ okBanks m = true ∧ ∀ i : Nat, i < m.instrs.length → okInstr m (gt m.instrs (i : Nat)) = true := by
  unfold mcheck at h
  split at h
  · split at h
    · rename_i hb
      simp only [Bool.and_eq_true, Bool.or_eq_true, decide_eq_true_eq] at hb
      obtain ⟨⟨⟨⟨⟨⟨-, h1⟩, h2⟩, -⟩, h3⟩, -⟩, h4⟩ := hb
      refine ⟨by simpa [inR] using h1, h2, h3, fun i hi => ?_⟩
      have := allB_true.1 h4 i hi
      simp only [instrOk, Bool.and_eq_true] at this
      exact this.1.2
    · omega
  · omega
theorem okInstr_ops {m : Mach} {s : Ins_} (h : okInstr m s = true) : ∀ i, i < s.operands.length → okOperand m s i = true := by
  simp only [okInstr, Bool.and_eq_true] at h
  exact allB_true.1 h.1.1.1.1.1.1.1.1.1.2
/-- What a valid operand that names no register has. -/
theorem opnd_num {m : Mach} {s : Ins_} {i : Nat} (h : okOperand m s i = true) (hk : (gt s.operands (i : Nat)).kind ≠ 1) : (0 ≤ (gt s.operands (i : Nat)).scale ∧ (gt s.operands (i : Nat)).scale ≤ 3) ∧ 0 < fieldI (gt s.operands (i : Nat)) ∧ fieldI (gt s.operands (i : Nat)) + (gt s.operands (i : Nat)).scale ≤ m.address := by
  simp only [okOperand, Bool.and_eq_true] at h
  have h1 := h.2
  rw [if_neg hk] at h1
  split at h1
  · simp only [Bool.and_eq_true, decide_eq_true_eq] at h1
    exact ⟨by simpa [inR] using h1.1.1.2, h1.1.2, h1.2⟩
  · simp at h1
/-- What a valid operand that names a register has. -/
theorem opnd_reg {m : Mach} {s : Ins_} {i : Nat} (h : okOperand m s i = true) (hk : (gt s.operands (i : Nat)).kind = 1) : (0 ≤ (gt s.operands (i : Nat)).bank ∧ (gt s.operands (i : Nat)).bank ≤ (m.banks.length : Int) - 1) ∧ (gt s.operands (i : Nat)).tied < i := by
  simp only [okOperand, Bool.and_eq_true] at h
  have h1 := h.2
  rw [if_pos hk] at h1
  simp only [Bool.and_eq_true] at h1
  refine ⟨by simpa [inR] using h1.1.1, ?_⟩
  have h2 := h1.2
  split at h2
  · omega
  · simp only [Bool.and_eq_true] at h2
    have h3 : 0 ≤ (gt s.operands (i : Nat)).tied ∧ (gt s.operands (i : Nat)).tied ≤ (i : Int) - 1 := by simpa [inR] using h2.1.1
    omega
theorem suit_ok {m : Mach} {op : MOp} (h : suitE m op = 0) : inR op.instr 0 (m.instrs.length - 1) = true ∧ op.args.length = (gt m.instrs op.instr).operands.length ∧ ∀ j, j < (gt m.instrs op.instr).operands.length → argE m (gt m.instrs op.instr) op.args j = 0 := by
  unfold suitE at h
  split at h
  · rename_i h1
    split at h
    · rename_i h2
      exact ⟨h1, h2, firstE_all h⟩
    · omega
  · omega
theorem opE_ok {m : Mach} {op : MOp} (h : opE m op = 0) : mcheck m = 0 ∧ suitE m op = 0 := by
  rw [opE] at h
  split at h
  · rename_i h2; exact ⟨h2, h⟩
  · rename_i h2; exact absurd h h2
theorem fstI_has {l : List Int} {x : Int} : hasI l x = l.any fun y => decide (x = y) := rfl
end Go.Proofs.YteiampdhhigjcaaDoorV

/- Contracts: layer 8 of the program: Check, as the reference says it. -/
namespace Go.Proofs.YteiampdhhigjcaaDoorV
open Go

/-- Check's answer. -/
theorem mach_masks {m : Mach} (h : m.pv.wf) : ∀ s ∈ m.instrs, (0 ≤ s.mask ∧ s.mask ≤ 18446744073709551615) ∧ 0 ≤ s.mtch ∧ s.mtch ≤ 18446744073709551615 := by
  rw [Mach.wf_pv] at h; simp [-Mach.fold, maxLen] at h
  obtain ⟨-, -, -, -, -, -, -, h6⟩ := h
  intro s hs
  have := h6 s hs; rw [Ins_.wf_pv] at this; simp [-Ins_.fold, maxLen, IntKind.min, IntKind.max, IntKind.signed, IntKind.bits] at this
  exact ⟨this.2.1, this.2.2.1⟩
theorem p_mCheck {m : Mach} (hwf : m.pv.wf) (ht : mTerms m) : PCall Tryd.prog glob 16 [.pv m.pv] (.pv (.int .i64 (mcheck m))) := by
  have := p_machine_Check m ht
  rwa [mcheck_eq (mach_masks hwf)] at this
end Go.Proofs.YteiampdhhigjcaaDoorV

/- Contracts: layer 8 of the program: ops. -/
namespace Go.Proofs.YteiampdhhigjcaaDoorV
open Go
set_option maxRecDepth 100000
set_option maxHeartbeats 4000000

theorem shl1 {n : Nat} (h : n < 63) : shlI .i64 1 (n : Int) = 2 ^ n := shl_one n h
theorem shlm : ∀ n : Nat, n < 63 → shlI .i64 (-1) (n : Int) = -2 ^ n := by decide
theorem pow_le (n : Nat) (h : n ≤ 32) : (2 : Int) ^ n ≤ 4294967296 ∧ (1 : Int) ≤ 2 ^ n := by
  have h1 : 2 ^ n ≤ 2 ^ 32 := Nat.pow_le_pow_right (by omega) h
  have h2 := Nat.two_pow_pos n
  have h3 : ((2 : Int) ^ n) = ((2 ^ n : Nat) : Int) := by push_cast; rfl
  omega
theorem tdiv_bd (n : Int) {d : Int} (hd : 1 ≤ d) : (0 ≤ n → 0 ≤ n.tdiv d ∧ n.tdiv d ≤ n) ∧ (n ≤ 0 → n ≤ n.tdiv d ∧ n.tdiv d ≤ 0) := by
  have key : ∀ x : Int, 0 ≤ x → 0 ≤ x.tdiv d ∧ x.tdiv d ≤ x := fun x hx => by
    rw [Int.tdiv_eq_ediv_of_nonneg hx]
    exact ⟨Int.ediv_nonneg hx (by omega), Int.ediv_le_self _ hx⟩
  refine ⟨key n, fun hn => ?_⟩
  have := key (-n) (by omega)
  rw [Int.neg_tdiv] at this
  omega
theorem p_machine_ranged (gl : Glob) (o : Opnd) (n : Int) (hs : 0 ≤ o.scale ∧ o.scale ≤ 3) (hf : 0 < fieldI o ∧ fieldI o ≤ 32) : PCall Tryd.prog gl 18 [.pv o.pv, .pv (.int .i64 n)] (.pv (.bool (rangedB o n))) := by
  refine k_machine_ranged.pcall (by simp) (by simp) (by simp) fun hwf => ?_
  have hn := hwf (.pv (.int .i64 n)) (by simp)
  simp [IntKind.min, IntKind.max, IntKind.signed, IntKind.bits] at hn
  obtain ⟨k, hk⟩ := Int.eq_ofNat_of_zero_le hs.1
  obtain ⟨w, hw⟩ : ∃ w : Nat, fieldI o = ((w + 1 : Nat) : Int) := ⟨(fieldI o).toNat - 1, by omega⟩
  have h1 : shlI .i64 1 o.scale = 2 ^ k := by rw [hk]; exact shl1 (by omega)
  have h2 := pow_le k (by omega)
  have hr : rangedB o n = (decide (n.tmod (2 ^ k) = 0) && if o.kind = 3 then inR (n.tdiv (2 ^ k)) 0 (2 ^ (w + 1) - 1) else inR (n.tdiv (2 ^ k)) (-2 ^ w) (2 ^ w - 1)) := by
    rw [rangedB, hk, hw]; simp
  rw [hr]
  have hq := tdiv_bd n (d := 2 ^ k) h2.2
  have hqw : IntKind.i64.wrap (n.tdiv (2 ^ k)) = n.tdiv (2 ^ k) := by
    by_cases h0 : 0 ≤ n
    · have := hq.1 h0; exact wrap_i64 (by omega) (by omega)
    · have := hq.2 (by omega); exact wrap_i64 (by omega) (by omega)
  simp [c_machine_ranged, h1]
  refine ⟨hs.1, by omega, fun h h' => absurd h' h, fun h => ⟨by omega, ?_⟩⟩
  rw [hqw]
  refine CallNext.pure (p_machine_field gl o) fun _ => ?_
  rw [hw]
  have p1 := pow_le (w + 1) (by omega)
  have p2 := pow_le w (by omega)
  simp
  refine ⟨fun h3 => ⟨by omega, ?_⟩, fun h3 => ?_⟩
  · have e1 : shlI .i64 1 ((w : Int) + 1) = 2 ^ (w + 1) := by have := shl1 (n := w + 1) (by omega); push_cast at this; exact this
    rw [e1, wrap_i64 (by omega) (by omega)]
    refine CallNext.pure (p_machine_within gl _ _ _) fun _ => ?_
    simp [h, h3]
  · rw [show IntKind.i64.wrap (w : Int) = w from wrap_i64 (by omega) (by omega), shl1 (by omega), shlm w (by omega), wrap_i64 (n := 2 ^ w - 1) (by omega) (by omega)]
    refine ⟨by omega, ?_⟩
    refine DCallNext.pure (p_machine_within gl _ _ _) ?_
    simp [h, h3]
theorem p_machine_CheckOp (m : Mach) (op : MOp) (ht : mTerms m) : PCall Tryd.prog glob 8 [.pv m.pv, .pv op.pv] (.pv (.int .i64 (opE m op))) := by
  refine k_machine_CheckOp.pcall (by simp) (by simp) (by simp) fun hwf => ?_
  have hm : m.pv.wf := by have := hwf (.pv m.pv) (by simp); simpa only [DV.wf] using this
  simp [c_machine_CheckOp]
  refine CallNext.pure (p_mCheck hm ht) fun _ => ?_
  simp
  refine ⟨fun h => by simp [opE, h], fun h => ?_⟩
  have hlim := inLimits_iff (mcheck_regs h).2
  obtain ⟨hwd, had, hbk, hins⟩ := mcheck_all h
  refine CallNext.pure (p_machine_within glob _ _ _) fun _ => ?_
  simp
  rw [wrap_i64 (by omega) (by omega)]
  refine ⟨fun hi => by simp [opE, h, suitE, hi], fun hi => ?_⟩
  have hi' : 0 ≤ op.instr ∧ op.instr ≤ (m.instrs.length : Int) - 1 := by simpa [inR] using hi
  have hne : m.instrs ≠ [] := by intro h; simp [h] at hi'; omega
  simp [hne, Mach.bx, show 0 ≤ op.instr by omega, show op.instr < (m.instrs.length : Int) by omega]
  generalize hsd : gt m.instrs op.instr = s at *
  have hsu : suitE m op = if op.args.length = s.operands.length then firstE (argE m s op.args) s.operands.length else 2 := by rw [suitE, if_pos hi, hsd]
  have hsm : s ∈ m.instrs := by rw [← hsd]; exact gt_mem hi'.1 (by omega)
  have hos : ∀ i, i < s.operands.length → okOperand m s i = true := by
    have := hins op.instr.toNat (by omega)
    rw [Int.toNat_of_nonneg hi'.1, hsd] at this
    exact okInstr_ops this
  refine ⟨fun hn => ?_, fun hn => ?_⟩
  · rw [opE, if_pos h, hsu, if_neg (by omega)]
  have hal : op.args.length = s.operands.length := by omega
  have hop : opE m op = firstE (argE m s op.args) s.operands.length := by rw [opE, if_pos h, hsu, if_pos hal]
  have hsl := (hlim.2.2.2.2.2 s hsm).1
  refine Loop.nat (fun i => { e := [(2, .ptr 0 0), (3, .ptr 1 0), (37, .pv (.lst 6 (s.operands.map Opnd.pv))), (38, .pv (.int .i64 s.operands.length)), (39, .pv (.int .i64 i))], h := [(0, m.bx), (1, op.bx), (2, s.bx)], nx := 3 }) s.operands.length (fun i => ∀ j, j < i → argE m s op.args j = 0) (by simp [Mach.bx, MOp.bx, Ins_.bx]) (by intro j hj; exact absurd hj (by omega)) (by simp [Mach.bx, MOp.bx, Ins_.bx]) fun i hi2 hinv => ?_
  by_cases hlt : i < s.operands.length
  · have hai : i < op.args.length := by omega
    have hok := hos i hlt
    have hnum := opnd_num hok
    have hreg := opnd_reg hok
    have hout : argE m s op.args i ≠ 0 → opE m op = argE m s op.args i := fun hne => by rw [hop, firstE_at hinv hne hlt]
    have hgo : argE m s op.args i = 0 → ∀ j, j < i + 1 → argE m s op.args j = 0 := fun h0 j hj => by
      rcases Nat.lt_or_eq_of_le (Nat.le_of_lt_succ hj) with hj | rfl
      · exact hinv j hj
      · exact h0
    simp [hlt, hai, Mach.bx, MOp.bx, Ins_.bx]
    generalize hoo : gt s.operands (i : Nat) = o at *
    refine ⟨fun hk => ?_, fun hk => ?_⟩
    · have hae : argE m s op.args i = if rangedB o (gt op.args (i : Nat)) = true then 0 else 24 := by simp only [argE, hoo, hk, if_false]
      have hq := hnum hk
      refine CallNext.pure (p_machine_ranged glob o _ hq.1 (by omega)) fun _ => ?_
      simp [hlt, wrap_nat (show (0:Int) ≤ i + 1 by omega) (by omega)]
      refine ⟨fun hr => ?_, fun hr => ?_⟩
      · rw [if_neg (by simp [hr])] at hae
        rw [hout (by omega), hae]
      · rw [if_pos hr] at hae
        exact hgo hae
    · obtain ⟨hb, htd⟩ := hreg hk
      have hbne : m.banks ≠ [] := by intro hh; simp [hh] at hb; omega
      have hae : argE m s op.args i = if hasI (gt m.banks o.bank).regs (gt op.args (i : Nat)) = true then (if 0 ≤ o.tied ∧ gt op.args o.tied ≠ gt op.args (i : Nat) then 40 else 0) else 16 := by simp only [argE, hoo, hk, if_true]
      simp [hbne, show 0 ≤ o.bank by omega, show o.bank < (m.banks.length : Int) by omega]
      refine CallNext.pure (p_slices_Contains_int_int glob _ _) fun _ => ?_
      rw [← fstI_has]
      have hane : op.args ≠ [] := by intro hh; simp [hh] at hai
      simp [hane, hlt, wrap_nat (show (0:Int) ≤ i + 1 by omega) (by omega)]
      refine ⟨fun hh => ?_, fun hh => ⟨fun _ => by omega, fun h1 h2 => ?_, fun h1 => hgo ?_⟩⟩
      · rw [if_neg (by simp [hh])] at hae
        rw [hout (by omega), hae]
      · rw [if_pos hh, if_pos ⟨h1, h2⟩] at hae
        rw [hout (by omega), hae]
      · rw [hae, if_pos hh, if_neg (fun hx => hx.2 (h1 hx.1))]
  · obtain rfl : i = s.operands.length := by omega
    simp
    rw [hop, firstE_zero hinv]
theorem wrapU (x : Int) : IntKind.u64.wrap x = x % 18446744073709551616 := by
  simp [IntKind.wrap, IntKind.signed, IntKind.bits]
theorem band_mod (y : Int) {A : Nat} (hA : A ≤ 64) (h0 : 0 ≤ y) (h1 : y < 18446744073709551616) : bandI .u64 y ((2 ^ A - 1 : Nat) : Int) = y % 2 ^ A := by
  obtain ⟨n, rfl⟩ := Int.eq_ofNat_of_zero_le h0
  have h2 : 2 ^ A ≤ 2 ^ 64 := Nat.pow_le_pow_right (by omega) hA
  have h3 := Nat.two_pow_pos A
  rw [and_u64 (by omega) (by omega), Nat.and_two_pow_sub_one_eq_mod]; push_cast; rfl
theorem num_val {A : Nat} (hA : A = 16 ∨ A = 32) (x : Int) : bandI .u64 (IntKind.u64.wrap x) ((2 ^ A - 1 : Nat) : Int) = x % 2 ^ A := by
  rw [wrapU, band_mod _ (by omega) (by omega) (by omega)]
  rcases hA with rfl | rfl <;> omega
theorem jump_val {A : Nat} (hA : A = 16 ∨ A = 32) {w : Int} (hw : 1 ≤ w ∧ w ≤ 4) (p n : Int) : bandI .u64 (IntKind.u64.wrap (p + IntKind.u64.wrap (IntKind.u64.wrap w * IntKind.u64.wrap (IntKind.u64.wrap n + 1)))) ((2 ^ A - 1 : Nat) : Int) = (p + w + w * n) % 2 ^ A := by
  rw [num_val hA]
  have h : w = 1 ∨ w = 2 ∨ w = 3 ∨ w = 4 := by omega
  simp only [wrapU]
  rcases h with rfl | rfl | rfl | rfl <;> rcases hA with rfl | rfl <;> omega
theorem p_machine_Vars (m : Mach) (op : MOp) (pcv : Int) (ht : mTerms m) : PCall Tryd.prog glob 5 [.pv m.pv, .pv op.pv, .pv (.int .u64 pcv)] (.tup [.pv (.lst 3 ((varsL m op pcv).map Bnd.pv)), .pv (.int .i64 (varsE m op pcv))]) := by
  refine k_machine_Vars.pcall (by simp) (by simp) (by simp) fun hwf => ?_
  have hm : m.pv.wf := by have := hwf (.pv m.pv) (by simp); simpa only [DV.wf] using this
  have hp0 := hwf (.pv (.int .u64 pcv)) (by simp)
  simp [IntKind.min, IntKind.max, IntKind.signed, IntKind.bits] at hp0
  simp [c_machine_Vars]
  refine CallNext.pure (p_machine_CheckOp m op ht) fun _ => ?_
  simp
  refine ⟨fun h => by simp [varsL, varsE, h], fun h => ?_⟩
  obtain ⟨hc, hsuit⟩ := opE_ok h
  obtain ⟨hi, hal, harg⟩ := suit_ok hsuit
  have hlim := inLimits_iff (mcheck_regs hc).2
  obtain ⟨hwd, had, hbk, hins⟩ := mcheck_all hc
  obtain ⟨A, hA⟩ : ∃ A : Nat, m.address = A := ⟨m.address.toNat, by omega⟩
  refine CallNext.pure (p_bits_Mask glob _) fun _ => ?_
  rw [hA, maskI_of ⟨by omega, by omega⟩]
  have hpow : ((2 : Int) ^ A) = ((2 ^ A : Nat) : Int) := by push_cast; rfl
  have hp1 := Nat.two_pow_pos A
  have hVE : varsE m op pcv = if pcv < ((2 ^ A : Nat) : Int) then 0 else 24 := by rw [varsE, if_pos h, hA, Int.toNat_natCast, hpow]
  have hi' : 0 ≤ op.instr ∧ op.instr ≤ (m.instrs.length : Int) - 1 := by simpa [inR] using hi
  have hne : m.instrs ≠ [] := by intro h; simp [h] at hi'; omega
  simp [hne, show 0 ≤ op.instr by omega, show op.instr < (m.instrs.length : Int) by omega]
  refine ⟨fun hg => ?_, fun hg => ?_⟩
  · rw [if_neg (by omega)] at hVE
    rw [varsL, hVE]; simp
  rw [if_pos (by omega)] at hVE
  have hVL : varsL m op pcv = varsN m (gt m.instrs op.instr) op.args pcv (gt m.instrs op.instr).operands.length ++ [⟨pc, m.address, pcv⟩] := if_pos hVE
  have hsm : gt m.instrs op.instr ∈ m.instrs := gt_mem hi'.1 (by omega)
  rw [hVE, hVL]
  generalize hsd : gt m.instrs op.instr = s at *
  have hsl := (hlim.2.2.2.2.2 s hsm).1
  have hvn : ∀ i, (varsN m s op.args pcv i).length ≤ i := by
    intro i
    induction i with
    | zero => simp [varsN]
    | succ i ih => rw [varsN, List.length_append]; split <;> simp <;> omega
  refine Loop.nat (fun i => { e := [(2, .pv (.int .u64 pcv)), (3, .ptr 0 0), (4, .ptr 1 0), (9, .pv (.int .u64 ((2 ^ A - 1 : Nat) : Int))), (10, .own 2 3 ((varsN m s op.args pcv i).map Bnd.pv)), (32, .pv (.lst 6 (s.operands.map Opnd.pv))), (33, .pv (.int .i64 s.operands.length)), (34, .pv (.int .i64 i))], h := [(0, m.bx), (1, op.bx), (2, .tip 3 (varsN m s op.args pcv i).length)], nx := 3 }) s.operands.length (fun _ => True) (by simp [Mach.bx, MOp.bx]) (by simp) (by simp [Mach.bx, MOp.bx, varsN, hA]) fun i hi2 hinv => ?_
  have hvl := hvn i
  by_cases hlt : i < s.operands.length
  · have hai : i < op.args.length := by omega
    simp [hlt, hai, Mach.bx, MOp.bx]
    have hAA : A = 16 ∨ A = 32 := by omega
    generalize hoo : gt s.operands (i : Nat) = o at *
    refine ⟨fun hk => ?_, fun hk => ?_⟩
    · have e : varsN m s op.args pcv (i + 1) = varsN m s op.args pcv i := by rw [varsN, hoo, if_pos hk]; simp
      rw [e]; exact ⟨⟨rfl, wrap_nat (by omega) (by omega)⟩, rfl⟩
    · have e : varsN m s op.args pcv (i + 1) = varsN m s op.args pcv i ++ [⟨o.name, m.address, numI m o (gt op.args (i : Nat)) pcv⟩] := by rw [varsN, hoo, if_neg hk]
      rw [e]
      refine ⟨fun h4 => ?_, fun h4 => ?_⟩
      · rw [jump_val hAA hwd, numI, if_pos h4, hA, Int.toNat_natCast]
        refine ⟨by omega, ⟨by simp [Bnd.pv], wrap_nat (by omega) (by omega)⟩, by simp⟩
      · rw [num_val hAA, numI, if_neg h4, hA, Int.toNat_natCast]
        refine ⟨by omega, ⟨by simp [Bnd.pv], wrap_nat (by omega) (by omega)⟩, by simp⟩
  · obtain rfl : i = s.operands.length := by omega
    simp [Mach.bx, MOp.bx, Bnd.pv]
    exact ⟨by omega, rfl⟩
end Go.Proofs.YteiampdhhigjcaaDoorV

/- Contracts: the reference of layer 8: ops. -/
namespace Go.Proofs.YteiampdhhigjcaaDoorV
open Go
set_option maxRecDepth 100000
set_option maxHeartbeats 4000000

/-- The place of a number in a list, or -1. -/
theorem has_place {l : List Int} {x : Int} : decide (fstI (fun y => decide (y = x)) l < 0) = !hasI l x := by
  have h := fstI_nonneg (p := fun y => decide (y = x)) (l := l)
  have e : hasI l x = l.any fun y => decide (y = x) := by
    unfold hasI; congr 1; funext y; rw [decide_eq_decide]; exact eq_comm
  rw [e, ← h, ← decide_not, decide_eq_decide]; omega
theorem p_r8_Place (gl : Glob) (b : Bank) (x : Int) : PCall Tryd.prog gl 46 [.pv b.pv, .pv (.int .i64 x)] (.pv (.int .i64 (fstI (fun y => decide (y = x)) b.regs))) := by
  refine k_retargetref08_Place.pcall (by simp) (by simp) (by simp) fun hwf => ?_
  have hb : b.regs.length ≤ 9223372036854775807 := by have := hwf (.pv b.pv) (by simp); simp only [DV.wf] at this; rw [Bank.wf_pv] at this; simp [-Bank.fold, maxLen, ints] at this; exact this.2.1
  simp [c_retargetref08_Place]
  refine Loop.nat (fun i => { e := [(1, .pv (.int .i64 x)), (2, .ptr 0 0), (5, .pv (.int .i64 i))], h := [(0, b.bx)], nx := 1 }) b.regs.length (fun i => ∀ j : Nat, j < i → decide (gt b.regs (j : Nat) = x) = false) (by simp [Bank.bx]) (by simp) (by simp [Bank.bx]) fun i hi hinv => ?_
  by_cases hlt : i < b.regs.length
  · simp [hlt, Bank.bx, wrap_nat (show (0:Int) ≤ i + 1 by omega) (by omega)]
    refine ⟨fun he => (fstI_some (p := fun y => decide (y = x)) hlt (by simp [he]) hinv).symm, fun hn j hj => ?_⟩
    rcases Nat.lt_or_eq_of_le (Nat.le_of_lt_succ hj) with hj | rfl
    · simpa using hinv j hj
    · exact hn
  · obtain rfl : i = b.regs.length := by omega
    simp [Bank.bx]
    exact (fstI_none (p := fun y => decide (y = x)) hinv).symm
theorem p_r8_Ranged (gl : Glob) (o : Opnd) (n : Int) (hs : 0 ≤ o.scale ∧ o.scale ≤ 3) (hf : 0 < fieldI o ∧ fieldI o ≤ 32) : PCall Tryd.prog gl 45 [.pv o.pv, .pv (.int .i64 n)] (.pv (.bool (rangedB o n))) := by
  refine k_retargetref08_Ranged.pcall (by simp) (by simp) (by simp) fun hwf => ?_
  have hn := hwf (.pv (.int .i64 n)) (by simp)
  simp [IntKind.min, IntKind.max, IntKind.signed, IntKind.bits] at hn
  obtain ⟨k, hk⟩ := Int.eq_ofNat_of_zero_le hs.1
  obtain ⟨w, hw⟩ : ∃ w : Nat, fieldI o = ((w + 1 : Nat) : Int) := ⟨(fieldI o).toNat - 1, by omega⟩
  have h2 := pow_le k (by omega)
  have hr : rangedB o n = (decide (n.tmod (2 ^ k) = 0) && if o.kind = 3 then inR (n.tdiv (2 ^ k)) 0 (2 ^ (w + 1) - 1) else inR (n.tdiv (2 ^ k)) (-2 ^ w) (2 ^ w - 1)) := by
    rw [rangedB, hk, hw]; simp
  rw [hr]
  have hq := tdiv_bd n (d := 2 ^ k) h2.2
  have hqw : IntKind.i64.wrap (n.tdiv (2 ^ k)) = n.tdiv (2 ^ k) := by
    by_cases h0 : 0 ≤ n
    · have := hq.1 h0; exact wrap_i64 (by omega) (by omega)
    · have := hq.2 (by omega); exact wrap_i64 (by omega) (by omega)
  have hpk := p_r8_Power gl k (by omega)
  have p1 := pow_le (w + 1) (by omega)
  have p2 := pow_le w (by omega)
  simp [c_retargetref08_Ranged]
  refine CallNext.pure (by rw [hk]; exact hpk) fun _ => ?_
  simp
  refine ⟨by omega, fun h h' => absurd h' h, fun h => ?_⟩
  refine CallNext.pure (p_r8_Field gl o) fun _ => ?_
  rw [hw]
  simp
  refine ⟨fun h3 => ⟨by omega, ?_⟩, fun h3 => ⟨by omega, ?_⟩⟩
  · refine DCallNext.pure (by have := p_r8_Power gl (w + 1) (by omega); push_cast at this; exact this) ?_
    rw [hqw]
    simp
    rw [wrap_i64 (by omega) (by omega)]
    refine DCallNext.pure (p_r8_In gl _ _ _) ?_
    simp [h, h3]
  · rw [hqw, show IntKind.i64.wrap (w : Int) = w from wrap_i64 (by omega) (by omega)]
    refine DCallNext.pure (p_r8_Power gl w (by omega)) ?_
    simp
    rw [show IntKind.i64.wrap (w : Int) = w from wrap_i64 (by omega) (by omega)]
    refine DCallNext.pure (p_r8_Power gl w (by omega)) ?_
    simp
    rw [wrap_i64 (n := -2 ^ w) (by omega) (by omega), wrap_i64 (n := 2 ^ w - 1) (by omega) (by omega)]
    refine DCallNext.pure (p_r8_In gl _ _ _) ?_
    simp [h, h3]
theorem tmod_fix {A : Nat} (hA : A = 16 ∨ A = 32) (n : Int) : (n.tmod (2 ^ A) + 2 ^ A).tmod (2 ^ A) = n % 2 ^ A := by
  have h0 : ∀ p : Int, 0 < p → 0 ≤ n.tmod p + p := fun p hp => by
    have := Int.lt_tmod_of_pos n hp; omega
  have hs : n.tmod (2 ^ A) = if 0 ≤ n then n % 2 ^ A else -((-n) % 2 ^ A) := by
    split
    · exact Int.tmod_eq_emod_of_nonneg (by assumption)
    · have := Int.neg_tmod (-n) (2 ^ A)
      rw [Int.neg_neg] at this
      rw [this, Int.tmod_eq_emod_of_nonneg (by omega)]
  rcases hA with rfl | rfl
  · rw [Int.tmod_eq_emod_of_nonneg (h0 _ (by decide)), hs]; split <;> omega
  · rw [Int.tmod_eq_emod_of_nonneg (h0 _ (by decide)), hs]; split <;> omega
theorem p_r8_Modulo (gl : Glob) (n : Int) (A : Nat) (hA : A = 16 ∨ A = 32) : PCall Tryd.prog gl 15 [.pv (.int .i64 n), .pv (.int .i64 A)] (.pv (.int .u64 (n % 2 ^ A))) := by
  refine k_retargetref08_Modulo.pcall (by simp) (by simp) (by simp) fun hwf => ?_
  simp [c_retargetref08_Modulo]
  refine CallNext.pure (p_r8_Power gl A (by omega)) fun _ => ?_
  simp
  have hp := pow_le A (by omega)
  have h1 := Int.tmod_lt_of_pos n (show (0 : Int) < 2 ^ A by omega)
  have h2 := Int.lt_tmod_of_pos n (show (0 : Int) < 2 ^ A by omega)
  have h3 := Int.emod_nonneg n (show (2 : Int) ^ A ≠ 0 by omega)
  have h4 := Int.emod_lt_of_pos n (show (0 : Int) < 2 ^ A by omega)
  refine ⟨by omega, ?_⟩
  rw [wrap_i64 (by omega) (by omega), tmod_fix hA, wrap_u64 (by omega) (by omega)]
theorem p_r8_Suits (gl : Glob) (m : Mach) (op : MOp) (h : mcheck m = 0) : PCall Tryd.prog gl 21 [.pv m.pv, .pv op.pv] (.pv (.int .i64 (suitE m op))) := by
  refine k_retargetref08_Suits.pcall (by simp) (by simp) (by simp) fun hwf => ?_
  have hlim := inLimits_iff (mcheck_regs h).2
  obtain ⟨hwd, had, hbk, hins⟩ := mcheck_all h
  simp [c_retargetref08_Suits]
  refine CallNext.pure (p_r8_In gl _ _ _) fun _ => ?_
  simp
  rw [wrap_i64 (by omega) (by omega)]
  refine ⟨fun hi => by simp [suitE, hi], fun hi => ?_⟩
  have hi' : 0 ≤ op.instr ∧ op.instr ≤ (m.instrs.length : Int) - 1 := by simpa [inR] using hi
  have hne : m.instrs ≠ [] := by intro h; simp [h] at hi'; omega
  simp [hne, Mach.bx, show 0 ≤ op.instr by omega, show op.instr < (m.instrs.length : Int) by omega]
  generalize hsd : gt m.instrs op.instr = s at *
  have hsu : suitE m op = if op.args.length = s.operands.length then firstE (argE m s op.args) s.operands.length else 2 := by rw [suitE, if_pos hi, hsd]
  have hsm : s ∈ m.instrs := by rw [← hsd]; exact gt_mem hi'.1 (by omega)
  have hos : ∀ i, i < s.operands.length → okOperand m s i = true := by
    have := hins op.instr.toNat (by omega)
    rw [Int.toNat_of_nonneg hi'.1, hsd] at this
    exact okInstr_ops this
  refine ⟨fun hn => ?_, fun hn => ?_⟩
  · rw [hsu, if_neg (by omega)]
  have hal : op.args.length = s.operands.length := by omega
  have hop : suitE m op = firstE (argE m s op.args) s.operands.length := by rw [hsu, if_pos hal]
  have hsl := (hlim.2.2.2.2.2 s hsm).1
  refine Loop.nat (fun i => { e := [(2, .ptr 0 0), (3, .ptr 1 0), (5, .ptr 2 0), (6, .pv (.int .i64 i))], h := [(0, m.bx), (1, op.bx), (2, s.bx)], nx := 3 }) s.operands.length (fun i => ∀ j, j < i → argE m s op.args j = 0) (by simp [Mach.bx, MOp.bx, Ins_.bx]) (by intro j hj; exact absurd hj (by omega)) (by simp [Mach.bx, MOp.bx, Ins_.bx]) fun i hi2 hinv => ?_
  by_cases hlt : i < s.operands.length
  · have hai : i < op.args.length := by omega
    have hane : op.args ≠ [] := by intro hh; simp [hh] at hai
    have hok := hos i hlt
    have hnum := opnd_num hok
    have hreg := opnd_reg hok
    have hout : argE m s op.args i ≠ 0 → suitE m op = argE m s op.args i := fun hne => by rw [hop, firstE_at hinv hne hlt]
    have hgo : argE m s op.args i = 0 → ∀ j, j < i + 1 → argE m s op.args j = 0 := fun h0 j hj => by
      rcases Nat.lt_or_eq_of_le (Nat.le_of_lt_succ hj) with hj | rfl
      · exact hinv j hj
      · exact h0
    simp [hlt, hai, Mach.bx, MOp.bx, Ins_.bx]
    generalize hoo : gt s.operands (i : Nat) = o at *
    refine ⟨fun hk => ?_, fun hk => ?_⟩
    · have hae : argE m s op.args i = if rangedB o (gt op.args (i : Nat)) = true then 0 else 24 := by simp only [argE, hoo, hk, if_false]
      have hq := hnum hk
      refine DCallNext.pure (p_r8_Ranged gl o _ hq.1 (by omega)) ?_
      simp [hlt, wrap_nat (show (0:Int) ≤ i + 1 by omega) (by omega)]
      refine ⟨fun hr => ?_, fun hr => ?_⟩
      · rw [if_neg (by simp [hr])] at hae
        rw [hout (by omega), hae]
      · rw [if_pos hr] at hae
        exact hgo hae
    · obtain ⟨hb, htd⟩ := hreg hk
      have hbne : m.banks ≠ [] := by intro hh; simp [hh] at hb; omega
      have hae : argE m s op.args i = if hasI (gt m.banks o.bank).regs (gt op.args (i : Nat)) = true then (if 0 ≤ o.tied ∧ gt op.args o.tied ≠ gt op.args (i : Nat) then 40 else 0) else 16 := by simp only [argE, hoo, hk, if_true]
      simp [hbne, hane, hai, show 0 ≤ o.bank by omega, show o.bank < (m.banks.length : Int) by omega]
      refine DCallNext.pure (p_r8_Place gl _ _) ?_
      have hpl := has_place (l := (gt m.banks o.bank).regs) (x := gt op.args (i : Nat))
      simp [hane, hlt, hai, wrap_nat (show (0:Int) ≤ i + 1 by omega) (by omega)]
      refine ⟨fun hh => ?_, fun hh => ⟨fun _ => by omega, fun h1 h2 => ?_, fun h1 => hgo ?_⟩⟩
      · have hx : hasI (gt m.banks o.bank).regs (gt op.args (i : Nat)) = false := by
          rw [decide_eq_true hh] at hpl; simpa using hpl.symm
        rw [if_neg (by simp [hx])] at hae
        rw [hout (by omega), hae]
      · have hx : hasI (gt m.banks o.bank).regs (gt op.args (i : Nat)) = true := by
          rw [decide_eq_false (by omega)] at hpl; simpa using hpl.symm
        rw [if_pos hx, if_pos ⟨h1, h2⟩] at hae
        rw [hout (by omega), hae]
      · have hx : hasI (gt m.banks o.bank).regs (gt op.args (i : Nat)) = true := by
          rw [decide_eq_false (by omega)] at hpl; simpa using hpl.symm
        rw [hae, if_pos hx, if_neg (fun hy => hy.2 (h1 hy.1))]
  · obtain rfl : i = s.operands.length := by omega
    simp [Ins_.bx]
    rw [hop, firstE_zero hinv]
theorem p_r8_CheckOp (gl : Glob) (m : Mach) (op : MOp) (ht : mTerms m) : PCall Tryd.prog gl 9 [.pv m.pv, .pv op.pv] (.pv (.int .i64 (opE m op))) := by
  refine k_retargetref08_CheckOp.pcall (by simp) (by simp) (by simp) fun hwf => ?_
  simp [c_retargetref08_CheckOp]
  refine CallNext.pure (p_r8_Check gl m ht) fun _ => ?_
  simp
  refine ⟨fun h => by simp [opE, h], fun h => ?_⟩
  refine CallNext.pure (p_r8_Suits gl m op h) fun _ => ?_
  simp [opE, h]
theorem ranged_bd {o : Opnd} {n : Int} (h : rangedB o n = true) (hs : 0 ≤ o.scale ∧ o.scale ≤ 3) (hf : 0 < fieldI o ∧ fieldI o ≤ 32) : -68719476736 ≤ n ∧ n ≤ 68719476736 := by
  obtain ⟨k, hk⟩ := Int.eq_ofNat_of_zero_le hs.1
  simp only [rangedB, Bool.and_eq_true, decide_eq_true_eq, hk, Int.toNat_natCast] at h
  have h1 := Int.tmod_add_mul_tdiv n (2 ^ k)
  rw [h.1, Int.zero_add] at h1
  have p1 := pow_le (fieldI o).toNat (by omega)
  have p2 := pow_le ((fieldI o).toNat - 1) (by omega)
  have hq : -4294967296 ≤ n.tdiv (2 ^ k) ∧ n.tdiv (2 ^ k) ≤ 4294967296 := by
    have h2 := h.2
    split at h2
    · have : 0 ≤ n.tdiv (2 ^ k) ∧ n.tdiv (2 ^ k) ≤ 2 ^ (fieldI o).toNat - 1 := by simpa [inR] using h2
      omega
    · have : -2 ^ ((fieldI o).toNat - 1) ≤ n.tdiv (2 ^ k) ∧ n.tdiv (2 ^ k) ≤ 2 ^ ((fieldI o).toNat - 1) - 1 := by simpa [inR] using h2
      omega
  have hk4 : k = 0 ∨ k = 1 ∨ k = 2 ∨ k = 3 := by omega
  rcases hk4 with rfl | rfl | rfl | rfl <;> omega
theorem jump_i64 {p w n : Int} (hp : 0 ≤ p ∧ p < 4294967296) (hw : 1 ≤ w ∧ w ≤ 4) (hn : -68719476736 ≤ n ∧ n ≤ 68719476736) : IntKind.i64.wrap (IntKind.i64.wrap (IntKind.i64.wrap p + w) + IntKind.i64.wrap (w * n)) = p + w + w * n := by
  rw [show IntKind.i64.wrap p = p from wrap_i64 (by omega) (by omega), show IntKind.i64.wrap (p + w) = p + w from wrap_i64 (by omega) (by omega)]
  have h : w = 1 ∨ w = 2 ∨ w = 3 ∨ w = 4 := by omega
  rcases h with rfl | rfl | rfl | rfl
  all_goals rw [wrap_i64 (n := _ * n) (by omega) (by omega), wrap_i64 (by omega) (by omega)]
theorem p_r8_Vars (gl : Glob) (m : Mach) (op : MOp) (pcv : Int) (ht : mTerms m) : PCall Tryd.prog gl 6 [.pv m.pv, .pv op.pv, .pv (.int .u64 pcv)] (.tup [.pv (.lst 3 ((varsL m op pcv).map Bnd.pv)), .pv (.int .i64 (varsE m op pcv))]) := by
  refine k_retargetref08_Vars.pcall (by simp) (by simp) (by simp) fun hwf => ?_
  have hp0 := hwf (.pv (.int .u64 pcv)) (by simp)
  simp [IntKind.min, IntKind.max, IntKind.signed, IntKind.bits] at hp0
  simp [c_retargetref08_Vars]
  refine CallNext.pure (p_r8_CheckOp gl m op ht) fun _ => ?_
  simp
  by_cases h : opE m op = 0
  rotate_left
  · simp [h]
    refine ⟨.pv (.bool false), by simp, ?_⟩
    simp [h, varsL, varsE]
  obtain ⟨hc, hsuit⟩ := opE_ok h
  obtain ⟨hi, hal, harg⟩ := suit_ok hsuit
  have hlim := inLimits_iff (mcheck_regs hc).2
  obtain ⟨hwd, had, hbk, hins⟩ := mcheck_all hc
  obtain ⟨A, hA⟩ : ∃ A : Nat, m.address = A := ⟨m.address.toNat, by omega⟩
  have hAA : A = 16 ∨ A = 32 := by omega
  have hVE : varsE m op pcv = if pcv < 2 ^ A then 0 else 24 := by rw [varsE, if_pos h, hA, Int.toNat_natCast]
  have hi' : 0 ≤ op.instr ∧ op.instr ≤ (m.instrs.length : Int) - 1 := by simpa [inR] using hi
  have hne : m.instrs ≠ [] := by intro h; simp [h] at hi'; omega
  simp [h]
  refine ⟨_, .of (p_r8_Below gl _ _), by simp, ?_⟩
  simp [hA, hne, show 0 ≤ op.instr by omega, show op.instr < (m.instrs.length : Int) by omega]
  refine ⟨fun hg => ?_, fun hg => ?_⟩
  · rw [if_neg (by omega)] at hVE
    rw [varsL, hVE]; simp
  rw [if_pos hg] at hVE
  have hVL : varsL m op pcv = varsN m (gt m.instrs op.instr) op.args pcv (gt m.instrs op.instr).operands.length ++ [⟨pc, m.address, pcv⟩] := if_pos hVE
  have hsm : gt m.instrs op.instr ∈ m.instrs := gt_mem hi'.1 (by omega)
  have hos : ∀ i, i < (gt m.instrs op.instr).operands.length → okOperand m (gt m.instrs op.instr) i = true := by
    have := hins op.instr.toNat (by omega)
    rw [Int.toNat_of_nonneg hi'.1] at this
    exact okInstr_ops this
  rw [hVE, hVL]
  generalize hsd : gt m.instrs op.instr = s at *
  have hsl := (hlim.2.2.2.2.2 s hsm).1
  have hvn : ∀ i, (varsN m s op.args pcv i).length ≤ i := by
    intro i
    induction i with
    | zero => simp [varsN]
    | succ i ih => rw [varsN, List.length_append]; split <;> simp <;> omega
  refine Loop.nat (fun i => { e := [(2, .pv (.int .u64 pcv)), (3, .ptr 0 0), (4, .ptr 1 0), (9, .own 2 3 ((varsN m s op.args pcv i).map Bnd.pv)), (10, .ptr 3 0), (11, .pv (.int .i64 i))], h := [(0, m.bx), (1, op.bx), (2, .tip 3 (varsN m s op.args pcv i).length), (3, s.bx)], nx := 4 }) s.operands.length (fun _ => True) (by simp [Mach.bx, MOp.bx, Ins_.bx]) (by simp) (by simp [Mach.bx, MOp.bx, Ins_.bx, varsN, hA]) fun i hi2 hinv => ?_
  have hvl := hvn i
  by_cases hlt : i < s.operands.length
  · have hai : i < op.args.length := by omega
    have hp2 := pow_le A (by omega)
    have hok := hos i hlt
    have hnum := opnd_num hok
    have har := harg i hlt
    simp [hlt, hai, Mach.bx, MOp.bx, Ins_.bx]
    generalize hoo : gt s.operands (i : Nat) = o at *
    refine ⟨fun hk => ?_, fun hk => ?_⟩
    · have e : varsN m s op.args pcv (i + 1) = varsN m s op.args pcv i := by rw [varsN, hoo, if_pos hk]; simp
      rw [e]; exact ⟨⟨rfl, wrap_nat (by omega) (by omega)⟩, rfl⟩
    · have e : varsN m s op.args pcv (i + 1) = varsN m s op.args pcv i ++ [⟨o.name, m.address, numI m o (gt op.args (i : Nat)) pcv⟩] := by rw [varsN, hoo, if_neg hk]
      have hq := hnum hk
      have hbd : -68719476736 ≤ gt op.args (i : Nat) ∧ gt op.args (i : Nat) ≤ 68719476736 := by
        have hr : rangedB o (gt op.args (i : Nat)) = true := by
          simp only [argE, hoo, hk, if_false] at har
          split at har
          · assumption
          · omega
        exact ranged_bd hr hq.1 (by omega)
      refine ⟨fun h4 => ?_, fun h4 => ?_⟩
      · refine DCallNext.pure (by rw [hA]; exact p_r8_Modulo gl _ A hAA) ?_
        rw [jump_i64 (by omega) hwd hbd]
        simp
        rw [e, numI, if_pos h4, hA, Int.toNat_natCast]
        refine ⟨by omega, hlt, ⟨by simp [Bnd.pv], wrap_nat (by omega) (by omega)⟩, by simp⟩
      · refine DCallNext.pure (by rw [hA]; exact p_r8_Modulo gl _ A hAA) ?_
        simp
        rw [e, numI, if_neg h4, hA, Int.toNat_natCast]
        refine ⟨by omega, hlt, ⟨by simp [Bnd.pv], wrap_nat (by omega) (by omega)⟩, by simp⟩
  · obtain rfl : i = s.operands.length := by omega
    simp [Mach.bx, MOp.bx, Ins_.bx, Bnd.pv]
    exact ⟨by omega, rfl⟩
theorem stp_ceq_bnd {gl : Glob} {e : Env} {hl : Nat → Option Ob} {nid : Nat} {X Y : O} {x y : Bnd} (hx : evs gl e X = some (.pv x.pv, True)) (hy : evs gl e Y = some (.pv y.pv, True)) :
    stp gl e hl nid (.ceq true [2, 1, 1] X Y) = some { v := .pv (.bool !decide (x = y)), c := True ∧ True } := by
  rw [stp_ceq, hx, hy, Bnd.pv_eq, Bnd.pv_eq]
  have hd : decide (x = y) = (decide (x.name = y.name) && (decide (x.width = y.width) && decide (x.bits = y.bits))) := by
    rw [← Bool.decide_and, ← Bool.decide_and, decide_eq_decide, Bnd.ext_iff']
  rw [hd]
  simp [-Bnd.fold, ceqs, ceq1, PV.kd]
theorem p_r2_SameBound (gl : Glob) (a b : List Bnd) : PCall Tryd.prog gl 7 [.pv (.lst 3 (a.map Bnd.pv)), .pv (.lst 3 (b.map Bnd.pv))] (.pv (.bool (decide (a = b)))) := by
  refine k_retargetref02_SameBound.pcall (by simp) (by simp) (by simp) fun hwf => ?_
  have hb : a.length ≤ 9223372036854775807 := by have := hwf (.pv (.lst 3 (a.map Bnd.pv))) (by simp); simp [maxLen] at this; exact this.1
  simp [c_retargetref02_SameBound]
  refine ⟨fun h => ?_, fun h => ?_⟩
  · intro he; rw [he] at h; simp at h
  have h' : a.length = b.length := by omega
  refine Loop.nat (fun i => { e := [(0, .pv (.lst 3 (a.map Bnd.pv))), (1, .pv (.lst 3 (b.map Bnd.pv))), (5, .pv (.int .i64 i))], h := [], nx := 0 }) a.length (fun i => ∀ k : Nat, k < i → gt a (k : Nat) = gt b (k : Nat)) (by simp) (by simp) (by simp) fun i hi hinv => ?_
  by_cases hlt : i < a.length
  · simp [-stp_ceq, hlt, show i < b.length by omega]
    rw [stp_ceq_bnd (x := gt a (i : Nat)) (y := gt b (i : Nat)) (by simp) (by simp)]
    simp [hlt, wrap_nat (show (0:Int) ≤ i + 1 by omega) (by omega)]
    refine ⟨fun hn he => hn (by rw [he]), fun he k hk => ?_⟩
    rcases Nat.lt_or_eq_of_le (Nat.le_of_lt_succ hk) with hk | rfl
    · exact hinv k hk
    · exact he
  · obtain rfl : i = a.length := by omega
    simp
    refine List.ext_getElem h' fun k h1 h2 => ?_
    have := hinv k h1
    rwa [gt_nat h1, gt_nat h2] at this
theorem p_r8_sameInts (gl : Glob) (a b : List Int) : PCall Tryd.prog gl 22 [.pv (.lst 1 (ints a)), .pv (.lst 1 (ints b))] (.pv (.bool (decide (a = b)))) := by
  refine k_retargetref08_sameInts.pcall (by simp) (by simp) (by simp) fun hwf => ?_
  have hb : a.length ≤ 9223372036854775807 := by have := hwf (.pv (.lst 1 (ints a))) (by simp); simp [maxLen, ints] at this; exact this.1
  simp [c_retargetref08_sameInts]
  refine ⟨fun h => ?_, fun h => ?_⟩
  · intro he; rw [he] at h; simp at h
  have h' : a.length = b.length := by omega
  refine Loop.nat (fun i => { e := [(0, .pv (.lst 1 (ints a))), (1, .pv (.lst 1 (ints b))), (5, .pv (.int .i64 i))], h := [], nx := 0 }) a.length (fun i => ∀ k : Nat, k < i → gt a (k : Nat) = gt b (k : Nat)) (by simp) (by simp) (by simp) fun i hi hinv => ?_
  by_cases hlt : i < a.length
  · simp [hlt, show i < b.length by omega, wrap_nat (show (0:Int) ≤ i + 1 by omega) (by omega)]
    refine ⟨fun hn he => hn (by rw [he]), fun he k hk => ?_⟩
    rcases Nat.lt_or_eq_of_le (Nat.le_of_lt_succ hk) with hk | rfl
    · exact hinv k hk
    · exact he
  · obtain rfl : i = a.length := by omega
    simp
    refine List.ext_getElem h' fun k h1 h2 => ?_
    have := hinv k h1
    rwa [gt_nat h1, gt_nat h2] at this
theorem p_r8_SameOp (gl : Glob) (a b : MOp) : PCall Tryd.prog gl 10 [.pv a.pv, .pv b.pv] (.pv (.bool (decide (a.instr = b.instr) && decide (a.args = b.args)))) := by
  refine k_retargetref08_SameOp.pcall (by simp) (by simp) (by simp) fun hwf => ?_
  simp [c_retargetref08_SameOp]
  refine ⟨_, by intros; exact .of (p_r8_sameInts gl _ _), by simp, ?_⟩
  simp
end Go.Proofs.YteiampdhhigjcaaDoorV

/- The law MachineOps gives true. -/
namespace Go.Proofs.YteiampdhhigjcaaDoorV
open Go
set_option maxRecDepth 100000
set_option maxHeartbeats 4000000

theorem p_MachineOps (m : Mach) (op : MOp) (pcv : Int) : PCall Tryd.prog glob 3 [.pv m.pv, .pv op.pv, .pv (.int .u64 pcv)] (.pv (.bool true)) := by
  refine k_retargetlaw08_MachineOps.pcall (by simp) (by simp) (by simp) fun hwf => ?_
  simp [c_retargetlaw08_MachineOps]
  refine CallNext.pure (p_r8_Great glob m) fun _ => ?_
  simp
  intro hg hn
  have ht := great_terms hg
  refine ⟨by omega, ?_⟩
  refine CallNext.pure (p_machine_Vars m op pcv ht) fun _ => ?_
  simp
  refine CallNext.pure (p_r8_Vars glob m op pcv ht) fun _ => ?_
  simp
  refine DCallNext.pure (p_r2_SameBound glob _ _) ?_
  simp
  refine ⟨_, .of (p_machine_CheckOp m op ht), by simp, _, .of (p_r8_CheckOp glob m op ht), by simp, ?_⟩
  simp
  refine ⟨_, .of (p_r8_SameOp glob op op), by simp, ?_⟩
  simp
end Go.Proofs.YteiampdhhigjcaaDoorV
