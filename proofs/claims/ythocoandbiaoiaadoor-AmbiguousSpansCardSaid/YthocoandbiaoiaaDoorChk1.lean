/- Packed: Tg Ta Da Sa Sb Ca Ia Ja Pg Tc -/
import Derived.Test.YthocoandbiaoiaaDoorCore3
import Derived.Test.YthocoandbiaoiaaDoorProg
set_option linter.all false
namespace Go.Proofs.YthocoandbiaoiaaDoorV
open Go
set_option maxRecDepth 100000
/- "retarget/ambiguous.Clashes" -/
def c_ambiguous_Clashes : C :=
.seq (.reg [⟨some 1, none, .box 7 (.t 0)⟩, ⟨some 2, none, .mov (.c (.nilS 3))⟩, ⟨some 3, none, .mov (.c (.pv (.int .i64 0)))⟩]) (.seq (.seq (.reg [⟨some 11, none, .load (some 7) (.t 1)⟩, ⟨some 12, none, .callf 26 [(.t 11), (.c (.nilS 1))]⟩, ⟨some 4, none, .mov (.t 12)⟩]) (.seq (.reg [⟨some 13, none, .mov (.t 4)⟩, ⟨some 14, none, .bin .neq (.t 13) (.c (.pv (.int .i64 0)))⟩]) (.cond (.t 14) (.seq (.reg [⟨some 15, none, .mov (.t 4)⟩, ⟨some 2, none, .mov (.c (.nilS 3))⟩, ⟨some 3, none, .mov (.t 15)⟩]) (.ret)) (.skip)))) (.seq (.reg [⟨some 5, none, .alloc [.nilS 3]⟩]) (.gh (.ownf 5 0 3) (.seq (.reg [⟨some 16, none, .load (some 7) (.t 1)⟩, ⟨some 17, none, .callf 27 [(.t 16)]⟩, ⟨some 6, none, .alloc [.nilS 4]⟩, ⟨none, none, .store 1 (.t 6) (.t 17)⟩]) (.seq (.seq (.reg [⟨some 18, none, .load none (.t 6)⟩, ⟨some 19, none, .len (.t 18)⟩, ⟨some 20, none, .callf 28 [(.t 19)]⟩]) (.blk 0 (.rf ⟨[1, 2, 3, 5, 6], [0, 1, 2, 3, 4], 5⟩ (.t 20) [21, 22] (.seq (.reg [⟨some 7, none, .mov (.t 21)⟩]) (.reg [⟨some 8, none, .mov (.t 22)⟩])) (.blk 1 (.seq (.dreg [⟨some 24, none, .fad 1 (.t 1)⟩, ⟨some 25, none, .load none (.t 24)⟩, ⟨some 26, none, .bin .mul (.c (.pv (.int .i64 8))) (.t 25)⟩, ⟨some 27, none, .load none (.t 6)⟩, ⟨some 28, none, .mov (.t 7)⟩, ⟨some 29, none, .iad 4 (.t 27) (.t 28)⟩, ⟨some 30, none, .load (some 4) (.t 29)⟩, ⟨some 31, none, .load none (.t 6)⟩, ⟨some 32, none, .mov (.t 8)⟩, ⟨some 33, none, .iad 4 (.t 31) (.t 32)⟩, ⟨some 34, none, .load (some 4) (.t 33)⟩, ⟨some 35, none, .callf 29 [(.t 26), (.t 30), (.t 34)]⟩, ⟨some 23, none, .mov (.t 35)⟩, ⟨some 36, none, .ext (.t 23) 0⟩, ⟨some 37, none, .ext (.t 23) 1⟩, ⟨some 9, none, .mov (.t 36)⟩, ⟨some 10, none, .mov (.t 37)⟩] [[], [0], [0, 1], [], [], [3, 4], [3, 4, 5], [], [], [7, 8], [7, 8, 9], [0, 1, 2, 3, 4, 5, 6, 7, 8, 9, 10], [0, 1, 2, 3, 4, 5, 6, 7, 8, 9, 10, 11], [0, 1, 2, 3, 4, 5, 6, 7, 8, 9, 10, 11, 12], [0, 1, 2, 3, 4, 5, 6, 7, 8, 9, 10, 11, 12], [0, 1, 2, 3, 4, 5, 6, 7, 8, 9, 10, 11, 12, 13], [0, 1, 2, 3, 4, 5, 6, 7, 8, 9, 10, 11, 12, 13, 14, 15]]) (.seq (.reg [⟨some 38, none, .mov (.t 10)⟩]) (.cond (.t 38) (.reg [⟨some 39, none, .load none (.t 5)⟩, ⟨some 40, none, .mov (.t 7)⟩, ⟨some 41, none, .mov (.t 8)⟩, ⟨some 42, none, .mov (.t 9)⟩, ⟨some 43, none, .build [.pv (.int .i64 0), .pv (.int .i64 0), .pv (.int .u64 0)] [((0, 1), (.t 40)), ((1, 1), (.t 41)), ((2, 1), (.t 42))]⟩, ⟨some 44, none, .lit 3 [(.t 43)]⟩, ⟨some 45, none, .app 3 24 (.t 39) (.t 44)⟩, ⟨none, none, .store 1 (.t 5) (.t 45)⟩]) (.skip)))))))) (.seq (.reg [⟨some 46, none, .load none (.t 5)⟩, ⟨some 2, none, .mov (.t 46)⟩, ⟨some 3, none, .mov (.c (.pv (.int .i64 0)))⟩]) (.ret)))))))
theorem k_ambiguous_Clashes : FnOk Tryd.prog 10 47 c_ambiguous_Clashes [.tmp 2, .tmp 3] := .mk' (fn := Tryd.f10) rfl rfl (by kernel_rfl) rfl (by kernel_rfl) (by kernel_rfl)
/- "retarget/ambiguous.Holes" -/
def c_ambiguous_Holes : C :=
.seq (.reg [⟨some 3, none, .box 7 (.t 0)⟩, ⟨some 6, none, .mov (.c (.nilS 1))⟩, ⟨some 7, none, .mov (.c (.pv (.int .i64 0)))⟩]) (.seq (.seq (.reg [⟨some 14, none, .load (some 7) (.t 3)⟩, ⟨some 15, none, .callf 26 [(.t 14), (.c (.nilS 1))]⟩, ⟨some 8, none, .mov (.t 15)⟩]) (.seq (.reg [⟨some 16, none, .mov (.t 8)⟩, ⟨some 17, none, .bin .neq (.t 16) (.c (.pv (.int .i64 0)))⟩]) (.cond (.t 17) (.seq (.reg [⟨some 18, none, .mov (.t 8)⟩, ⟨some 6, none, .mov (.c (.nilS 1))⟩, ⟨some 7, none, .mov (.t 18)⟩]) (.ret)) (.skip)))) (.seq (.seq (.reg [⟨some 19, none, .mov (.t 2)⟩, ⟨some 20, none, .bin .lss (.t 19) (.c (.pv (.int .i64 0)))⟩, ⟨some 21, none, .mov (.t 20)⟩, ⟨some 22, some (21, false), .mov (.t 2)⟩, ⟨some 23, some (21, false), .bin .gtr (.t 22) (.c (.pv (.int .i64 4096)))⟩, ⟨some 24, none, .lor (.t 21) (.t 23)⟩]) (.cond (.t 24) (.seq (.reg [⟨some 6, none, .mov (.c (.nilS 1))⟩, ⟨some 7, none, .mov (.c (.pv (.int .i64 2)))⟩]) (.ret)) (.skip))) (.seq (.reg [⟨some 25, none, .fad 1 (.t 3)⟩, ⟨some 26, none, .load none (.t 25)⟩, ⟨some 27, none, .bin .mul (.c (.pv (.int .i64 8))) (.t 26)⟩, ⟨some 28, none, .bin .shl (.c (.pv (.int .u64 1))) (.t 27)⟩, ⟨some 9, none, .mov (.t 28)⟩]) (.seq (.seq (.reg [⟨some 29, none, .mov (.t 1)⟩, ⟨some 30, none, .mov (.t 9)⟩, ⟨some 31, none, .bin .gtr (.t 29) (.t 30)⟩, ⟨some 32, none, .mov (.t 31)⟩, ⟨some 33, some (32, false), .mov (.t 2)⟩, ⟨some 34, some (32, false), .conv .u64 (.t 33)⟩, ⟨some 35, some (32, false), .mov (.t 9)⟩, ⟨some 36, some (32, false), .mov (.t 1)⟩, ⟨some 37, some (32, false), .bin .sub (.t 35) (.t 36)⟩, ⟨some 38, some (32, false), .bin .gtr (.t 34) (.t 37)⟩, ⟨some 39, none, .lor (.t 32) (.t 38)⟩]) (.cond (.t 39) (.seq (.reg [⟨some 6, none, .mov (.c (.nilS 1))⟩, ⟨some 7, none, .mov (.c (.pv (.int .i64 24)))⟩]) (.ret)) (.skip))) (.seq (.reg [⟨some 10, none, .mov (.c (.nilS 1))⟩]) (.gh (.own 10 1) (.seq (.reg [⟨some 40, none, .load (some 7) (.t 3)⟩, ⟨some 41, none, .callf 27 [(.t 40)]⟩, ⟨some 11, none, .mov (.t 41)⟩]) (.seq (.seq (.reg [⟨some 42, none, .mov (.t 2)⟩, ⟨some 43, none, .conv .u64 (.t 42)⟩, ⟨some 44, none, .mov (.c (.pv (.int .u64 0)))⟩]) (.blk 0 (.loop ⟨[1, 3, 10, 11, 43, 44], [0, 1], 2⟩ (.seq (.reg [⟨some 45, none, .bin .lss (.t 44) (.t 43)⟩]) (.seq (.cond (.t 45) (.skip) (.ext 0)) (.seq (.blk 1 (.seq (.reg [⟨some 46, none, .mov (.t 44)⟩, ⟨some 12, none, .mov (.t 46)⟩]) (.seq (.reg [⟨some 47, none, .mov (.t 1)⟩, ⟨some 48, none, .mov (.t 12)⟩, ⟨some 49, none, .bin .add (.t 47) (.t 48)⟩, ⟨some 13, none, .alloc [.pv (.int .u64 0)]⟩, ⟨none, none, .store 1 (.t 13) (.t 49)⟩]) (.seq (.reg [⟨some 50, none, .mov (.t 11)⟩, ⟨some 51, none, .mkf (.func 31) [] [(.t 3), (.t 13)]⟩, ⟨some 52, none, .callf 30 [(.t 50), (.t 51)]⟩, ⟨some 53, none, .len (.t 52)⟩, ⟨some 54, none, .bin .eql (.t 53) (.c (.pv (.int .i64 0)))⟩]) (.cond (.t 54) (.reg [⟨some 55, none, .mov (.t 10)⟩, ⟨some 56, none, .load none (.t 13)⟩, ⟨some 57, none, .lit 1 [(.t 56)]⟩, ⟨some 58, none, .app 1 8 (.t 55) (.t 57)⟩, ⟨some 10, none, .mov (.t 58)⟩]) (.skip)))))) (.reg [⟨some 59, none, .bin .add (.t 44) (.c (.pv (.int .u64 1)))⟩, ⟨some 44, none, .mov (.t 59)⟩]))))))) (.seq (.reg [⟨some 60, none, .mov (.t 10)⟩, ⟨some 6, none, .mov (.t 60)⟩, ⟨some 7, none, .mov (.c (.pv (.int .i64 0)))⟩]) (.ret))))))))))
theorem k_ambiguous_Holes : FnOk Tryd.prog 11 61 c_ambiguous_Holes [.tmp 6, .tmp 7] := .mk' (fn := Tryd.f11) rfl rfl (by kernel_rfl) rfl (by kernel_rfl) (by kernel_rfl)
/- "retarget/ambiguous.Count" -/
def c_ambiguous_Count : C :=
.seq (.reg [⟨some 2, none, .box 7 (.t 0)⟩, ⟨some 4, none, .mov (.c (.pv (.int .u64 0)))⟩, ⟨some 5, none, .mov (.c (.pv (.int .i64 0)))⟩]) (.seq (.seq (.reg [⟨some 12, none, .load (some 7) (.t 2)⟩, ⟨some 13, none, .mov (.t 1)⟩, ⟨some 14, none, .lit 1 [(.t 13)]⟩, ⟨some 15, none, .callf 26 [(.t 12), (.t 14)]⟩, ⟨some 6, none, .mov (.t 15)⟩]) (.seq (.reg [⟨some 16, none, .mov (.t 6)⟩, ⟨some 17, none, .bin .neq (.t 16) (.c (.pv (.int .i64 0)))⟩]) (.cond (.t 17) (.seq (.reg [⟨some 18, none, .mov (.t 6)⟩, ⟨some 4, none, .mov (.c (.pv (.int .u64 0)))⟩, ⟨some 5, none, .mov (.t 18)⟩]) (.ret)) (.skip)))) (.seq (.reg [⟨some 7, none, .mov (.c (.pv (.int .u64 1)))⟩]) (.seq (.seq (.reg [⟨some 19, none, .fad 6 (.t 2)⟩, ⟨some 20, none, .load none (.t 19)⟩, ⟨some 21, none, .mov (.t 1)⟩, ⟨some 22, none, .iad 9 (.t 20) (.t 21)⟩, ⟨some 23, none, .fad 3 (.t 22)⟩, ⟨some 24, none, .load none (.t 23)⟩, ⟨some 25, none, .len (.t 24)⟩, ⟨some 26, none, .mov (.c (.pv (.int .i64 0)))⟩]) (.blk 0 (.loop ⟨[2, 7, 24, 25, 26], [0], 1⟩ (.seq (.reg [⟨some 27, none, .bin .lss (.t 26) (.t 25)⟩]) (.seq (.cond (.t 27) (.skip) (.ext 0)) (.seq (.blk 1 (.seq (.reg [⟨some 28, none, .iad 6 (.t 24) (.t 26)⟩, ⟨some 29, none, .load (some 6) (.t 28)⟩, ⟨some 9, none, .alloc [.pv (.str ⟨#[]⟩), .pv (.int .u8 0), .pv (.int .i64 0), .pv (.int .i64 0), .nilS 2, .pv (.int .i64 0)]⟩, ⟨none, none, .store 6 (.t 9) (.t 29)⟩]) (.blk 2 (.seq (.reg [⟨some 31, none, .fad 1 (.t 9)⟩, ⟨some 32, none, .load none (.t 31)⟩, ⟨some 33, none, .bin .neq (.t 32) (.c (.pv (.int .u8 1)))⟩, ⟨some 30, none, .mov (.t 33)⟩]) (.cond (.t 30) (.seq (.reg [⟨some 34, none, .fad 4 (.t 9)⟩, ⟨some 35, none, .load none (.t 34)⟩, ⟨some 36, none, .len (.t 35)⟩, ⟨some 37, none, .mov (.c (.pv (.int .i64 0)))⟩]) (.blk 3 (.loop ⟨[2, 7, 24, 25, 26, 35, 36, 37], [0, 1], 2⟩ (.seq (.reg [⟨some 38, none, .bin .lss (.t 37) (.t 36)⟩]) (.seq (.cond (.t 38) (.skip) (.ext 3)) (.seq (.blk 4 (.seq (.reg [⟨some 39, none, .iad 2 (.t 35) (.t 37)⟩, ⟨some 40, none, .load (some 2) (.t 39)⟩, ⟨some 11, none, .alloc [.pv (.int .i64 0), .pv (.int .i64 0)]⟩, ⟨none, none, .store 2 (.t 11) (.t 40)⟩]) (.reg [⟨some 41, none, .mov (.t 7)⟩, ⟨some 42, none, .fad 1 (.t 11)⟩, ⟨some 43, none, .load none (.t 42)⟩, ⟨some 44, none, .bin .shl (.t 41) (.t 43)⟩, ⟨some 7, none, .mov (.t 44)⟩]))) (.reg [⟨some 45, none, .bin .add (.t 37) (.c (.pv (.int .i64 1)))⟩, ⟨some 37, none, .mov (.t 45)⟩]))))))) (.seq (.reg [⟨some 47, none, .fad 5 (.t 9)⟩, ⟨some 48, none, .load none (.t 47)⟩, ⟨some 49, none, .bin .eql (.t 48) (.c (.pv (.int .i64 (-1))))⟩, ⟨some 46, none, .mov (.t 49)⟩]) (.cond (.t 46) (.reg [⟨some 50, none, .mov (.t 7)⟩, ⟨some 51, none, .fad 4 (.t 2)⟩, ⟨some 52, none, .load none (.t 51)⟩, ⟨some 53, none, .fad 2 (.t 9)⟩, ⟨some 54, none, .load none (.t 53)⟩, ⟨some 55, none, .iad 2 (.t 52) (.t 54)⟩, ⟨some 56, none, .fad 1 (.t 55)⟩, ⟨some 57, none, .load none (.t 56)⟩, ⟨some 58, none, .len (.t 57)⟩, ⟨some 59, none, .conv .u64 (.t 58)⟩, ⟨some 60, none, .bin .mul (.t 50) (.t 59)⟩, ⟨some 7, none, .mov (.t 60)⟩]) (.skip)))))))) (.reg [⟨some 61, none, .bin .add (.t 26) (.c (.pv (.int .i64 1)))⟩, ⟨some 26, none, .mov (.t 61)⟩]))))))) (.seq (.reg [⟨some 62, none, .mov (.t 7)⟩, ⟨some 4, none, .mov (.t 62)⟩, ⟨some 5, none, .mov (.c (.pv (.int .i64 0)))⟩]) (.ret)))))
theorem k_ambiguous_Count : FnOk Tryd.prog 12 63 c_ambiguous_Count [.tmp 4, .tmp 5] := .mk' (fn := Tryd.f12) rfl rfl (by kernel_rfl) rfl (by kernel_rfl) (by kernel_rfl)
/- "retarget/ambiguous.Common" -/
def c_ambiguous_Common : C :=
.seq (.reg [⟨some 3, none, .box 7 (.t 0)⟩, ⟨some 6, none, .mov (.c (.pv (.int .u64 0)))⟩, ⟨some 7, none, .mov (.c (.pv (.bool false)))⟩, ⟨some 8, none, .mov (.c (.pv (.int .i64 0)))⟩]) (.seq (.seq (.reg [⟨some 10, none, .load (some 7) (.t 3)⟩, ⟨some 11, none, .mov (.t 1)⟩, ⟨some 12, none, .mov (.t 2)⟩, ⟨some 13, none, .lit 1 [(.t 11), (.t 12)]⟩, ⟨some 14, none, .callf 26 [(.t 10), (.t 13)]⟩, ⟨some 9, none, .mov (.t 14)⟩]) (.seq (.reg [⟨some 15, none, .mov (.t 9)⟩, ⟨some 16, none, .bin .neq (.t 15) (.c (.pv (.int .i64 0)))⟩]) (.cond (.t 16) (.seq (.reg [⟨some 17, none, .mov (.t 9)⟩, ⟨some 6, none, .mov (.c (.pv (.int .u64 0)))⟩, ⟨some 7, none, .mov (.c (.pv (.bool false)))⟩, ⟨some 8, none, .mov (.t 17)⟩]) (.ret)) (.skip)))) (.seq (.dreg [⟨some 19, none, .fad 1 (.t 3)⟩, ⟨some 20, none, .load none (.t 19)⟩, ⟨some 21, none, .bin .mul (.c (.pv (.int .i64 8))) (.t 20)⟩, ⟨some 22, none, .load (some 7) (.t 3)⟩, ⟨some 23, none, .fad 6 (.t 3)⟩, ⟨some 24, none, .load none (.t 23)⟩, ⟨some 25, none, .mov (.t 1)⟩, ⟨some 26, none, .iad 9 (.t 24) (.t 25)⟩, ⟨some 27, none, .load (some 9) (.t 26)⟩, ⟨some 28, none, .callf 42 [(.t 22), (.t 27)]⟩, ⟨some 29, none, .load (some 7) (.t 3)⟩, ⟨some 30, none, .fad 6 (.t 3)⟩, ⟨some 31, none, .load none (.t 30)⟩, ⟨some 32, none, .mov (.t 2)⟩, ⟨some 33, none, .iad 9 (.t 31) (.t 32)⟩, ⟨some 34, none, .load (some 9) (.t 33)⟩, ⟨some 35, none, .callf 42 [(.t 29), (.t 34)]⟩, ⟨some 36, none, .callf 29 [(.t 21), (.t 28), (.t 35)]⟩, ⟨some 18, none, .mov (.t 36)⟩, ⟨some 37, none, .ext (.t 18) 0⟩, ⟨some 38, none, .ext (.t 18) 1⟩, ⟨some 6, none, .mov (.t 37)⟩, ⟨some 7, none, .mov (.t 38)⟩] [[], [0], [0, 1], [], [], [4], [], [4, 5, 6], [4, 5, 6, 7], [3, 4, 5, 6, 7, 8], [], [], [11], [], [11, 12, 13], [11, 12, 13, 14], [3, 4, 5, 6, 7, 8, 9, 10, 11, 12, 13, 14, 15], [0, 1, 2, 3, 4, 5, 6, 7, 8, 9, 10, 11, 12, 13, 14, 15, 16], [0, 1, 2, 3, 4, 5, 6, 7, 8, 9, 10, 11, 12, 13, 14, 15, 16, 17], [0, 1, 2, 3, 4, 5, 6, 7, 8, 9, 10, 11, 12, 13, 14, 15, 16, 17, 18], [0, 1, 2, 3, 4, 5, 6, 7, 8, 9, 10, 11, 12, 13, 14, 15, 16, 17, 18], [0, 1, 2, 3, 4, 5, 6, 7, 8, 9, 10, 11, 12, 13, 14, 15, 16, 17, 18, 19], [0, 1, 2, 3, 4, 5, 6, 7, 8, 9, 10, 11, 12, 13, 14, 15, 16, 17, 18, 19, 20, 21]]) (.seq (.reg [⟨some 39, none, .mov (.t 6)⟩, ⟨some 40, none, .mov (.t 7)⟩, ⟨some 6, none, .mov (.t 39)⟩, ⟨some 7, none, .mov (.t 40)⟩, ⟨some 8, none, .mov (.c (.pv (.int .i64 0)))⟩]) (.ret))))
theorem k_ambiguous_Common : FnOk Tryd.prog 15 41 c_ambiguous_Common [.tmp 6, .tmp 7, .tmp 8] := .mk' (fn := Tryd.f15) rfl rfl (by kernel_rfl) rfl (by kernel_rfl) (by kernel_rfl)
/- "retarget/ambiguous.Owners" -/
def c_ambiguous_Owners : C :=
.seq (.reg [⟨some 2, none, .box 7 (.t 0)⟩, ⟨some 3, none, .box 1 (.t 1)⟩, ⟨some 4, none, .mov (.c (.nilS 1))⟩, ⟨some 5, none, .mov (.c (.pv (.int .i64 0)))⟩]) (.seq (.seq (.reg [⟨some 7, none, .load (some 7) (.t 2)⟩, ⟨some 8, none, .callf 26 [(.t 7), (.c (.nilS 1))]⟩, ⟨some 6, none, .mov (.t 8)⟩]) (.seq (.reg [⟨some 9, none, .mov (.t 6)⟩, ⟨some 10, none, .bin .neq (.t 9) (.c (.pv (.int .i64 0)))⟩]) (.cond (.t 10) (.seq (.reg [⟨some 11, none, .mov (.t 6)⟩, ⟨some 4, none, .mov (.c (.nilS 1))⟩, ⟨some 5, none, .mov (.t 11)⟩]) (.ret)) (.skip)))) (.seq (.seq (.reg [⟨some 12, none, .load (some 7) (.t 2)⟩, ⟨some 13, none, .load none (.t 3)⟩, ⟨some 14, none, .callf 43 [(.t 12), (.t 13)]⟩]) (.cond (.t 14) (.seq (.reg [⟨some 4, none, .mov (.c (.nilS 1))⟩, ⟨some 5, none, .mov (.c (.pv (.int .i64 24)))⟩]) (.ret)) (.skip))) (.seq (.reg [⟨some 15, none, .load (some 7) (.t 2)⟩, ⟨some 16, none, .callf 27 [(.t 15)]⟩, ⟨some 17, none, .mkf (.func 44) [] [(.t 2), (.t 3)]⟩, ⟨some 18, none, .callf 30 [(.t 16), (.t 17)]⟩, ⟨some 4, none, .mov (.t 18)⟩, ⟨some 5, none, .mov (.c (.pv (.int .i64 0)))⟩]) (.ret))))
theorem k_ambiguous_Owners : FnOk Tryd.prog 16 19 c_ambiguous_Owners [.tmp 4, .tmp 5] := .mk' (fn := Tryd.f16) rfl rfl (by kernel_rfl) rfl (by kernel_rfl) (by kernel_rfl)
/- "retarget/ambiguous.Legal" -/
def c_ambiguous_Legal : C :=
.seq (.reg [⟨some 3, none, .box 7 (.t 0)⟩, ⟨some 6, none, .mov (.c (.pv (.bool false)))⟩, ⟨some 7, none, .mov (.c (.pv (.int .i64 0)))⟩]) (.seq (.seq (.reg [⟨some 9, none, .load (some 7) (.t 3)⟩, ⟨some 10, none, .mov (.t 1)⟩, ⟨some 11, none, .lit 1 [(.t 10)]⟩, ⟨some 12, none, .callf 26 [(.t 9), (.t 11)]⟩, ⟨some 8, none, .mov (.t 12)⟩]) (.seq (.reg [⟨some 13, none, .mov (.t 8)⟩, ⟨some 14, none, .bin .neq (.t 13) (.c (.pv (.int .i64 0)))⟩]) (.cond (.t 14) (.seq (.reg [⟨some 15, none, .mov (.t 8)⟩, ⟨some 6, none, .mov (.c (.pv (.bool false)))⟩, ⟨some 7, none, .mov (.t 15)⟩]) (.ret)) (.skip)))) (.seq (.seq (.reg [⟨some 16, none, .load (some 7) (.t 3)⟩, ⟨some 17, none, .mov (.t 2)⟩, ⟨some 18, none, .callf 43 [(.t 16), (.t 17)]⟩]) (.cond (.t 18) (.seq (.reg [⟨some 6, none, .mov (.c (.pv (.bool false)))⟩, ⟨some 7, none, .mov (.c (.pv (.int .i64 24)))⟩]) (.ret)) (.skip))) (.seq (.dreg [⟨some 19, none, .load (some 7) (.t 3)⟩, ⟨some 20, none, .fad 6 (.t 3)⟩, ⟨some 21, none, .load none (.t 20)⟩, ⟨some 22, none, .mov (.t 1)⟩, ⟨some 23, none, .iad 9 (.t 21) (.t 22)⟩, ⟨some 24, none, .load (some 9) (.t 23)⟩, ⟨some 25, none, .callf 42 [(.t 19), (.t 24)]⟩, ⟨some 26, none, .fad 1 (.t 3)⟩, ⟨some 27, none, .load none (.t 26)⟩, ⟨some 28, none, .bin .mul (.c (.pv (.int .i64 8))) (.t 27)⟩, ⟨some 29, none, .mov (.t 2)⟩, ⟨some 30, none, .callf 32 [(.t 25), (.t 28), (.t 29)]⟩, ⟨some 6, none, .mov (.t 30)⟩, ⟨some 7, none, .mov (.c (.pv (.int .i64 0)))⟩] [[], [], [1], [], [1, 2, 3], [1, 2, 3, 4], [0, 1, 2, 3, 4, 5], [], [7], [7, 8], [], [0, 1, 2, 3, 4, 5, 6, 7, 8, 9, 10], [0, 1, 2, 3, 4, 5, 6, 7, 8, 9, 10, 11], [0, 1, 2, 3, 4, 5, 6, 7, 8, 9, 10, 11, 12]]) (.ret))))
theorem k_ambiguous_Legal : FnOk Tryd.prog 17 31 c_ambiguous_Legal [.tmp 6, .tmp 7] := .mk' (fn := Tryd.f17) rfl rfl (by kernel_rfl) rfl (by kernel_rfl) (by kernel_rfl)
/- "retarget/ambiguous.index" -/
def c_ambiguous_index : C :=
.seq (.reg [⟨some 2, none, .box 7 (.t 0)⟩, ⟨some 4, none, .mov (.c (.pv (.int .i64 0)))⟩]) (.seq (.seq (.reg [⟨some 8, none, .load (some 7) (.t 2)⟩, ⟨some 9, none, .callf 14 [(.t 8)]⟩, ⟨some 5, none, .mov (.t 9)⟩]) (.seq (.reg [⟨some 10, none, .mov (.t 5)⟩, ⟨some 11, none, .bin .neq (.t 10) (.c (.pv (.int .i64 0)))⟩]) (.cond (.t 11) (.seq (.reg [⟨some 12, none, .mov (.t 5)⟩, ⟨some 4, none, .mov (.t 12)⟩]) (.ret)) (.skip)))) (.seq (.seq (.reg [⟨some 13, none, .mov (.t 1)⟩, ⟨some 14, none, .len (.t 13)⟩, ⟨some 15, none, .mov (.c (.pv (.int .i64 0)))⟩]) (.blk 0 (.loop ⟨[2, 13, 14, 15], [0], 1⟩ (.seq (.reg [⟨some 16, none, .bin .lss (.t 15) (.t 14)⟩]) (.seq (.cond (.t 16) (.skip) (.ext 0)) (.seq (.blk 1 (.seq (.reg [⟨some 17, none, .iad 1 (.t 13) (.t 15)⟩, ⟨some 18, none, .load none (.t 17)⟩, ⟨some 7, none, .mov (.t 18)⟩]) (.seq (.reg [⟨some 19, none, .mov (.t 7)⟩, ⟨some 20, none, .bin .lss (.t 19) (.c (.pv (.int .i64 0)))⟩, ⟨some 21, none, .mov (.t 20)⟩, ⟨some 22, some (21, false), .mov (.t 7)⟩, ⟨some 23, some (21, false), .fad 6 (.t 2)⟩, ⟨some 24, some (21, false), .load none (.t 23)⟩, ⟨some 25, some (21, false), .len (.t 24)⟩, ⟨some 26, some (21, false), .bin .geq (.t 22) (.t 25)⟩, ⟨some 27, none, .lor (.t 21) (.t 26)⟩]) (.cond (.t 27) (.seq (.reg [⟨some 4, none, .mov (.c (.pv (.int .i64 2)))⟩]) (.ret)) (.skip))))) (.reg [⟨some 28, none, .bin .add (.t 15) (.c (.pv (.int .i64 1)))⟩, ⟨some 15, none, .mov (.t 28)⟩]))))))) (.seq (.reg [⟨some 4, none, .mov (.c (.pv (.int .i64 0)))⟩]) (.ret))))
theorem k_ambiguous_index : FnOk Tryd.prog 26 29 c_ambiguous_index [.tmp 4] := .mk' (fn := Tryd.f26) rfl rfl (by kernel_rfl) rfl (by kernel_rfl) (by kernel_rfl)
/- "retarget/ambiguous.shapes" -/
def c_ambiguous_shapes : C :=
.seq (.reg [⟨some 1, none, .box 7 (.t 0)⟩, ⟨some 2, none, .mov (.c (.nilS 4))⟩]) (.seq (.reg [⟨some 3, none, .mov (.c (.nilS 4))⟩]) (.seq (.seq (.reg [⟨some 6, none, .fad 6 (.t 1)⟩, ⟨some 7, none, .load none (.t 6)⟩, ⟨some 8, none, .len (.t 7)⟩, ⟨some 9, none, .mov (.c (.pv (.int .i64 0)))⟩]) (.blk 0 (.gh (.own 3 4) (.loop ⟨[1, 3, 7, 8, 9], [0, 1], 2⟩ (.seq (.reg [⟨some 10, none, .bin .lss (.t 9) (.t 8)⟩]) (.seq (.cond (.t 10) (.skip) (.ext 0)) (.seq (.blk 1 (.seq (.reg [⟨some 11, none, .iad 9 (.t 7) (.t 9)⟩, ⟨some 12, none, .load (some 9) (.t 11)⟩, ⟨some 5, none, .alloc [.pv (.str ⟨#[]⟩), .pv (.int .u64 0), .pv (.int .u64 0), .nilS 6, .nilS 21, .pv (.int .i64 0), .pv (.int .i64 0), .pv (.int .i64 0), .pv (.int .i64 0)]⟩, ⟨none, none, .store 9 (.t 5) (.t 12)⟩]) (.reg [⟨some 13, none, .mov (.t 3)⟩, ⟨some 14, none, .load (some 7) (.t 1)⟩, ⟨some 15, none, .load (some 9) (.t 5)⟩, ⟨some 16, none, .callf 42 [(.t 14), (.t 15)]⟩, ⟨some 17, none, .lit 4 [(.t 16)]⟩, ⟨some 18, none, .app 4 48 (.t 13) (.t 17)⟩, ⟨some 3, none, .mov (.t 18)⟩]))) (.reg [⟨some 19, none, .bin .add (.t 9) (.c (.pv (.int .i64 1)))⟩, ⟨some 9, none, .mov (.t 19)⟩])))))))) (.seq (.reg [⟨some 20, none, .mov (.t 3)⟩, ⟨some 2, none, .mov (.t 20)⟩]) (.ret))))
theorem k_ambiguous_shapes : FnOk Tryd.prog 27 21 c_ambiguous_shapes [.tmp 2] := .mk' (fn := Tryd.f27) rfl rfl (by kernel_rfl) rfl (by kernel_rfl) (by kernel_rfl)
/- "retarget/ambiguous.pairs" -/
def c_ambiguous_pairs : C :=
.seq (.reg [⟨some 1, none, .box 1 (.t 0)⟩, ⟨some 2, none, .mov (.c (.nilF))⟩]) (.seq (.reg [⟨some 3, none, .mkf (.func 54) [] [(.t 1)]⟩, ⟨some 2, none, .mov (.t 3)⟩]) (.ret))
theorem k_ambiguous_pairs : FnOk Tryd.prog 28 4 c_ambiguous_pairs [.tmp 2] := .mk' (fn := Tryd.f28) rfl rfl (by kernel_rfl) rfl (by kernel_rfl) (by kernel_rfl)
/- "retarget/ambiguous.meet" -/
def c_ambiguous_meet : C :=
.seq (.reg [⟨some 4, none, .box 4 (.t 1)⟩, ⟨some 5, none, .box 4 (.t 2)⟩, ⟨some 6, none, .mov (.c (.pv (.int .u64 0)))⟩, ⟨some 7, none, .mov (.c (.pv (.bool false)))⟩]) (.seq (.reg [⟨some 9, none, .fad 1 (.t 4)⟩, ⟨some 10, none, .load none (.t 9)⟩, ⟨some 11, none, .fad 1 (.t 5)⟩, ⟨some 12, none, .load none (.t 11)⟩, ⟨some 13, none, .bin .or (.t 10) (.t 12)⟩, ⟨some 8, none, .mov (.t 13)⟩]) (.seq (.seq (.reg [⟨some 14, none, .load (some 4) (.t 4)⟩, ⟨some 15, none, .mov (.t 0)⟩, ⟨some 16, none, .mov (.t 8)⟩, ⟨some 17, none, .callf 32 [(.t 14), (.t 15), (.t 16)]⟩, ⟨some 18, none, .un .not (.t 17)⟩, ⟨some 19, none, .mov (.t 18)⟩, ⟨some 20, some (19, false), .load (some 4) (.t 5)⟩, ⟨some 21, some (19, false), .mov (.t 0)⟩, ⟨some 22, some (19, false), .mov (.t 8)⟩, ⟨some 23, some (19, false), .callf 32 [(.t 20), (.t 21), (.t 22)]⟩, ⟨some 24, some (19, false), .un .not (.t 23)⟩, ⟨some 25, none, .lor (.t 19) (.t 24)⟩]) (.cond (.t 25) (.seq (.reg [⟨some 6, none, .mov (.c (.pv (.int .u64 0)))⟩, ⟨some 7, none, .mov (.c (.pv (.bool false)))⟩]) (.ret)) (.skip))) (.seq (.reg [⟨some 26, none, .mov (.t 8)⟩, ⟨some 6, none, .mov (.t 26)⟩, ⟨some 7, none, .mov (.c (.pv (.bool true)))⟩]) (.ret))))
theorem k_ambiguous_meet : FnOk Tryd.prog 29 27 c_ambiguous_meet [.tmp 6, .tmp 7] := .mk' (fn := Tryd.f29) rfl rfl (by kernel_rfl) rfl (by kernel_rfl) (by kernel_rfl)
/- "retarget/ambiguous.where[retarget/ambiguous.shape]" -/
def c_ambiguous_where_ambiguous_shape : C :=
.seq (.reg [⟨some 4, none, .mov (.c (.nilS 1))⟩]) (.seq (.reg [⟨some 5, none, .mov (.c (.nilS 1))⟩]) (.gh (.own 5 1) (.seq (.seq (.reg [⟨some 8, none, .mov (.t 0)⟩, ⟨some 9, none, .len (.t 8)⟩, ⟨some 10, none, .mov (.c (.pv (.int .i64 0)))⟩]) (.blk 0 (.loop ⟨[1, 5, 8, 9, 10], [0, 1, 2], 3⟩ (.seq (.reg [⟨some 11, none, .bin .lss (.t 10) (.t 9)⟩]) (.seq (.cond (.t 11) (.skip) (.ext 0)) (.seq (.blk 1 (.seq (.reg [⟨some 12, none, .mov (.t 10)⟩, ⟨some 13, none, .iad 4 (.t 8) (.t 10)⟩, ⟨some 14, none, .load (some 4) (.t 13)⟩, ⟨some 7, none, .alloc [.pv (.int .u64 0), .pv (.int .u64 0), .pv (.int .u64 0), .nilS 2]⟩, ⟨some 6, none, .mov (.t 12)⟩, ⟨none, none, .store 4 (.t 7) (.t 14)⟩]) (.seq (.reg [⟨some 15, none, .mov (.t 1)⟩, ⟨some 16, none, .load (some 4) (.t 7)⟩, ⟨some 17, none, .callv (.t 15) [(.t 16)]⟩]) (.cond (.t 17) (.reg [⟨some 18, none, .mov (.t 5)⟩, ⟨some 19, none, .mov (.t 6)⟩, ⟨some 20, none, .lit 1 [(.t 19)]⟩, ⟨some 21, none, .app 1 8 (.t 18) (.t 20)⟩, ⟨some 5, none, .mov (.t 21)⟩]) (.skip))))) (.reg [⟨some 22, none, .bin .add (.t 10) (.c (.pv (.int .i64 1)))⟩, ⟨some 10, none, .mov (.t 22)⟩]))))))) (.seq (.reg [⟨some 23, none, .mov (.t 5)⟩, ⟨some 4, none, .mov (.t 23)⟩]) (.ret)))))
theorem k_ambiguous_where_ambiguous_shape : FnOk Tryd.prog 30 24 c_ambiguous_where_ambiguous_shape [.tmp 4] := .mk' (fn := Tryd.f30) rfl rfl (by kernel_rfl) rfl (by kernel_rfl) (by kernel_rfl)
/- "retarget/ambiguous.Holes$1" -/
def c_ambiguous_Holes_1 : C :=
.seq (.reg [⟨some 3, none, .box 4 (.t 0)⟩, ⟨some 4, none, .mov (.c (.pv (.bool false)))⟩]) (.seq (.reg [⟨some 5, none, .load (some 4) (.t 3)⟩, ⟨some 6, none, .fad 1 (.t 1)⟩, ⟨some 7, none, .load none (.t 6)⟩, ⟨some 8, none, .bin .mul (.c (.pv (.int .i64 8))) (.t 7)⟩, ⟨some 9, none, .load none (.t 2)⟩, ⟨some 10, none, .callf 32 [(.t 5), (.t 8), (.t 9)]⟩, ⟨some 4, none, .mov (.t 10)⟩]) (.ret))
theorem k_ambiguous_Holes_1 : FnOk Tryd.prog 31 11 c_ambiguous_Holes_1 [.tmp 4] := .mk' (fn := Tryd.f31) rfl rfl (by kernel_rfl) rfl (by kernel_rfl) (by kernel_rfl)
/- "(retarget/ambiguous.shape).has" -/
def c_ambiguous_shape_has : C :=
.seq (.reg [⟨some 3, none, .box 4 (.t 0)⟩, ⟨some 6, none, .mov (.c (.pv (.bool false)))⟩]) (.seq (.seq (.reg [⟨some 11, none, .mov (.t 2)⟩, ⟨some 12, none, .fad 0 (.t 3)⟩, ⟨some 13, none, .load none (.t 12)⟩, ⟨some 14, none, .bin .and (.t 11) (.t 13)⟩, ⟨some 15, none, .fad 1 (.t 3)⟩, ⟨some 16, none, .load none (.t 15)⟩, ⟨some 17, none, .bin .neq (.t 14) (.t 16)⟩, ⟨some 18, none, .mov (.t 17)⟩, ⟨some 19, some (18, false), .mov (.t 2)⟩, ⟨some 20, some (18, false), .fad 0 (.t 3)⟩, ⟨some 21, some (18, false), .load none (.t 20)⟩, ⟨some 22, some (18, false), .bin .andNot (.t 19) (.t 21)⟩, ⟨some 23, some (18, false), .fad 2 (.t 3)⟩, ⟨some 24, some (18, false), .load none (.t 23)⟩, ⟨some 25, some (18, false), .bin .andNot (.t 22) (.t 24)⟩, ⟨some 26, some (18, false), .bin .neq (.t 25) (.c (.pv (.int .u64 0)))⟩, ⟨some 27, none, .lor (.t 18) (.t 26)⟩]) (.cond (.t 27) (.seq (.reg [⟨some 6, none, .mov (.c (.pv (.bool false)))⟩]) (.ret)) (.skip))) (.seq (.seq (.reg [⟨some 28, none, .fad 3 (.t 3)⟩, ⟨some 29, none, .load none (.t 28)⟩, ⟨some 30, none, .len (.t 29)⟩, ⟨some 31, none, .mov (.c (.pv (.int .i64 0)))⟩]) (.blk 0 (.loop ⟨[1, 2, 29, 30, 31], [0], 1⟩ (.seq (.reg [⟨some 32, none, .bin .lss (.t 31) (.t 30)⟩]) (.seq (.cond (.t 32) (.skip) (.ext 0)) (.seq (.blk 1 (.seq (.reg [⟨some 33, none, .iad 2 (.t 29) (.t 31)⟩, ⟨some 34, none, .load (some 2) (.t 33)⟩, ⟨some 8, none, .alloc [.nilS 2, .pv (.int .u64 0)]⟩, ⟨none, none, .store 2 (.t 8) (.t 34)⟩]) (.seq (.reg [⟨some 36, none, .mov (.t 1)⟩, ⟨some 37, none, .mov (.t 2)⟩, ⟨some 38, none, .fad 0 (.t 8)⟩, ⟨some 39, none, .load none (.t 38)⟩, ⟨some 40, none, .callf 55 [(.t 36), (.t 37), (.t 39)]⟩, ⟨some 35, none, .mov (.t 40)⟩, ⟨some 41, none, .ext (.t 35) 0⟩, ⟨some 42, none, .ext (.t 35) 1⟩, ⟨some 9, none, .mov (.t 41)⟩, ⟨some 10, none, .mov (.t 42)⟩]) (.seq (.reg [⟨some 43, none, .mov (.t 9)⟩, ⟨some 44, none, .fad 1 (.t 8)⟩, ⟨some 45, none, .load none (.t 44)⟩, ⟨some 46, none, .bin .geq (.t 43) (.t 45)⟩]) (.cond (.t 46) (.seq (.reg [⟨some 6, none, .mov (.c (.pv (.bool false)))⟩]) (.ret)) (.skip)))))) (.reg [⟨some 47, none, .bin .add (.t 31) (.c (.pv (.int .i64 1)))⟩, ⟨some 31, none, .mov (.t 47)⟩]))))))) (.seq (.reg [⟨some 6, none, .mov (.c (.pv (.bool true)))⟩]) (.ret))))
theorem k_ambiguous_shape_has : FnOk Tryd.prog 32 48 c_ambiguous_shape_has [.tmp 6] := .mk' (fn := Tryd.f32) rfl rfl (by kernel_rfl) rfl (by kernel_rfl) (by kernel_rfl)
/- "retarget/ambiguous.shapeOf" -/
def c_ambiguous_shapeOf : C :=
.seq (.reg [⟨some 2, none, .box 7 (.t 0)⟩, ⟨some 3, none, .box 9 (.t 1)⟩, ⟨some 4, none, .alloc [.pv (.int .u64 0), .pv (.int .u64 0), .pv (.int .u64 0), .nilS 2]⟩]) (.seq (.reg [⟨some 10, none, .fad 1 (.t 3)⟩, ⟨some 11, none, .load none (.t 10)⟩, ⟨some 12, none, .fad 2 (.t 3)⟩, ⟨some 13, none, .load none (.t 12)⟩, ⟨some 14, none, .build [.pv (.int .u64 0), .pv (.int .u64 0), .pv (.int .u64 0), .nilS 2] [((0, 1), (.t 11)), ((1, 1), (.t 13))]⟩, ⟨some 5, none, .alloc [.pv (.int .u64 0), .pv (.int .u64 0), .pv (.int .u64 0), .nilS 2]⟩, ⟨none, none, .store 4 (.t 5) (.t 14)⟩]) (.gh (.ownf 5 3 2) (.seq (.seq (.reg [⟨some 15, none, .fad 3 (.t 3)⟩, ⟨some 16, none, .load none (.t 15)⟩, ⟨some 17, none, .len (.t 16)⟩, ⟨some 18, none, .mov (.c (.pv (.int .i64 0)))⟩]) (.blk 0 (.loop ⟨[2, 4, 5, 16, 17, 18], [0, 1, 2, 3, 4], 5⟩ (.seq (.reg [⟨some 19, none, .bin .lss (.t 18) (.t 17)⟩]) (.seq (.cond (.t 19) (.skip) (.ext 0)) (.seq (.blk 1 (.seq (.reg [⟨some 20, none, .iad 6 (.t 16) (.t 18)⟩, ⟨some 21, none, .load (some 6) (.t 20)⟩, ⟨some 7, none, .alloc [.pv (.str ⟨#[]⟩), .pv (.int .u8 0), .pv (.int .i64 0), .pv (.int .i64 0), .nilS 2, .pv (.int .i64 0)]⟩, ⟨none, none, .store 6 (.t 7) (.t 21)⟩]) (.seq (.reg [⟨some 23, none, .fad 1 (.t 2)⟩, ⟨some 24, none, .load none (.t 23)⟩, ⟨some 25, none, .bin .mul (.c (.pv (.int .i64 8))) (.t 24)⟩, ⟨some 26, none, .fad 4 (.t 7)⟩, ⟨some 27, none, .load none (.t 26)⟩, ⟨some 28, none, .callf 63 [(.t 25), (.t 27)]⟩, ⟨some 22, none, .mov (.t 28)⟩, ⟨some 29, none, .ext (.t 22) 0⟩, ⟨some 30, none, .ext (.t 22) 1⟩, ⟨some 8, none, .mov (.t 29)⟩, ⟨some 9, none, .mov (.t 30)⟩]) (.seq (.reg [⟨some 31, none, .fad 2 (.t 5)⟩, ⟨some 32, none, .load none (.t 31)⟩, ⟨some 33, none, .mov (.t 8)⟩, ⟨some 34, none, .bin .or (.t 32) (.t 33)⟩, ⟨some 35, none, .fad 2 (.t 5)⟩, ⟨none, none, .store 1 (.t 35) (.t 34)⟩]) (.seq (.reg [⟨some 36, none, .fad 1 (.t 7)⟩, ⟨some 37, none, .load none (.t 36)⟩, ⟨some 38, none, .bin .eql (.t 37) (.c (.pv (.int .u8 1)))⟩, ⟨some 39, none, .mov (.t 38)⟩, ⟨some 40, some (39, true), .fad 5 (.t 7)⟩, ⟨some 41, some (39, true), .load none (.t 40)⟩, ⟨some 42, some (39, true), .bin .eql (.t 41) (.c (.pv (.int .i64 (-1))))⟩, ⟨some 43, none, .land (.t 39) (.t 42)⟩]) (.cond (.t 43) (.dreg [⟨some 44, none, .fad 3 (.t 5)⟩, ⟨some 45, none, .load none (.t 44)⟩, ⟨some 46, none, .fad 4 (.t 7)⟩, ⟨some 47, none, .load none (.t 46)⟩, ⟨some 48, none, .fad 4 (.t 2)⟩, ⟨some 49, none, .load none (.t 48)⟩, ⟨some 50, none, .fad 2 (.t 7)⟩, ⟨some 51, none, .load none (.t 50)⟩, ⟨some 52, none, .iad 2 (.t 49) (.t 51)⟩, ⟨some 53, none, .fad 1 (.t 52)⟩, ⟨some 54, none, .load none (.t 53)⟩, ⟨some 55, none, .len (.t 54)⟩, ⟨some 56, none, .conv .u64 (.t 55)⟩, ⟨some 57, none, .build [.nilS 2, .pv (.int .u64 0)] [((0, 1), (.t 47)), ((1, 1), (.t 56))]⟩, ⟨some 58, none, .lit 2 [(.t 57)]⟩, ⟨some 59, none, .app 2 32 (.t 45) (.t 58)⟩, ⟨some 60, none, .fad 3 (.t 5)⟩, ⟨none, none, .store 1 (.t 60) (.t 59)⟩] [[], [0], [], [2], [], [4], [], [6], [4, 5, 6, 7], [4, 5, 6, 7, 8], [4, 5, 6, 7, 8, 9], [4, 5, 6, 7, 8, 9, 10], [4, 5, 6, 7, 8, 9, 10, 11], [2, 3, 4, 5, 6, 7, 8, 9, 10, 11, 12], [2, 3, 4, 5, 6, 7, 8, 9, 10, 11, 12, 13], [0, 1, 2, 3, 4, 5, 6, 7, 8, 9, 10, 11, 12, 13, 14], [0, 1, 2, 3, 4, 5, 6, 7, 8, 9, 10, 11, 12, 13, 14, 15], [0, 1, 2, 3, 4, 5, 6, 7, 8, 9, 10, 11, 12, 13, 14, 15, 16]]) (.skip))))))) (.reg [⟨some 61, none, .bin .add (.t 18) (.c (.pv (.int .i64 1)))⟩, ⟨some 18, none, .mov (.t 61)⟩]))))))) (.seq (.reg [⟨some 62, none, .load (some 4) (.t 5)⟩, ⟨none, none, .store 4 (.t 4) (.t 62)⟩]) (.ret)))))
theorem k_ambiguous_shapeOf : FnOk Tryd.prog 42 63 c_ambiguous_shapeOf [.cell 4 (some 4)] := .mk' (fn := Tryd.f42) rfl rfl (by kernel_rfl) rfl (by kernel_rfl) (by kernel_rfl)
/- "retarget/ambiguous.big" -/
def c_ambiguous_big : C :=
.seq (.reg [⟨some 2, none, .box 7 (.t 0)⟩, ⟨some 4, none, .mov (.c (.pv (.bool false)))⟩]) (.seq (.reg [⟨some 5, none, .mov (.t 1)⟩, ⟨some 6, none, .fad 1 (.t 2)⟩, ⟨some 7, none, .load none (.t 6)⟩, ⟨some 8, none, .bin .mul (.c (.pv (.int .i64 8))) (.t 7)⟩, ⟨some 9, none, .bin .shr (.t 5) (.t 8)⟩, ⟨some 10, none, .bin .neq (.t 9) (.c (.pv (.int .u64 0)))⟩, ⟨some 4, none, .mov (.t 10)⟩]) (.ret))
theorem k_ambiguous_big : FnOk Tryd.prog 43 11 c_ambiguous_big [.tmp 4] := .mk' (fn := Tryd.f43) rfl rfl (by kernel_rfl) rfl (by kernel_rfl) (by kernel_rfl)
/- "retarget/ambiguous.Owners$1" -/
def c_ambiguous_Owners_1 : C :=
.seq (.reg [⟨some 3, none, .box 4 (.t 0)⟩, ⟨some 4, none, .mov (.c (.pv (.bool false)))⟩]) (.seq (.reg [⟨some 5, none, .load (some 4) (.t 3)⟩, ⟨some 6, none, .fad 1 (.t 1)⟩, ⟨some 7, none, .load none (.t 6)⟩, ⟨some 8, none, .bin .mul (.c (.pv (.int .i64 8))) (.t 7)⟩, ⟨some 9, none, .load none (.t 2)⟩, ⟨some 10, none, .callf 32 [(.t 5), (.t 8), (.t 9)]⟩, ⟨some 4, none, .mov (.t 10)⟩]) (.ret))
theorem k_ambiguous_Owners_1 : FnOk Tryd.prog 44 11 c_ambiguous_Owners_1 [.tmp 4] := .mk' (fn := Tryd.f44) rfl rfl (by kernel_rfl) rfl (by kernel_rfl) (by kernel_rfl)
/- "retarget/ambiguous.pairs$1" -/
def c_ambiguous_pairs_1 : C :=
.seq (.reg [⟨some 5, none, .load none (.t 1)⟩, ⟨some 6, none, .mov (.c (.pv (.int .i64 0)))⟩]) (.blk 0 (.loop ⟨[0, 1, 5, 6], [0, 1, 2, 3, 4, 5], 6⟩ (.seq (.reg [⟨some 7, none, .bin .lss (.t 6) (.t 5)⟩]) (.seq (.cond (.t 7) (.skip) (.ext 0)) (.seq (.blk 1 (.seq (.reg [⟨some 8, none, .mov (.t 6)⟩, ⟨some 3, none, .mov (.t 8)⟩]) (.seq (.reg [⟨some 9, none, .mov (.t 3)⟩, ⟨some 10, none, .bin .add (.t 9) (.c (.pv (.int .i64 1)))⟩, ⟨some 4, none, .mov (.t 10)⟩]) (.blk 2 (.loop ⟨[0, 1, 3, 4, 5, 6], [0, 1, 2, 3, 4, 5], 6⟩ (.seq (.seq (.reg [⟨some 11, none, .mov (.t 4)⟩, ⟨some 12, none, .load none (.t 1)⟩, ⟨some 13, none, .bin .lss (.t 11) (.t 12)⟩]) (.cond (.t 13) (.skip) (.ext 2))) (.seq (.blk 3 (.seq (.reg [⟨some 16, none, .mov (.t 0)⟩, ⟨some 17, none, .mov (.t 3)⟩, ⟨some 18, none, .mov (.t 4)⟩, ⟨some 19, none, .callv (.t 16) [(.t 17), (.t 18)]⟩, ⟨some 20, none, .un .not (.t 19)⟩]) (.cond (.t 20) (.ret) (.skip)))) (.reg [⟨some 14, none, .mov (.t 4)⟩, ⟨some 15, none, .bin .add (.t 14) (.c (.pv (.int .i64 1)))⟩, ⟨some 4, none, .mov (.t 15)⟩])))))))) (.reg [⟨some 21, none, .bin .add (.t 6) (.c (.pv (.int .i64 1)))⟩, ⟨some 6, none, .mov (.t 21)⟩]))))))
theorem k_ambiguous_pairs_1 : FnOk Tryd.prog 54 22 c_ambiguous_pairs_1 [] := .mk' (fn := Tryd.f54) rfl rfl (by kernel_rfl) rfl (by kernel_rfl) (by kernel_rfl)
/- "retarget/format.Get" -/
def c_format_Get : C :=
.seq (.reg [⟨some 4, none, .box 1 (.t 1)⟩, ⟨some 6, none, .alloc [.pv (.int .u64 0)]⟩, ⟨some 7, none, .mov (.c (.pv (.int .i64 0)))⟩]) (.seq (.seq (.reg [⟨some 11, none, .mov (.t 0)⟩, ⟨some 12, none, .mov (.t 2)⟩, ⟨some 13, none, .callf 74 [(.t 11), (.t 12)]⟩, ⟨some 8, none, .mov (.t 13)⟩]) (.seq (.reg [⟨some 14, none, .mov (.t 8)⟩, ⟨some 15, none, .bin .neq (.t 14) (.c (.pv (.int .i64 0)))⟩]) (.cond (.t 15) (.seq (.reg [⟨some 16, none, .mov (.t 8)⟩, ⟨none, none, .store 1 (.t 6) (.c (.pv (.int .u64 0)))⟩, ⟨some 7, none, .mov (.t 16)⟩]) (.ret)) (.skip)))) (.seq (.seq (.reg [⟨some 17, none, .load none (.t 4)⟩, ⟨some 18, none, .mov (.t 0)⟩, ⟨some 19, none, .callf 75 [(.t 17), (.t 18)]⟩, ⟨some 20, none, .un .not (.t 19)⟩]) (.cond (.t 20) (.seq (.reg [⟨none, none, .store 1 (.t 6) (.c (.pv (.int .u64 0)))⟩, ⟨some 7, none, .mov (.c (.pv (.int .i64 24)))⟩]) (.ret)) (.skip))) (.seq (.seq (.reg [⟨some 21, none, .mov (.t 2)⟩, ⟨some 22, none, .callf 76 [(.t 21)]⟩]) (.blk 0 (.rf ⟨[4, 6, 7], [0, 1, 2], 3⟩ (.t 22) [23, 24] (.seq (.reg [⟨some 9, none, .alloc [.pv (.int .i64 0), .pv (.int .i64 0)]⟩, ⟨none, none, .store 2 (.t 9) (.t 23)⟩]) (.reg [⟨some 10, none, .mov (.t 24)⟩])) (.blk 1 (.dreg [⟨some 25, none, .load none (.t 6)⟩, ⟨some 26, none, .load none (.t 4)⟩, ⟨some 27, none, .fad 0 (.t 9)⟩, ⟨some 28, none, .load none (.t 27)⟩, ⟨some 29, none, .bin .shr (.t 26) (.t 28)⟩, ⟨some 30, none, .fad 1 (.t 9)⟩, ⟨some 31, none, .load none (.t 30)⟩, ⟨some 32, none, .callf 59 [(.t 31)]⟩, ⟨some 33, none, .bin .and (.t 29) (.t 32)⟩, ⟨some 34, none, .mov (.t 10)⟩, ⟨some 35, none, .bin .shl (.t 33) (.t 34)⟩, ⟨some 36, none, .bin .or (.t 25) (.t 35)⟩, ⟨none, none, .store 1 (.t 6) (.t 36)⟩] [[], [], [], [2], [1, 2, 3], [], [5], [5, 6], [1, 2, 3, 4, 5, 6, 7], [], [1, 2, 3, 4, 5, 6, 7, 8, 9], [0, 1, 2, 3, 4, 5, 6, 7, 8, 9, 10], [0, 1, 2, 3, 4, 5, 6, 7, 8, 9, 10, 11]]))))) (.seq (.reg [⟨some 37, none, .load none (.t 6)⟩, ⟨none, none, .store 1 (.t 6) (.t 37)⟩, ⟨some 7, none, .mov (.c (.pv (.int .i64 0)))⟩]) (.ret)))))
theorem k_format_Get : FnOk Tryd.prog 55 38 c_format_Get [.cell 6 none, .tmp 7] := .mk' (fn := Tryd.f55) rfl rfl (by kernel_rfl) rfl (by kernel_rfl) (by kernel_rfl)
/- "retarget/format.Mask" -/
def c_format_Mask : C :=
.seq (.reg [⟨some 4, none, .alloc [.pv (.int .u64 0)]⟩, ⟨some 5, none, .mov (.c (.pv (.int .i64 0)))⟩]) (.seq (.seq (.reg [⟨some 8, none, .mov (.t 0)⟩, ⟨some 9, none, .mov (.t 1)⟩, ⟨some 10, none, .callf 74 [(.t 8), (.t 9)]⟩, ⟨some 6, none, .mov (.t 10)⟩]) (.seq (.reg [⟨some 11, none, .mov (.t 6)⟩, ⟨some 12, none, .bin .neq (.t 11) (.c (.pv (.int .i64 0)))⟩]) (.cond (.t 12) (.seq (.reg [⟨some 13, none, .mov (.t 6)⟩, ⟨none, none, .store 1 (.t 4) (.c (.pv (.int .u64 0)))⟩, ⟨some 5, none, .mov (.t 13)⟩]) (.ret)) (.skip)))) (.seq (.seq (.reg [⟨some 14, none, .mov (.t 1)⟩, ⟨some 15, none, .callf 76 [(.t 14)]⟩]) (.blk 0 (.rf ⟨[4, 5], [0, 1], 2⟩ (.t 15) [16, 17] (.reg [⟨some 7, none, .alloc [.pv (.int .i64 0), .pv (.int .i64 0)]⟩, ⟨none, none, .store 2 (.t 7) (.t 16)⟩]) (.blk 1 (.dreg [⟨some 18, none, .load none (.t 4)⟩, ⟨some 19, none, .fad 1 (.t 7)⟩, ⟨some 20, none, .load none (.t 19)⟩, ⟨some 21, none, .callf 59 [(.t 20)]⟩, ⟨some 22, none, .fad 0 (.t 7)⟩, ⟨some 23, none, .load none (.t 22)⟩, ⟨some 24, none, .bin .shl (.t 21) (.t 23)⟩, ⟨some 25, none, .bin .or (.t 18) (.t 24)⟩, ⟨none, none, .store 1 (.t 4) (.t 25)⟩] [[], [], [1], [1, 2], [], [4], [1, 2, 3, 4, 5], [0, 1, 2, 3, 4, 5, 6], [0, 1, 2, 3, 4, 5, 6, 7]]))))) (.seq (.reg [⟨some 26, none, .load none (.t 4)⟩, ⟨none, none, .store 1 (.t 4) (.t 26)⟩, ⟨some 5, none, .mov (.c (.pv (.int .i64 0)))⟩]) (.ret))))
theorem k_format_Mask : FnOk Tryd.prog 63 27 c_format_Mask [.cell 4 none, .tmp 5] := .mk' (fn := Tryd.f63) rfl rfl (by kernel_rfl) rfl (by kernel_rfl) (by kernel_rfl)
/- "retarget/format.Check" -/
def c_format_Check : C :=
.seq (.reg [⟨some 4, none, .mov (.c (.pv (.int .i64 0)))⟩]) (.seq (.seq (.reg [⟨some 9, none, .mov (.t 0)⟩, ⟨some 10, none, .lit 1 [(.t 9)]⟩, ⟨some 11, none, .callf 90 [(.c (.pv (.int .i64 1))), (.c (.pv (.int .i64 64))), (.t 10)]⟩, ⟨some 12, none, .un .not (.t 11)⟩]) (.cond (.t 12) (.seq (.reg [⟨some 4, none, .mov (.c (.pv (.int .i64 2)))⟩]) (.ret)) (.skip))) (.seq (.seq (.reg [⟨some 13, none, .mov (.t 1)⟩, ⟨some 14, none, .len (.t 13)⟩, ⟨some 15, none, .bin .gtr (.t 14) (.c (.pv (.int .i64 4)))⟩]) (.cond (.t 15) (.seq (.reg [⟨some 4, none, .mov (.c (.pv (.int .i64 4)))⟩]) (.ret)) (.skip))) (.seq (.reg [⟨some 5, none, .mov (.c (.pv (.int .u64 0)))⟩]) (.seq (.seq (.reg [⟨some 16, none, .mov (.t 1)⟩, ⟨some 17, none, .len (.t 16)⟩, ⟨some 18, none, .mov (.c (.pv (.int .i64 0)))⟩]) (.blk 0 (.loop ⟨[0, 5, 16, 17, 18], [], 0⟩ (.seq (.reg [⟨some 19, none, .bin .lss (.t 18) (.t 17)⟩]) (.seq (.cond (.t 19) (.skip) (.ext 0)) (.seq (.blk 1 (.seq (.reg [⟨some 20, none, .iad 2 (.t 16) (.t 18)⟩, ⟨some 21, none, .load (some 2) (.t 20)⟩, ⟨some 7, none, .alloc [.pv (.int .i64 0), .pv (.int .i64 0)]⟩, ⟨none, none, .store 2 (.t 7) (.t 21)⟩]) (.seq (.seq (.reg [⟨some 22, none, .mov (.t 0)⟩, ⟨some 23, none, .fad 1 (.t 7)⟩, ⟨some 24, none, .load none (.t 23)⟩, ⟨some 25, none, .lit 1 [(.t 24)]⟩, ⟨some 26, none, .callf 90 [(.c (.pv (.int .i64 1))), (.t 22), (.t 25)]⟩, ⟨some 27, none, .un .not (.t 26)⟩, ⟨some 28, none, .mov (.t 27)⟩, ⟨some 29, some (28, false), .mov (.t 0)⟩, ⟨some 30, some (28, false), .fad 1 (.t 7)⟩, ⟨some 31, some (28, false), .load none (.t 30)⟩, ⟨some 32, some (28, false), .bin .sub (.t 29) (.t 31)⟩, ⟨some 33, some (28, false), .fad 0 (.t 7)⟩, ⟨some 34, some (28, false), .load none (.t 33)⟩, ⟨some 35, some (28, false), .lit 1 [(.t 34)]⟩, ⟨some 36, some (28, false), .callf 90 [(.c (.pv (.int .i64 0))), (.t 32), (.t 35)]⟩, ⟨some 37, some (28, false), .un .not (.t 36)⟩, ⟨some 38, none, .lor (.t 28) (.t 37)⟩]) (.cond (.t 38) (.seq (.reg [⟨some 4, none, .mov (.c (.pv (.int .i64 8)))⟩]) (.ret)) (.skip))) (.seq (.dreg [⟨some 39, none, .fad 1 (.t 7)⟩, ⟨some 40, none, .load none (.t 39)⟩, ⟨some 41, none, .callf 59 [(.t 40)]⟩, ⟨some 42, none, .fad 0 (.t 7)⟩, ⟨some 43, none, .load none (.t 42)⟩, ⟨some 44, none, .bin .shl (.t 41) (.t 43)⟩, ⟨some 8, none, .mov (.t 44)⟩] [[], [0], [0, 1], [], [3], [0, 1, 2, 3, 4], [0, 1, 2, 3, 4, 5]]) (.seq (.seq (.reg [⟨some 45, none, .mov (.t 5)⟩, ⟨some 46, none, .mov (.t 8)⟩, ⟨some 47, none, .bin .and (.t 45) (.t 46)⟩, ⟨some 48, none, .bin .neq (.t 47) (.c (.pv (.int .u64 0)))⟩]) (.cond (.t 48) (.seq (.reg [⟨some 4, none, .mov (.c (.pv (.int .i64 8)))⟩]) (.ret)) (.skip))) (.reg [⟨some 49, none, .mov (.t 5)⟩, ⟨some 50, none, .mov (.t 8)⟩, ⟨some 51, none, .bin .or (.t 49) (.t 50)⟩, ⟨some 5, none, .mov (.t 51)⟩])))))) (.reg [⟨some 52, none, .bin .add (.t 18) (.c (.pv (.int .i64 1)))⟩, ⟨some 18, none, .mov (.t 52)⟩]))))))) (.seq (.reg [⟨some 4, none, .mov (.c (.pv (.int .i64 0)))⟩]) (.ret))))))
theorem k_format_Check : FnOk Tryd.prog 74 53 c_format_Check [.tmp 4] := .mk' (fn := Tryd.f74) rfl rfl (by kernel_rfl) rfl (by kernel_rfl) (by kernel_rfl)
/- "retarget/format.fits" -/
def c_format_fits : C :=
.seq (.reg [⟨some 4, none, .mov (.c (.pv (.bool false)))⟩]) (.seq (.reg [⟨some 5, none, .mov (.t 0)⟩, ⟨some 6, none, .callf 91 [(.t 5)]⟩, ⟨some 7, none, .mov (.t 1)⟩, ⟨some 8, none, .bin .leq (.t 6) (.t 7)⟩, ⟨some 4, none, .mov (.t 8)⟩]) (.ret))
theorem k_format_fits : FnOk Tryd.prog 75 9 c_format_fits [.tmp 4] := .mk' (fn := Tryd.f75) rfl rfl (by kernel_rfl) rfl (by kernel_rfl) (by kernel_rfl)
/- "retarget/format.shifted" -/
def c_format_shifted : C :=
.seq (.reg [⟨some 1, none, .box 1 (.t 0)⟩, ⟨some 2, none, .mov (.c (.nilF))⟩]) (.seq (.reg [⟨some 3, none, .mkf (.func 92) [] [(.t 1)]⟩, ⟨some 2, none, .mov (.t 3)⟩]) (.ret))
theorem k_format_shifted : FnOk Tryd.prog 76 4 c_format_shifted [.tmp 2] := .mk' (fn := Tryd.f76) rfl rfl (by kernel_rfl) rfl (by kernel_rfl) (by kernel_rfl)
/- "retarget/format.within" -/
def c_format_within : C :=
.seq (.reg [⟨some 6, none, .mov (.c (.pv (.bool false)))⟩]) (.seq (.seq (.reg [⟨some 9, none, .mov (.t 2)⟩, ⟨some 10, none, .len (.t 9)⟩, ⟨some 11, none, .mov (.c (.pv (.int .i64 0)))⟩]) (.blk 0 (.loop ⟨[0, 1, 9, 10, 11], [], 0⟩ (.seq (.reg [⟨some 12, none, .bin .lss (.t 11) (.t 10)⟩]) (.seq (.cond (.t 12) (.skip) (.ext 0)) (.seq (.blk 1 (.seq (.reg [⟨some 13, none, .iad 1 (.t 9) (.t 11)⟩, ⟨some 14, none, .load none (.t 13)⟩, ⟨some 8, none, .mov (.t 14)⟩]) (.seq (.reg [⟨some 15, none, .mov (.t 8)⟩, ⟨some 16, none, .mov (.t 0)⟩, ⟨some 17, none, .bin .lss (.t 15) (.t 16)⟩, ⟨some 18, none, .mov (.t 17)⟩, ⟨some 19, some (18, false), .mov (.t 8)⟩, ⟨some 20, some (18, false), .mov (.t 1)⟩, ⟨some 21, some (18, false), .bin .gtr (.t 19) (.t 20)⟩, ⟨some 22, none, .lor (.t 18) (.t 21)⟩]) (.cond (.t 22) (.seq (.reg [⟨some 6, none, .mov (.c (.pv (.bool false)))⟩]) (.ret)) (.skip))))) (.reg [⟨some 23, none, .bin .add (.t 11) (.c (.pv (.int .i64 1)))⟩, ⟨some 11, none, .mov (.t 23)⟩]))))))) (.seq (.reg [⟨some 6, none, .mov (.c (.pv (.bool true)))⟩]) (.ret)))
theorem k_format_within : FnOk Tryd.prog 90 24 c_format_within [.tmp 6] := .mk' (fn := Tryd.f90) rfl rfl (by kernel_rfl) rfl (by kernel_rfl) (by kernel_rfl)
/- "math/bits.Len64" -/
def cs_math_bits_Len64_0 : ByteArray := ⟨#[0, 1, 2, 2, 3, 3, 3, 3, 4, 4, 4, 4, 4, 4, 4, 4, 5, 5, 5, 5, 5, 5, 5, 5, 5, 5, 5, 5, 5, 5, 5, 5, 6, 6, 6, 6, 6, 6, 6, 6, 6, 6, 6, 6, 6, 6, 6, 6, 6, 6, 6, 6, 6, 6, 6, 6, 6, 6, 6, 6, 6, 6, 6, 6, 7, 7, 7, 7, 7, 7, 7, 7, 7, 7, 7, 7, 7, 7, 7, 7, 7, 7, 7, 7, 7, 7, 7, 7, 7, 7, 7, 7, 7, 7, 7, 7, 7, 7, 7, 7, 7, 7, 7, 7, 7, 7, 7, 7, 7, 7, 7, 7, 7, 7, 7, 7, 7, 7, 7, 7, 7, 7, 7, 7, 7, 7, 7, 7, 8, 8, 8, 8, 8, 8, 8, 8, 8, 8, 8, 8, 8, 8, 8, 8, 8, 8, 8, 8, 8, 8, 8, 8, 8, 8, 8, 8, 8, 8, 8, 8, 8, 8, 8, 8, 8, 8, 8, 8, 8, 8, 8, 8, 8, 8, 8, 8, 8, 8, 8, 8, 8, 8, 8, 8, 8, 8, 8, 8, 8, 8, 8, 8, 8, 8, 8, 8, 8, 8, 8, 8, 8, 8, 8, 8, 8, 8, 8, 8, 8, 8, 8, 8, 8, 8, 8, 8, 8, 8, 8, 8, 8, 8, 8, 8, 8, 8, 8, 8, 8, 8, 8, 8, 8, 8, 8, 8, 8, 8, 8, 8, 8, 8, 8, 8, 8, 8, 8, 8, 8, 8, 8, 8, 8, 8, 8, 8]⟩
def c_math_bits_Len64 : C :=
.seq (.reg [⟨some 2, none, .mov (.c (.pv (.int .i64 0)))⟩]) (.seq (.seq (.reg [⟨some 3, none, .mov (.t 0)⟩, ⟨some 4, none, .bin .geq (.t 3) (.c (.pv (.int .u64 4294967296)))⟩]) (.cond (.t 4) (.seq (.reg [⟨some 5, none, .mov (.t 0)⟩, ⟨some 6, none, .bin .shr (.t 5) (.c (.pv (.int .u64 32)))⟩, ⟨some 0, none, .mov (.t 6)⟩]) (.reg [⟨some 2, none, .mov (.c (.pv (.int .i64 32)))⟩])) (.skip))) (.seq (.seq (.reg [⟨some 7, none, .mov (.t 0)⟩, ⟨some 8, none, .bin .geq (.t 7) (.c (.pv (.int .u64 65536)))⟩]) (.cond (.t 8) (.seq (.reg [⟨some 9, none, .mov (.t 0)⟩, ⟨some 10, none, .bin .shr (.t 9) (.c (.pv (.int .u64 16)))⟩, ⟨some 0, none, .mov (.t 10)⟩]) (.reg [⟨some 11, none, .mov (.t 2)⟩, ⟨some 12, none, .bin .add (.t 11) (.c (.pv (.int .i64 16)))⟩, ⟨some 2, none, .mov (.t 12)⟩])) (.skip))) (.seq (.seq (.reg [⟨some 13, none, .mov (.t 0)⟩, ⟨some 14, none, .bin .geq (.t 13) (.c (.pv (.int .u64 256)))⟩]) (.cond (.t 14) (.seq (.reg [⟨some 15, none, .mov (.t 0)⟩, ⟨some 16, none, .bin .shr (.t 15) (.c (.pv (.int .u64 8)))⟩, ⟨some 0, none, .mov (.t 16)⟩]) (.reg [⟨some 17, none, .mov (.t 2)⟩, ⟨some 18, none, .bin .add (.t 17) (.c (.pv (.int .i64 8)))⟩, ⟨some 2, none, .mov (.t 18)⟩])) (.skip))) (.seq (.reg [⟨some 19, none, .mov (.t 2)⟩, ⟨some 20, none, .mov (.t 0)⟩, ⟨some 21, none, .conv .u8 (.t 20)⟩, ⟨some 22, none, .ixs (.c (.pv (.str cs_math_bits_Len64_0))) (.t 21)⟩, ⟨some 23, none, .conv .i64 (.t 22)⟩, ⟨some 24, none, .bin .add (.t 19) (.t 23)⟩, ⟨some 2, none, .mov (.t 24)⟩]) (.ret)))))
theorem k_math_bits_Len64 : FnOk Tryd.prog 91 25 c_math_bits_Len64 [.tmp 2] := .mk' (fn := Tryd.f91) rfl rfl (by kernel_rfl) rfl (by kernel_rfl) (by kernel_rfl)
/- "retarget/format.shifted$1" -/
def c_format_shifted_1 : C :=
.seq (.reg [⟨some 3, none, .mov (.c (.pv (.int .i64 0)))⟩]) (.seq (.reg [⟨some 6, none, .load none (.t 1)⟩, ⟨some 7, none, .len (.t 6)⟩, ⟨some 8, none, .mov (.c (.pv (.int .i64 0)))⟩]) (.blk 0 (.loop ⟨[0, 3, 6, 7, 8], [0, 1, 2], 3⟩ (.seq (.reg [⟨some 9, none, .bin .lss (.t 8) (.t 7)⟩]) (.seq (.cond (.t 9) (.skip) (.ext 0)) (.seq (.blk 1 (.seq (.reg [⟨some 10, none, .iad 2 (.t 6) (.t 8)⟩, ⟨some 11, none, .load (some 2) (.t 10)⟩, ⟨some 5, none, .alloc [.pv (.int .i64 0), .pv (.int .i64 0)]⟩, ⟨none, none, .store 2 (.t 5) (.t 11)⟩]) (.seq (.seq (.reg [⟨some 12, none, .mov (.t 0)⟩, ⟨some 13, none, .load (some 2) (.t 5)⟩, ⟨some 14, none, .mov (.t 3)⟩, ⟨some 15, none, .callv (.t 12) [(.t 13), (.t 14)]⟩, ⟨some 16, none, .un .not (.t 15)⟩]) (.cond (.t 16) (.ret) (.skip))) (.reg [⟨some 17, none, .mov (.t 3)⟩, ⟨some 18, none, .fad 1 (.t 5)⟩, ⟨some 19, none, .load none (.t 18)⟩, ⟨some 20, none, .bin .add (.t 17) (.t 19)⟩, ⟨some 3, none, .mov (.t 20)⟩])))) (.reg [⟨some 21, none, .bin .add (.t 8) (.c (.pv (.int .i64 1)))⟩, ⟨some 8, none, .mov (.t 21)⟩])))))))
theorem k_format_shifted_1 : FnOk Tryd.prog 92 22 c_format_shifted_1 [] := .mk' (fn := Tryd.f92) rfl rfl (by kernel_rfl) rfl (by kernel_rfl) (by kernel_rfl)
/- "retarget/format.shifted$1" -/
def c_format_shifted_1_B : C :=
.seq (.reg [⟨some 3, none, .mov (.c (.pv (.int .i64 0)))⟩]) (.seq (.reg [⟨some 6, none, .load none (.t 1)⟩, ⟨some 7, none, .len (.t 6)⟩, ⟨some 8, none, .mov (.c (.pv (.int .i64 0)))⟩]) (.blk 0 (.loop ⟨[0, 3, 6, 7, 8], [0, 1, 2, 3], 4⟩ (.seq (.reg [⟨some 9, none, .bin .lss (.t 8) (.t 7)⟩]) (.seq (.cond (.t 9) (.skip) (.ext 0)) (.seq (.blk 1 (.seq (.reg [⟨some 10, none, .iad 2 (.t 6) (.t 8)⟩, ⟨some 11, none, .load (some 2) (.t 10)⟩, ⟨some 5, none, .alloc [.pv (.int .i64 0), .pv (.int .i64 0)]⟩, ⟨none, none, .store 2 (.t 5) (.t 11)⟩]) (.seq (.seq (.reg [⟨some 12, none, .mov (.t 0)⟩, ⟨some 13, none, .load (some 2) (.t 5)⟩, ⟨some 14, none, .mov (.t 3)⟩, ⟨some 15, none, .callv (.t 12) [(.t 13), (.t 14)]⟩, ⟨some 16, none, .un .not (.t 15)⟩]) (.cond (.t 16) (.ret) (.skip))) (.reg [⟨some 17, none, .mov (.t 3)⟩, ⟨some 18, none, .fad 1 (.t 5)⟩, ⟨some 19, none, .load none (.t 18)⟩, ⟨some 20, none, .bin .add (.t 17) (.t 19)⟩, ⟨some 3, none, .mov (.t 20)⟩])))) (.reg [⟨some 21, none, .bin .add (.t 8) (.c (.pv (.int .i64 1)))⟩, ⟨some 8, none, .mov (.t 21)⟩])))))))
theorem k_format_shifted_1_B : FnOk Tryd.prog 92 22 c_format_shifted_1_B [] := .mk' (fn := Tryd.f92) rfl rfl (by kernel_rfl) rfl (by kernel_rfl) (by kernel_rfl)
end Go.Proofs.YthocoandbiaoiaaDoorV

namespace Go.Proofs.YthocoandbiaoiaaDoorV
open Go
set_option maxRecDepth 100000
/- "retarget/bits.Name" -/
def c_bits_Name : C :=
.seq (.reg [⟨some 2, none, .mov (.c (.pv (.bool false)))⟩]) (.seq (.seq (.reg [⟨some 6, none, .mov (.t 0)⟩, ⟨some 7, none, .lens (.t 6)⟩, ⟨some 8, none, .bin .lss (.t 7) (.c (.pv (.int .i64 1)))⟩, ⟨some 9, none, .mov (.t 8)⟩, ⟨some 10, some (9, false), .mov (.t 0)⟩, ⟨some 11, some (9, false), .lens (.t 10)⟩, ⟨some 12, some (9, false), .bin .gtr (.t 11) (.c (.pv (.int .i64 24)))⟩, ⟨some 13, none, .lor (.t 9) (.t 12)⟩]) (.cond (.t 13) (.seq (.reg [⟨some 2, none, .mov (.c (.pv (.bool false)))⟩]) (.ret)) (.skip))) (.seq (.seq (.reg [⟨some 14, none, .mov (.t 0)⟩, ⟨some 15, none, .lens (.t 14)⟩, ⟨some 16, none, .mov (.c (.pv (.int .i64 0)))⟩]) (.blk 0 (.loop ⟨[0, 15, 16], [], 0⟩ (.seq (.reg [⟨some 17, none, .bin .lss (.t 16) (.t 15)⟩]) (.seq (.cond (.t 17) (.skip) (.ext 0)) (.seq (.blk 1 (.seq (.reg [⟨some 18, none, .mov (.t 16)⟩, ⟨some 3, none, .mov (.t 18)⟩]) (.seq (.reg [⟨some 19, none, .mov (.t 0)⟩, ⟨some 20, none, .mov (.t 3)⟩, ⟨some 21, none, .ixs (.t 19) (.t 20)⟩, ⟨some 4, none, .mov (.t 21)⟩]) (.seq (.reg [⟨some 22, none, .mov (.t 4)⟩, ⟨some 23, none, .bin .geq (.t 22) (.c (.pv (.int .u8 97)))⟩, ⟨some 24, none, .mov (.t 23)⟩, ⟨some 25, some (24, true), .mov (.t 4)⟩, ⟨some 26, some (24, true), .bin .leq (.t 25) (.c (.pv (.int .u8 122)))⟩, ⟨some 27, none, .land (.t 24) (.t 26)⟩, ⟨some 28, none, .mov (.t 27)⟩, ⟨some 29, some (28, false), .mov (.t 4)⟩, ⟨some 30, some (28, false), .bin .geq (.t 29) (.c (.pv (.int .u8 65)))⟩, ⟨some 31, some (28, false), .mov (.t 30)⟩, ⟨some 32, some (31, true), .mov (.t 4)⟩, ⟨some 33, some (31, true), .bin .leq (.t 32) (.c (.pv (.int .u8 90)))⟩, ⟨some 34, some (28, false), .land (.t 31) (.t 33)⟩, ⟨some 35, none, .lor (.t 28) (.t 34)⟩, ⟨some 5, none, .mov (.t 35)⟩]) (.seq (.reg [⟨some 36, none, .mov (.t 5)⟩, ⟨some 37, none, .un .not (.t 36)⟩, ⟨some 38, none, .mov (.t 37)⟩, ⟨some 39, some (38, true), .mov (.t 3)⟩, ⟨some 40, some (38, true), .bin .eql (.t 39) (.c (.pv (.int .i64 0)))⟩, ⟨some 41, some (38, true), .mov (.t 40)⟩, ⟨some 42, some (41, false), .mov (.t 4)⟩, ⟨some 43, some (41, false), .bin .neq (.t 42) (.c (.pv (.int .u8 95)))⟩, ⟨some 44, some (41, false), .mov (.t 43)⟩, ⟨some 45, some (44, true), .mov (.t 4)⟩, ⟨some 46, some (44, true), .bin .lss (.t 45) (.c (.pv (.int .u8 48)))⟩, ⟨some 47, some (44, true), .mov (.t 46)⟩, ⟨some 48, some (47, false), .mov (.t 4)⟩, ⟨some 49, some (47, false), .bin .gtr (.t 48) (.c (.pv (.int .u8 57)))⟩, ⟨some 50, some (44, true), .lor (.t 47) (.t 49)⟩, ⟨some 51, some (41, false), .land (.t 44) (.t 50)⟩, ⟨some 52, some (38, true), .lor (.t 41) (.t 51)⟩, ⟨some 53, none, .land (.t 38) (.t 52)⟩]) (.cond (.t 53) (.seq (.reg [⟨some 2, none, .mov (.c (.pv (.bool false)))⟩]) (.ret)) (.skip))))))) (.reg [⟨some 54, none, .bin .add (.t 16) (.c (.pv (.int .i64 1)))⟩, ⟨some 16, none, .mov (.t 54)⟩]))))))) (.seq (.reg [⟨some 2, none, .mov (.c (.pv (.bool true)))⟩]) (.ret))))
theorem k_bits_Name : FnOk Tryd.prog 35 55 c_bits_Name [.tmp 2] := .mk' (fn := Tryd.f35) rfl rfl (by kernel_rfl) rfl (by kernel_rfl) (by kernel_rfl)
/- "slices.Contains[[]int,int]" -/
def c_slices_Contains_int_int : C :=
.seq (.reg [⟨some 4, none, .mov (.c (.pv (.bool false)))⟩]) (.seq (.reg [⟨some 5, none, .mov (.t 0)⟩, ⟨some 6, none, .mov (.t 1)⟩, ⟨some 7, none, .callf 78 [(.t 5), (.t 6)]⟩, ⟨some 8, none, .bin .geq (.t 7) (.c (.pv (.int .i64 0)))⟩, ⟨some 4, none, .mov (.t 8)⟩]) (.ret))
theorem k_slices_Contains_int_int : FnOk Tryd.prog 57 9 c_slices_Contains_int_int [.tmp 4] := .mk' (fn := Tryd.f57) rfl rfl (by kernel_rfl) rfl (by kernel_rfl) (by kernel_rfl)
/- "slices.Contains[[]string,string]" -/
def c_slices_Contains_string_string : C :=
.seq (.reg [⟨some 4, none, .mov (.c (.pv (.bool false)))⟩]) (.seq (.reg [⟨some 5, none, .mov (.t 0)⟩, ⟨some 6, none, .mov (.t 1)⟩, ⟨some 7, none, .callf 79 [(.t 5), (.t 6)]⟩, ⟨some 8, none, .bin .geq (.t 7) (.c (.pv (.int .i64 0)))⟩, ⟨some 4, none, .mov (.t 8)⟩]) (.ret))
theorem k_slices_Contains_string_string : FnOk Tryd.prog 58 9 c_slices_Contains_string_string [.tmp 4] := .mk' (fn := Tryd.f58) rfl rfl (by kernel_rfl) rfl (by kernel_rfl) (by kernel_rfl)
/- "retarget/bits.Mask" -/
def c_bits_Mask : C :=
.seq (.reg [⟨some 2, none, .mov (.c (.pv (.int .u64 0)))⟩]) (.seq (.seq (.reg [⟨some 3, none, .mov (.t 0)⟩, ⟨some 4, none, .callf 80 [(.t 3)]⟩, ⟨some 5, none, .un .not (.t 4)⟩]) (.cond (.t 5) (.seq (.reg [⟨some 2, none, .mov (.c (.pv (.int .u64 0)))⟩]) (.ret)) (.skip))) (.seq (.reg [⟨some 6, none, .mov (.t 0)⟩, ⟨some 7, none, .bin .sub (.c (.pv (.int .i64 64))) (.t 6)⟩, ⟨some 8, none, .bin .shr (.c (.pv (.int .u64 18446744073709551615))) (.t 7)⟩, ⟨some 2, none, .mov (.t 8)⟩]) (.ret)))
theorem k_bits_Mask : FnOk Tryd.prog 59 9 c_bits_Mask [.tmp 2] := .mk' (fn := Tryd.f59) rfl rfl (by kernel_rfl) rfl (by kernel_rfl) (by kernel_rfl)
/- "retarget/retargetref01.Name" -/
def c_retargetref01_Name : C :=
.seq (.reg [⟨some 2, none, .mov (.c (.pv (.bool false)))⟩]) (.seq (.seq (.reg [⟨some 7, none, .mov (.t 0)⟩, ⟨some 8, none, .lens (.t 7)⟩, ⟨some 9, none, .bin .eql (.t 8) (.c (.pv (.int .i64 0)))⟩, ⟨some 10, none, .mov (.t 9)⟩, ⟨some 11, some (10, false), .mov (.t 0)⟩, ⟨some 12, some (10, false), .lens (.t 11)⟩, ⟨some 13, some (10, false), .bin .gtr (.t 12) (.c (.pv (.int .i64 24)))⟩, ⟨some 14, none, .lor (.t 10) (.t 13)⟩]) (.cond (.t 14) (.seq (.reg [⟨some 2, none, .mov (.c (.pv (.bool false)))⟩]) (.ret)) (.skip))) (.seq (.seq (.reg [⟨some 3, none, .mov (.c (.pv (.int .i64 0)))⟩]) (.blk 0 (.loop ⟨[0, 3], [], 0⟩ (.seq (.seq (.reg [⟨some 15, none, .mov (.t 3)⟩, ⟨some 16, none, .mov (.t 0)⟩, ⟨some 17, none, .lens (.t 16)⟩, ⟨some 18, none, .bin .lss (.t 15) (.t 17)⟩]) (.cond (.t 18) (.skip) (.ext 0))) (.seq (.blk 1 (.seq (.reg [⟨some 21, none, .mov (.t 0)⟩, ⟨some 22, none, .mov (.t 3)⟩, ⟨some 23, none, .ixs (.t 21) (.t 22)⟩, ⟨some 4, none, .mov (.t 23)⟩]) (.seq (.reg [⟨some 24, none, .mov (.t 4)⟩, ⟨some 25, none, .bin .geq (.t 24) (.c (.pv (.int .u8 97)))⟩, ⟨some 26, none, .mov (.t 25)⟩, ⟨some 27, some (26, true), .mov (.t 4)⟩, ⟨some 28, some (26, true), .bin .leq (.t 27) (.c (.pv (.int .u8 122)))⟩, ⟨some 29, none, .land (.t 26) (.t 28)⟩, ⟨some 30, none, .mov (.t 29)⟩, ⟨some 31, some (30, false), .mov (.t 4)⟩, ⟨some 32, some (30, false), .bin .geq (.t 31) (.c (.pv (.int .u8 65)))⟩, ⟨some 33, some (30, false), .mov (.t 32)⟩, ⟨some 34, some (33, true), .mov (.t 4)⟩, ⟨some 35, some (33, true), .bin .leq (.t 34) (.c (.pv (.int .u8 90)))⟩, ⟨some 36, some (30, false), .land (.t 33) (.t 35)⟩, ⟨some 37, none, .lor (.t 30) (.t 36)⟩, ⟨some 5, none, .mov (.t 37)⟩]) (.seq (.reg [⟨some 38, none, .mov (.t 4)⟩, ⟨some 39, none, .bin .geq (.t 38) (.c (.pv (.int .u8 48)))⟩, ⟨some 40, none, .mov (.t 39)⟩, ⟨some 41, some (40, true), .mov (.t 4)⟩, ⟨some 42, some (40, true), .bin .leq (.t 41) (.c (.pv (.int .u8 57)))⟩, ⟨some 43, none, .land (.t 40) (.t 42)⟩, ⟨some 44, none, .mov (.t 43)⟩, ⟨some 45, some (44, false), .mov (.t 4)⟩, ⟨some 46, some (44, false), .bin .eql (.t 45) (.c (.pv (.int .u8 95)))⟩, ⟨some 47, none, .lor (.t 44) (.t 46)⟩, ⟨some 6, none, .mov (.t 47)⟩]) (.seq (.reg [⟨some 48, none, .mov (.t 5)⟩, ⟨some 49, none, .un .not (.t 48)⟩, ⟨some 50, none, .mov (.t 49)⟩, ⟨some 51, some (50, true), .mov (.t 3)⟩, ⟨some 52, some (50, true), .bin .eql (.t 51) (.c (.pv (.int .i64 0)))⟩, ⟨some 53, some (50, true), .mov (.t 52)⟩, ⟨some 54, some (53, false), .mov (.t 6)⟩, ⟨some 55, some (53, false), .un .not (.t 54)⟩, ⟨some 56, some (50, true), .lor (.t 53) (.t 55)⟩, ⟨some 57, none, .land (.t 50) (.t 56)⟩]) (.cond (.t 57) (.seq (.reg [⟨some 2, none, .mov (.c (.pv (.bool false)))⟩]) (.ret)) (.skip))))))) (.reg [⟨some 19, none, .mov (.t 3)⟩, ⟨some 20, none, .bin .add (.t 19) (.c (.pv (.int .i64 1)))⟩, ⟨some 3, none, .mov (.t 20)⟩])))))) (.seq (.reg [⟨some 2, none, .mov (.c (.pv (.bool true)))⟩]) (.ret))))
theorem k_retargetref01_Name : FnOk Tryd.prog 65 58 c_retargetref01_Name [.tmp 2] := .mk' (fn := Tryd.f65) rfl rfl (by kernel_rfl) rfl (by kernel_rfl) (by kernel_rfl)
/- "slices.Max[[]int,int]" -/
def c_slices_Max_int_int : C :=
.seq (.reg [⟨some 2, none, .mov (.c (.pv (.int .i64 0)))⟩]) (.seq (.seq (.reg [⟨some 5, none, .mov (.t 0)⟩, ⟨some 6, none, .len (.t 5)⟩, ⟨some 7, none, .bin .lss (.t 6) (.c (.pv (.int .i64 1)))⟩]) (.cond (.t 7) (.reg [⟨some 8, none, .bad⟩, ⟨none, none, .bad⟩]) (.skip))) (.seq (.reg [⟨some 9, none, .mov (.t 0)⟩, ⟨some 10, none, .iad 1 (.t 9) (.c (.pv (.int .i64 0)))⟩, ⟨some 11, none, .load none (.t 10)⟩, ⟨some 3, none, .mov (.t 11)⟩]) (.seq (.seq (.reg [⟨some 4, none, .mov (.c (.pv (.int .i64 1)))⟩]) (.blk 0 (.loop ⟨[0, 3, 4], [], 0⟩ (.seq (.seq (.reg [⟨some 12, none, .mov (.t 4)⟩, ⟨some 13, none, .mov (.t 0)⟩, ⟨some 14, none, .len (.t 13)⟩, ⟨some 15, none, .bin .lss (.t 12) (.t 14)⟩]) (.cond (.t 15) (.skip) (.ext 0))) (.seq (.blk 1 (.reg [⟨some 18, none, .mov (.t 3)⟩, ⟨some 19, none, .mov (.t 0)⟩, ⟨some 20, none, .mov (.t 4)⟩, ⟨some 21, none, .iad 1 (.t 19) (.t 20)⟩, ⟨some 22, none, .load none (.t 21)⟩, ⟨some 23, none, .mx (.t 18) (.t 22)⟩, ⟨some 3, none, .mov (.t 23)⟩])) (.reg [⟨some 16, none, .mov (.t 4)⟩, ⟨some 17, none, .bin .add (.t 16) (.c (.pv (.int .i64 1)))⟩, ⟨some 4, none, .mov (.t 17)⟩])))))) (.seq (.reg [⟨some 24, none, .mov (.t 3)⟩, ⟨some 2, none, .mov (.t 24)⟩]) (.ret)))))
theorem k_slices_Max_int_int : FnOk Tryd.prog 77 25 c_slices_Max_int_int [.tmp 2] := .mk' (fn := Tryd.f77) rfl rfl (by kernel_rfl) rfl (by kernel_rfl) (by kernel_rfl)
/- "slices.Index[[]int,int]" -/
def c_slices_Index_int_int : C :=
.seq (.reg [⟨some 4, none, .mov (.c (.pv (.int .i64 0)))⟩]) (.seq (.seq (.reg [⟨some 6, none, .mov (.t 0)⟩, ⟨some 7, none, .len (.t 6)⟩, ⟨some 8, none, .mov (.c (.pv (.int .i64 0)))⟩]) (.blk 0 (.loop ⟨[0, 1, 7, 8], [], 0⟩ (.seq (.reg [⟨some 9, none, .bin .lss (.t 8) (.t 7)⟩]) (.seq (.cond (.t 9) (.skip) (.ext 0)) (.seq (.blk 1 (.seq (.reg [⟨some 10, none, .mov (.t 8)⟩, ⟨some 5, none, .mov (.t 10)⟩]) (.seq (.reg [⟨some 11, none, .mov (.t 1)⟩, ⟨some 12, none, .mov (.t 0)⟩, ⟨some 13, none, .mov (.t 5)⟩, ⟨some 14, none, .iad 1 (.t 12) (.t 13)⟩, ⟨some 15, none, .load none (.t 14)⟩, ⟨some 16, none, .bin .eql (.t 11) (.t 15)⟩]) (.cond (.t 16) (.seq (.reg [⟨some 17, none, .mov (.t 5)⟩, ⟨some 4, none, .mov (.t 17)⟩]) (.ret)) (.skip))))) (.reg [⟨some 18, none, .bin .add (.t 8) (.c (.pv (.int .i64 1)))⟩, ⟨some 8, none, .mov (.t 18)⟩]))))))) (.seq (.reg [⟨some 4, none, .mov (.c (.pv (.int .i64 (-1))))⟩]) (.ret)))
theorem k_slices_Index_int_int : FnOk Tryd.prog 78 19 c_slices_Index_int_int [.tmp 4] := .mk' (fn := Tryd.f78) rfl rfl (by kernel_rfl) rfl (by kernel_rfl) (by kernel_rfl)
/- "slices.Index[[]string,string]" -/
def c_slices_Index_string_string : C :=
.seq (.reg [⟨some 4, none, .mov (.c (.pv (.int .i64 0)))⟩]) (.seq (.seq (.reg [⟨some 6, none, .mov (.t 0)⟩, ⟨some 7, none, .len (.t 6)⟩, ⟨some 8, none, .mov (.c (.pv (.int .i64 0)))⟩]) (.blk 0 (.loop ⟨[0, 1, 7, 8], [], 0⟩ (.seq (.reg [⟨some 9, none, .bin .lss (.t 8) (.t 7)⟩]) (.seq (.cond (.t 9) (.skip) (.ext 0)) (.seq (.blk 1 (.seq (.reg [⟨some 10, none, .mov (.t 8)⟩, ⟨some 5, none, .mov (.t 10)⟩]) (.seq (.reg [⟨some 11, none, .mov (.t 1)⟩, ⟨some 12, none, .mov (.t 0)⟩, ⟨some 13, none, .mov (.t 5)⟩, ⟨some 14, none, .iad 1 (.t 12) (.t 13)⟩, ⟨some 15, none, .load none (.t 14)⟩, ⟨some 16, none, .bin .eql (.t 11) (.t 15)⟩]) (.cond (.t 16) (.seq (.reg [⟨some 17, none, .mov (.t 5)⟩, ⟨some 4, none, .mov (.t 17)⟩]) (.ret)) (.skip))))) (.reg [⟨some 18, none, .bin .add (.t 8) (.c (.pv (.int .i64 1)))⟩, ⟨some 8, none, .mov (.t 18)⟩]))))))) (.seq (.reg [⟨some 4, none, .mov (.c (.pv (.int .i64 (-1))))⟩]) (.ret)))
theorem k_slices_Index_string_string : FnOk Tryd.prog 79 19 c_slices_Index_string_string [.tmp 4] := .mk' (fn := Tryd.f79) rfl rfl (by kernel_rfl) rfl (by kernel_rfl) (by kernel_rfl)
/- "retarget/bits.wide" -/
def c_bits_wide : C :=
.seq (.reg [⟨some 2, none, .mov (.c (.pv (.bool false)))⟩]) (.seq (.reg [⟨some 3, none, .mov (.t 0)⟩, ⟨some 4, none, .bin .geq (.t 3) (.c (.pv (.int .i64 1)))⟩, ⟨some 5, none, .mov (.t 4)⟩, ⟨some 6, some (5, true), .mov (.t 0)⟩, ⟨some 7, some (5, true), .bin .leq (.t 6) (.c (.pv (.int .i64 64)))⟩, ⟨some 8, none, .land (.t 5) (.t 7)⟩, ⟨some 2, none, .mov (.t 8)⟩]) (.ret))
theorem k_bits_wide : FnOk Tryd.prog 80 9 c_bits_wide [.tmp 2] := .mk' (fn := Tryd.f80) rfl rfl (by kernel_rfl) rfl (by kernel_rfl) (by kernel_rfl)
/- "retarget/bits.Ok" -/
def c_bits_Ok : C :=
.seq (.reg [⟨some 4, none, .mov (.c (.pv (.bool false)))⟩]) (.seq (.reg [⟨some 5, none, .mov (.t 0)⟩, ⟨some 6, none, .callf 80 [(.t 5)]⟩, ⟨some 7, none, .mov (.t 6)⟩, ⟨some 8, some (7, true), .mov (.t 1)⟩, ⟨some 9, some (7, true), .mov (.t 0)⟩, ⟨some 10, some (7, true), .callf 59 [(.t 9)]⟩, ⟨some 11, some (7, true), .bin .leq (.t 8) (.t 10)⟩, ⟨some 12, none, .land (.t 7) (.t 11)⟩, ⟨some 4, none, .mov (.t 12)⟩]) (.ret))
theorem k_bits_Ok : FnOk Tryd.prog 112 13 c_bits_Ok [.tmp 4] := .mk' (fn := Tryd.f112) rfl rfl (by kernel_rfl) rfl (by kernel_rfl) (by kernel_rfl)
/- "strings.TrimPrefix" -/
def c_strings_TrimPrefix : C :=
.seq (.reg [⟨some 4, none, .mov (.c (.pv (.str ⟨#[]⟩)))⟩]) (.seq (.reg [⟨some 5, none, .mov (.t 0)⟩, ⟨some 6, none, .mov (.t 1)⟩, ⟨some 7, none, .callf 127 [(.t 5), (.t 6)]⟩, ⟨some 4, none, .mov (.t 7)⟩]) (.ret))
theorem k_strings_TrimPrefix : FnOk Tryd.prog 119 8 c_strings_TrimPrefix [.tmp 4] := .mk' (fn := Tryd.f119) rfl rfl (by kernel_rfl) rfl (by kernel_rfl) (by kernel_rfl)
/- "slices.ContainsFunc[[]retarget/api.Term,retarget/api.Term]" -/
def c_slices_ContainsFunc_api_Term_api_Term : C :=
.seq (.reg [⟨some 4, none, .mov (.c (.pv (.bool false)))⟩]) (.seq (.reg [⟨some 5, none, .mov (.t 0)⟩, ⟨some 6, none, .mov (.t 1)⟩, ⟨some 7, none, .callf 128 [(.t 5), (.t 6)]⟩, ⟨some 8, none, .bin .geq (.t 7) (.c (.pv (.int .i64 0)))⟩, ⟨some 4, none, .mov (.t 8)⟩]) (.ret))
theorem k_slices_ContainsFunc_api_Term_api_Term : FnOk Tryd.prog 120 9 c_slices_ContainsFunc_api_Term_api_Term [.tmp 4] := .mk' (fn := Tryd.f120) rfl rfl (by kernel_rfl) rfl (by kernel_rfl) (by kernel_rfl)
/- "retarget/retargetref01.Wide" -/
def c_retargetref01_Wide : C :=
.seq (.reg [⟨some 2, none, .mov (.c (.pv (.bool false)))⟩]) (.seq (.reg [⟨some 3, none, .mov (.t 0)⟩, ⟨some 4, none, .bin .geq (.t 3) (.c (.pv (.int .i64 1)))⟩, ⟨some 5, none, .mov (.t 4)⟩, ⟨some 6, some (5, true), .mov (.t 0)⟩, ⟨some 7, some (5, true), .bin .leq (.t 6) (.c (.pv (.int .i64 64)))⟩, ⟨some 8, none, .land (.t 5) (.t 7)⟩, ⟨some 2, none, .mov (.t 8)⟩]) (.ret))
theorem k_retargetref01_Wide : FnOk Tryd.prog 123 9 c_retargetref01_Wide [.tmp 2] := .mk' (fn := Tryd.f123) rfl rfl (by kernel_rfl) rfl (by kernel_rfl) (by kernel_rfl)
/- "retarget/retargetref01.Ok" -/
def c_retargetref01_Ok : C :=
.seq (.reg [⟨some 4, none, .mov (.c (.pv (.bool false)))⟩]) (.seq (.reg [⟨some 5, none, .mov (.t 0)⟩, ⟨some 6, none, .callf 123 [(.t 5)]⟩, ⟨some 7, none, .mov (.t 6)⟩, ⟨some 8, some (7, true), .mov (.t 0)⟩, ⟨some 9, some (7, true), .bin .eql (.t 8) (.c (.pv (.int .i64 64)))⟩, ⟨some 10, some (7, true), .mov (.t 9)⟩, ⟨some 11, some (10, false), .mov (.t 1)⟩, ⟨some 12, some (10, false), .mov (.t 0)⟩, ⟨some 13, some (10, false), .callf 129 [(.t 12)]⟩, ⟨some 14, some (10, false), .bin .lss (.t 11) (.t 13)⟩, ⟨some 15, some (7, true), .lor (.t 10) (.t 14)⟩, ⟨some 16, none, .land (.t 7) (.t 15)⟩, ⟨some 4, none, .mov (.t 16)⟩]) (.ret))
theorem k_retargetref01_Ok : FnOk Tryd.prog 124 17 c_retargetref01_Ok [.tmp 4] := .mk' (fn := Tryd.f124) rfl rfl (by kernel_rfl) rfl (by kernel_rfl) (by kernel_rfl)
/- "internal/stringslite.TrimPrefix" -/
def c_internal_stringslite_TrimPrefix : C :=
.seq (.reg [⟨some 4, none, .mov (.c (.pv (.str ⟨#[]⟩)))⟩]) (.seq (.seq (.reg [⟨some 5, none, .mov (.t 0)⟩, ⟨some 6, none, .mov (.t 1)⟩, ⟨some 7, none, .callf 130 [(.t 5), (.t 6)]⟩]) (.cond (.t 7) (.seq (.reg [⟨some 8, none, .mov (.t 0)⟩, ⟨some 9, none, .mov (.t 1)⟩, ⟨some 10, none, .lens (.t 9)⟩, ⟨some 11, none, .cuts (.t 8) (some (.t 10)) none⟩, ⟨some 4, none, .mov (.t 11)⟩]) (.ret)) (.skip))) (.seq (.reg [⟨some 12, none, .mov (.t 0)⟩, ⟨some 4, none, .mov (.t 12)⟩]) (.ret)))
theorem k_internal_stringslite_TrimPrefix : FnOk Tryd.prog 127 13 c_internal_stringslite_TrimPrefix [.tmp 4] := .mk' (fn := Tryd.f127) rfl rfl (by kernel_rfl) rfl (by kernel_rfl) (by kernel_rfl)
/- "slices.IndexFunc[[]retarget/api.Term,retarget/api.Term]" -/
def c_slices_IndexFunc_api_Term_api_Term : C :=
.seq (.reg [⟨some 4, none, .mov (.c (.pv (.int .i64 0)))⟩]) (.seq (.seq (.reg [⟨some 6, none, .mov (.t 0)⟩, ⟨some 7, none, .len (.t 6)⟩, ⟨some 8, none, .mov (.c (.pv (.int .i64 0)))⟩]) (.blk 0 (.loop ⟨[0, 1, 7, 8], [0], 1⟩ (.seq (.reg [⟨some 9, none, .bin .lss (.t 8) (.t 7)⟩]) (.seq (.cond (.t 9) (.skip) (.ext 0)) (.seq (.blk 1 (.seq (.reg [⟨some 10, none, .mov (.t 8)⟩, ⟨some 5, none, .mov (.t 10)⟩]) (.seq (.reg [⟨some 11, none, .mov (.t 1)⟩, ⟨some 12, none, .mov (.t 0)⟩, ⟨some 13, none, .mov (.t 5)⟩, ⟨some 14, none, .iad 6 (.t 12) (.t 13)⟩, ⟨some 15, none, .load (some 6) (.t 14)⟩, ⟨some 16, none, .callv (.t 11) [(.t 15)]⟩]) (.cond (.t 16) (.seq (.reg [⟨some 17, none, .mov (.t 5)⟩, ⟨some 4, none, .mov (.t 17)⟩]) (.ret)) (.skip))))) (.reg [⟨some 18, none, .bin .add (.t 8) (.c (.pv (.int .i64 1)))⟩, ⟨some 8, none, .mov (.t 18)⟩]))))))) (.seq (.reg [⟨some 4, none, .mov (.c (.pv (.int .i64 (-1))))⟩]) (.ret)))
theorem k_slices_IndexFunc_api_Term_api_Term : FnOk Tryd.prog 128 19 c_slices_IndexFunc_api_Term_api_Term [.tmp 4] := .mk' (fn := Tryd.f128) rfl rfl (by kernel_rfl) rfl (by kernel_rfl) (by kernel_rfl)
/- "retarget/retargetref01.Power" -/
def c_retargetref01_Power : C :=
.seq (.reg [⟨some 2, none, .mov (.c (.pv (.int .u64 0)))⟩]) (.seq (.reg [⟨some 3, none, .mov (.c (.pv (.int .u64 1)))⟩]) (.seq (.seq (.reg [⟨some 4, none, .mov (.c (.pv (.int .i64 0)))⟩]) (.blk 0 (.loop ⟨[0, 3, 4], [], 0⟩ (.seq (.seq (.reg [⟨some 5, none, .mov (.t 4)⟩, ⟨some 6, none, .mov (.t 0)⟩, ⟨some 7, none, .bin .lss (.t 5) (.t 6)⟩]) (.cond (.t 7) (.skip) (.ext 0))) (.seq (.blk 1 (.reg [⟨some 10, none, .mov (.t 3)⟩, ⟨some 11, none, .mov (.t 3)⟩, ⟨some 12, none, .bin .add (.t 10) (.t 11)⟩, ⟨some 3, none, .mov (.t 12)⟩])) (.reg [⟨some 8, none, .mov (.t 4)⟩, ⟨some 9, none, .bin .add (.t 8) (.c (.pv (.int .i64 1)))⟩, ⟨some 4, none, .mov (.t 9)⟩])))))) (.seq (.reg [⟨some 13, none, .mov (.t 3)⟩, ⟨some 2, none, .mov (.t 13)⟩]) (.ret))))
theorem k_retargetref01_Power : FnOk Tryd.prog 129 14 c_retargetref01_Power [.tmp 2] := .mk' (fn := Tryd.f129) rfl rfl (by kernel_rfl) rfl (by kernel_rfl) (by kernel_rfl)
/- "internal/stringslite.HasPrefix" -/
def c_internal_stringslite_HasPrefix : C :=
.seq (.reg [⟨some 4, none, .mov (.c (.pv (.bool false)))⟩]) (.seq (.reg [⟨some 5, none, .mov (.t 0)⟩, ⟨some 6, none, .lens (.t 5)⟩, ⟨some 7, none, .mov (.t 1)⟩, ⟨some 8, none, .lens (.t 7)⟩, ⟨some 9, none, .bin .geq (.t 6) (.t 8)⟩, ⟨some 10, none, .mov (.t 9)⟩, ⟨some 11, some (10, true), .mov (.t 0)⟩, ⟨some 12, some (10, true), .mov (.t 1)⟩, ⟨some 13, some (10, true), .lens (.t 12)⟩, ⟨some 14, some (10, true), .cuts (.t 11) none (some (.t 13))⟩, ⟨some 15, some (10, true), .mov (.t 1)⟩, ⟨some 16, some (10, true), .bin .eql (.t 14) (.t 15)⟩, ⟨some 17, none, .land (.t 10) (.t 16)⟩, ⟨some 4, none, .mov (.t 17)⟩]) (.ret))
theorem k_internal_stringslite_HasPrefix : FnOk Tryd.prog 130 18 c_internal_stringslite_HasPrefix [.tmp 4] := .mk' (fn := Tryd.f130) rfl rfl (by kernel_rfl) rfl (by kernel_rfl) (by kernel_rfl)
end Go.Proofs.YthocoandbiaoiaaDoorV

namespace Go.Proofs.YthocoandbiaoiaaDoorV
open Go
def ints (l : List Int) : List PV := l.map (PV.int .i64)
def words (l : List Int) : List PV := l.map (PV.int .u64)
def bytes (l : List Int) : List PV := l.map (PV.int .u8)
def strs (l : List ByteArray) : List PV := l.map PV.str
@[simp] theorem ints_length {l} : (ints l).length = l.length := by simp [ints]
@[simp] theorem words_length {l} : (words l).length = l.length := by simp [words]
@[simp] theorem bytes_length {l} : (bytes l).length = l.length := by simp [bytes]
@[simp] theorem strs_length {l} : (strs l).length = l.length := by simp [strs]
structure Tm where
  op : Int
  width : Int
  val : Int
  name : ByteArray
  low : Int
  sub : List Tm
deriving Inhabited
def Tm.pv : Tm → PV
  | ⟨op', width', val', name', low', sub'⟩ => .agg [.int .u8 op', .int .i64 width', .int .u64 val', .str name', .int .i64 low', .lst 6 (sub'.attach.map fun x => Tm.pv x.1)]
decreasing_by
  have := List.sizeOf_lt_of_mem x.2; simp_wf; omega
theorem Tm.pv_eq (t : Tm) : t.pv = .agg [.int .u8 t.op, .int .i64 t.width, .int .u64 t.val, .str t.name, .int .i64 t.low, .lst 6 (t.sub.map Tm.pv)] := by
  cases t; rw [Tm.pv]; simp [List.map_attach_eq_pmap]
@[simp] theorem Tm.cells_pv (t : Tm) : t.pv.cells = [.int .u8 t.op, .int .i64 t.width, .int .u64 t.val, .str t.name, .int .i64 t.low, .lst 6 (t.sub.map Tm.pv)] := by rw [Tm.pv_eq]; rfl
@[simp] theorem Tm.dcells_pv (t : Tm) : dcells (.pv t.pv) = [.pv (.int .u8 t.op), .pv (.int .i64 t.width), .pv (.int .u64 t.val), .pv (.str t.name), .pv (.int .i64 t.low), .pv (.lst 6 (t.sub.map Tm.pv))] := by rw [Tm.pv_eq]; rfl
@[simp] theorem Tm.fold (t : Tm) : PV.agg [.int .u8 t.op, .int .i64 t.width, .int .u64 t.val, .str t.name, .int .i64 t.low, .lst 6 (t.sub.map Tm.pv)] = t.pv := (Tm.pv_eq t).symm
@[simp] theorem Tm.isAg_pv (t : Tm) : DV.isAg (.pv t.pv) = true := by rw [Tm.pv_eq]; rfl
@[simp] theorem Tm.one_pv (t : Tm) : t.pv.one = false := by rw [Tm.pv_eq]; rfl
theorem Tm.wf_pv (t : Tm) : t.pv.wf ↔ (PV.agg [.int .u8 t.op, .int .i64 t.width, .int .u64 t.val, .str t.name, .int .i64 t.low, .lst 6 (t.sub.map Tm.pv)]).wf := by rw [Tm.pv_eq]
def Tm.bx (t : Tm) : Ob := .box [.pv (.int .u8 t.op), .pv (.int .i64 t.width), .pv (.int .u64 t.val), .pv (.str t.name), .pv (.int .i64 t.low), .pv (.lst 6 (t.sub.map Tm.pv))]
structure Reg where
  name : ByteArray
  width : Int
  of : Int
  low : Int
deriving Inhabited, DecidableEq
def Reg.pv (t : Reg) : PV := .agg [.str t.name, .int .i64 t.width, .int .i64 t.of, .int .i64 t.low]
theorem Reg.pv_eq (t : Reg) : t.pv = .agg [.str t.name, .int .i64 t.width, .int .i64 t.of, .int .i64 t.low] := rfl
@[simp] theorem Reg.cells_pv (t : Reg) : t.pv.cells = [.str t.name, .int .i64 t.width, .int .i64 t.of, .int .i64 t.low] := by rw [Reg.pv_eq]; rfl
@[simp] theorem Reg.dcells_pv (t : Reg) : dcells (.pv t.pv) = [.pv (.str t.name), .pv (.int .i64 t.width), .pv (.int .i64 t.of), .pv (.int .i64 t.low)] := by rw [Reg.pv_eq]; rfl
@[simp] theorem Reg.fold (t : Reg) : PV.agg [.str t.name, .int .i64 t.width, .int .i64 t.of, .int .i64 t.low] = t.pv := (Reg.pv_eq t).symm
@[simp] theorem Reg.isAg_pv (t : Reg) : DV.isAg (.pv t.pv) = true := by rw [Reg.pv_eq]; rfl
@[simp] theorem Reg.one_pv (t : Reg) : t.pv.one = false := by rw [Reg.pv_eq]; rfl
theorem Reg.wf_pv (t : Reg) : t.pv.wf ↔ (PV.agg [.str t.name, .int .i64 t.width, .int .i64 t.of, .int .i64 t.low]).wf := by rw [Reg.pv_eq]
def Reg.bx (t : Reg) : Ob := .box [.pv (.str t.name), .pv (.int .i64 t.width), .pv (.int .i64 t.of), .pv (.int .i64 t.low)]
theorem Reg.ext_iff' {a b : Reg} : a = b ↔ a.name = b.name ∧ a.width = b.width ∧ a.of = b.of ∧ a.low = b.low := by cases a; cases b; simp
structure Bank where
  name : ByteArray
  regs : List Int
deriving Inhabited, DecidableEq
def Bank.pv (t : Bank) : PV := .agg [.str t.name, .lst 1 (ints t.regs)]
theorem Bank.pv_eq (t : Bank) : t.pv = .agg [.str t.name, .lst 1 (ints t.regs)] := rfl
@[simp] theorem Bank.cells_pv (t : Bank) : t.pv.cells = [.str t.name, .lst 1 (ints t.regs)] := by rw [Bank.pv_eq]; rfl
@[simp] theorem Bank.dcells_pv (t : Bank) : dcells (.pv t.pv) = [.pv (.str t.name), .pv (.lst 1 (ints t.regs))] := by rw [Bank.pv_eq]; rfl
@[simp] theorem Bank.fold (t : Bank) : PV.agg [.str t.name, .lst 1 (ints t.regs)] = t.pv := (Bank.pv_eq t).symm
@[simp] theorem Bank.isAg_pv (t : Bank) : DV.isAg (.pv t.pv) = true := by rw [Bank.pv_eq]; rfl
@[simp] theorem Bank.one_pv (t : Bank) : t.pv.one = false := by rw [Bank.pv_eq]; rfl
theorem Bank.wf_pv (t : Bank) : t.pv.wf ↔ (PV.agg [.str t.name, .lst 1 (ints t.regs)]).wf := by rw [Bank.pv_eq]
def Bank.bx (t : Bank) : Ob := .box [.pv (.str t.name), .pv (.lst 1 (ints t.regs))]
theorem Bank.ext_iff' {a b : Bank} : a = b ↔ a.name = b.name ∧ a.regs = b.regs := by cases a; cases b; simp
structure Unt where
  name : ByteArray
  count : Int
deriving Inhabited, DecidableEq
def Unt.pv (t : Unt) : PV := .agg [.str t.name, .int .i64 t.count]
theorem Unt.pv_eq (t : Unt) : t.pv = .agg [.str t.name, .int .i64 t.count] := rfl
@[simp] theorem Unt.cells_pv (t : Unt) : t.pv.cells = [.str t.name, .int .i64 t.count] := by rw [Unt.pv_eq]; rfl
@[simp] theorem Unt.dcells_pv (t : Unt) : dcells (.pv t.pv) = [.pv (.str t.name), .pv (.int .i64 t.count)] := by rw [Unt.pv_eq]; rfl
@[simp] theorem Unt.fold (t : Unt) : PV.agg [.str t.name, .int .i64 t.count] = t.pv := (Unt.pv_eq t).symm
@[simp] theorem Unt.isAg_pv (t : Unt) : DV.isAg (.pv t.pv) = true := by rw [Unt.pv_eq]; rfl
@[simp] theorem Unt.one_pv (t : Unt) : t.pv.one = false := by rw [Unt.pv_eq]; rfl
theorem Unt.wf_pv (t : Unt) : t.pv.wf ↔ (PV.agg [.str t.name, .int .i64 t.count]).wf := by rw [Unt.pv_eq]
def Unt.bx (t : Unt) : Ob := .box [.pv (.str t.name), .pv (.int .i64 t.count)]
theorem Unt.ext_iff' {a b : Unt} : a = b ↔ a.name = b.name ∧ a.count = b.count := by cases a; cases b; simp
structure Piece where
  at_ : Int
  len : Int
deriving Inhabited, DecidableEq
def Piece.pv (t : Piece) : PV := .agg [.int .i64 t.at_, .int .i64 t.len]
theorem Piece.pv_eq (t : Piece) : t.pv = .agg [.int .i64 t.at_, .int .i64 t.len] := rfl
@[simp] theorem Piece.cells_pv (t : Piece) : t.pv.cells = [.int .i64 t.at_, .int .i64 t.len] := by rw [Piece.pv_eq]; rfl
@[simp] theorem Piece.dcells_pv (t : Piece) : dcells (.pv t.pv) = [.pv (.int .i64 t.at_), .pv (.int .i64 t.len)] := by rw [Piece.pv_eq]; rfl
@[simp] theorem Piece.fold (t : Piece) : PV.agg [.int .i64 t.at_, .int .i64 t.len] = t.pv := (Piece.pv_eq t).symm
@[simp] theorem Piece.isAg_pv (t : Piece) : DV.isAg (.pv t.pv) = true := by rw [Piece.pv_eq]; rfl
@[simp] theorem Piece.one_pv (t : Piece) : t.pv.one = false := by rw [Piece.pv_eq]; rfl
theorem Piece.wf_pv (t : Piece) : t.pv.wf ↔ (PV.agg [.int .i64 t.at_, .int .i64 t.len]).wf := by rw [Piece.pv_eq]
def Piece.bx (t : Piece) : Ob := .box [.pv (.int .i64 t.at_), .pv (.int .i64 t.len)]
theorem Piece.ext_iff' {a b : Piece} : a = b ↔ a.at_ = b.at_ ∧ a.len = b.len := by cases a; cases b; simp
structure Opnd where
  name : ByteArray
  kind : Int
  bank : Int
  scale : Int
  pieces : List Piece
  tied : Int
deriving Inhabited, DecidableEq
def Opnd.pv (t : Opnd) : PV := .agg [.str t.name, .int .u8 t.kind, .int .i64 t.bank, .int .i64 t.scale, .lst 2 (t.pieces.map Piece.pv), .int .i64 t.tied]
theorem Opnd.pv_eq (t : Opnd) : t.pv = .agg [.str t.name, .int .u8 t.kind, .int .i64 t.bank, .int .i64 t.scale, .lst 2 (t.pieces.map Piece.pv), .int .i64 t.tied] := rfl
@[simp] theorem Opnd.cells_pv (t : Opnd) : t.pv.cells = [.str t.name, .int .u8 t.kind, .int .i64 t.bank, .int .i64 t.scale, .lst 2 (t.pieces.map Piece.pv), .int .i64 t.tied] := by rw [Opnd.pv_eq]; rfl
@[simp] theorem Opnd.dcells_pv (t : Opnd) : dcells (.pv t.pv) = [.pv (.str t.name), .pv (.int .u8 t.kind), .pv (.int .i64 t.bank), .pv (.int .i64 t.scale), .pv (.lst 2 (t.pieces.map Piece.pv)), .pv (.int .i64 t.tied)] := by rw [Opnd.pv_eq]; rfl
@[simp] theorem Opnd.fold (t : Opnd) : PV.agg [.str t.name, .int .u8 t.kind, .int .i64 t.bank, .int .i64 t.scale, .lst 2 (t.pieces.map Piece.pv), .int .i64 t.tied] = t.pv := (Opnd.pv_eq t).symm
@[simp] theorem Opnd.isAg_pv (t : Opnd) : DV.isAg (.pv t.pv) = true := by rw [Opnd.pv_eq]; rfl
@[simp] theorem Opnd.one_pv (t : Opnd) : t.pv.one = false := by rw [Opnd.pv_eq]; rfl
theorem Opnd.wf_pv (t : Opnd) : t.pv.wf ↔ (PV.agg [.str t.name, .int .u8 t.kind, .int .i64 t.bank, .int .i64 t.scale, .lst 2 (t.pieces.map Piece.pv), .int .i64 t.tied]).wf := by rw [Opnd.pv_eq]
def Opnd.bx (t : Opnd) : Ob := .box [.pv (.str t.name), .pv (.int .u8 t.kind), .pv (.int .i64 t.bank), .pv (.int .i64 t.scale), .pv (.lst 2 (t.pieces.map Piece.pv)), .pv (.int .i64 t.tied)]
theorem Opnd.ext_iff' {a b : Opnd} : a = b ↔ a.name = b.name ∧ a.kind = b.kind ∧ a.bank = b.bank ∧ a.scale = b.scale ∧ a.pieces = b.pieces ∧ a.tied = b.tied := by cases a; cases b; simp
structure Eff where
  kind : Int
  operand : Int
  reg : Int
  addr : Tm
  value : Tm
  cond : Tm
deriving Inhabited
def Eff.pv (t : Eff) : PV := .agg [.int .u8 t.kind, .int .i64 t.operand, .int .i64 t.reg, .int .u8 t.addr.op, .int .i64 t.addr.width, .int .u64 t.addr.val, .str t.addr.name, .int .i64 t.addr.low, .lst 6 (t.addr.sub.map Tm.pv), .int .u8 t.value.op, .int .i64 t.value.width, .int .u64 t.value.val, .str t.value.name, .int .i64 t.value.low, .lst 6 (t.value.sub.map Tm.pv), .int .u8 t.cond.op, .int .i64 t.cond.width, .int .u64 t.cond.val, .str t.cond.name, .int .i64 t.cond.low, .lst 6 (t.cond.sub.map Tm.pv)]
theorem Eff.pv_eq (t : Eff) : t.pv = .agg [.int .u8 t.kind, .int .i64 t.operand, .int .i64 t.reg, .int .u8 t.addr.op, .int .i64 t.addr.width, .int .u64 t.addr.val, .str t.addr.name, .int .i64 t.addr.low, .lst 6 (t.addr.sub.map Tm.pv), .int .u8 t.value.op, .int .i64 t.value.width, .int .u64 t.value.val, .str t.value.name, .int .i64 t.value.low, .lst 6 (t.value.sub.map Tm.pv), .int .u8 t.cond.op, .int .i64 t.cond.width, .int .u64 t.cond.val, .str t.cond.name, .int .i64 t.cond.low, .lst 6 (t.cond.sub.map Tm.pv)] := rfl
@[simp] theorem Eff.cells_pv (t : Eff) : t.pv.cells = [.int .u8 t.kind, .int .i64 t.operand, .int .i64 t.reg, .int .u8 t.addr.op, .int .i64 t.addr.width, .int .u64 t.addr.val, .str t.addr.name, .int .i64 t.addr.low, .lst 6 (t.addr.sub.map Tm.pv), .int .u8 t.value.op, .int .i64 t.value.width, .int .u64 t.value.val, .str t.value.name, .int .i64 t.value.low, .lst 6 (t.value.sub.map Tm.pv), .int .u8 t.cond.op, .int .i64 t.cond.width, .int .u64 t.cond.val, .str t.cond.name, .int .i64 t.cond.low, .lst 6 (t.cond.sub.map Tm.pv)] := by rw [Eff.pv_eq]; rfl
@[simp] theorem Eff.dcells_pv (t : Eff) : dcells (.pv t.pv) = [.pv (.int .u8 t.kind), .pv (.int .i64 t.operand), .pv (.int .i64 t.reg), .pv (.int .u8 t.addr.op), .pv (.int .i64 t.addr.width), .pv (.int .u64 t.addr.val), .pv (.str t.addr.name), .pv (.int .i64 t.addr.low), .pv (.lst 6 (t.addr.sub.map Tm.pv)), .pv (.int .u8 t.value.op), .pv (.int .i64 t.value.width), .pv (.int .u64 t.value.val), .pv (.str t.value.name), .pv (.int .i64 t.value.low), .pv (.lst 6 (t.value.sub.map Tm.pv)), .pv (.int .u8 t.cond.op), .pv (.int .i64 t.cond.width), .pv (.int .u64 t.cond.val), .pv (.str t.cond.name), .pv (.int .i64 t.cond.low), .pv (.lst 6 (t.cond.sub.map Tm.pv))] := by rw [Eff.pv_eq]; rfl
@[simp] theorem Eff.fold (t : Eff) : PV.agg [.int .u8 t.kind, .int .i64 t.operand, .int .i64 t.reg, .int .u8 t.addr.op, .int .i64 t.addr.width, .int .u64 t.addr.val, .str t.addr.name, .int .i64 t.addr.low, .lst 6 (t.addr.sub.map Tm.pv), .int .u8 t.value.op, .int .i64 t.value.width, .int .u64 t.value.val, .str t.value.name, .int .i64 t.value.low, .lst 6 (t.value.sub.map Tm.pv), .int .u8 t.cond.op, .int .i64 t.cond.width, .int .u64 t.cond.val, .str t.cond.name, .int .i64 t.cond.low, .lst 6 (t.cond.sub.map Tm.pv)] = t.pv := (Eff.pv_eq t).symm
@[simp] theorem Eff.isAg_pv (t : Eff) : DV.isAg (.pv t.pv) = true := by rw [Eff.pv_eq]; rfl
@[simp] theorem Eff.one_pv (t : Eff) : t.pv.one = false := by rw [Eff.pv_eq]; rfl
theorem Eff.wf_pv (t : Eff) : t.pv.wf ↔ (PV.agg [.int .u8 t.kind, .int .i64 t.operand, .int .i64 t.reg, .int .u8 t.addr.op, .int .i64 t.addr.width, .int .u64 t.addr.val, .str t.addr.name, .int .i64 t.addr.low, .lst 6 (t.addr.sub.map Tm.pv), .int .u8 t.value.op, .int .i64 t.value.width, .int .u64 t.value.val, .str t.value.name, .int .i64 t.value.low, .lst 6 (t.value.sub.map Tm.pv), .int .u8 t.cond.op, .int .i64 t.cond.width, .int .u64 t.cond.val, .str t.cond.name, .int .i64 t.cond.low, .lst 6 (t.cond.sub.map Tm.pv)]).wf := by rw [Eff.pv_eq]
def Eff.bx (t : Eff) : Ob := .box [.pv (.int .u8 t.kind), .pv (.int .i64 t.operand), .pv (.int .i64 t.reg), .pv (.int .u8 t.addr.op), .pv (.int .i64 t.addr.width), .pv (.int .u64 t.addr.val), .pv (.str t.addr.name), .pv (.int .i64 t.addr.low), .pv (.lst 6 (t.addr.sub.map Tm.pv)), .pv (.int .u8 t.value.op), .pv (.int .i64 t.value.width), .pv (.int .u64 t.value.val), .pv (.str t.value.name), .pv (.int .i64 t.value.low), .pv (.lst 6 (t.value.sub.map Tm.pv)), .pv (.int .u8 t.cond.op), .pv (.int .i64 t.cond.width), .pv (.int .u64 t.cond.val), .pv (.str t.cond.name), .pv (.int .i64 t.cond.low), .pv (.lst 6 (t.cond.sub.map Tm.pv))]
theorem Eff.ext_iff' {a b : Eff} : a = b ↔ a.kind = b.kind ∧ a.operand = b.operand ∧ a.reg = b.reg ∧ a.addr = b.addr ∧ a.value = b.value ∧ a.cond = b.cond := by cases a; cases b; simp
structure Ins_ where
  name : ByteArray
  mask : Int
  mtch : Int
  operands : List Opnd
  effects : List Eff
  unit : Int
  busy : Int
  latency : Int
  slots : Int
deriving Inhabited
def Ins_.pv (t : Ins_) : PV := .agg [.str t.name, .int .u64 t.mask, .int .u64 t.mtch, .lst 6 (t.operands.map Opnd.pv), .lst 21 (t.effects.map Eff.pv), .int .i64 t.unit, .int .i64 t.busy, .int .i64 t.latency, .int .i64 t.slots]
theorem Ins_.pv_eq (t : Ins_) : t.pv = .agg [.str t.name, .int .u64 t.mask, .int .u64 t.mtch, .lst 6 (t.operands.map Opnd.pv), .lst 21 (t.effects.map Eff.pv), .int .i64 t.unit, .int .i64 t.busy, .int .i64 t.latency, .int .i64 t.slots] := rfl
@[simp] theorem Ins_.cells_pv (t : Ins_) : t.pv.cells = [.str t.name, .int .u64 t.mask, .int .u64 t.mtch, .lst 6 (t.operands.map Opnd.pv), .lst 21 (t.effects.map Eff.pv), .int .i64 t.unit, .int .i64 t.busy, .int .i64 t.latency, .int .i64 t.slots] := by rw [Ins_.pv_eq]; rfl
@[simp] theorem Ins_.dcells_pv (t : Ins_) : dcells (.pv t.pv) = [.pv (.str t.name), .pv (.int .u64 t.mask), .pv (.int .u64 t.mtch), .pv (.lst 6 (t.operands.map Opnd.pv)), .pv (.lst 21 (t.effects.map Eff.pv)), .pv (.int .i64 t.unit), .pv (.int .i64 t.busy), .pv (.int .i64 t.latency), .pv (.int .i64 t.slots)] := by rw [Ins_.pv_eq]; rfl
@[simp] theorem Ins_.fold (t : Ins_) : PV.agg [.str t.name, .int .u64 t.mask, .int .u64 t.mtch, .lst 6 (t.operands.map Opnd.pv), .lst 21 (t.effects.map Eff.pv), .int .i64 t.unit, .int .i64 t.busy, .int .i64 t.latency, .int .i64 t.slots] = t.pv := (Ins_.pv_eq t).symm
@[simp] theorem Ins_.isAg_pv (t : Ins_) : DV.isAg (.pv t.pv) = true := by rw [Ins_.pv_eq]; rfl
@[simp] theorem Ins_.one_pv (t : Ins_) : t.pv.one = false := by rw [Ins_.pv_eq]; rfl
theorem Ins_.wf_pv (t : Ins_) : t.pv.wf ↔ (PV.agg [.str t.name, .int .u64 t.mask, .int .u64 t.mtch, .lst 6 (t.operands.map Opnd.pv), .lst 21 (t.effects.map Eff.pv), .int .i64 t.unit, .int .i64 t.busy, .int .i64 t.latency, .int .i64 t.slots]).wf := by rw [Ins_.pv_eq]
def Ins_.bx (t : Ins_) : Ob := .box [.pv (.str t.name), .pv (.int .u64 t.mask), .pv (.int .u64 t.mtch), .pv (.lst 6 (t.operands.map Opnd.pv)), .pv (.lst 21 (t.effects.map Eff.pv)), .pv (.int .i64 t.unit), .pv (.int .i64 t.busy), .pv (.int .i64 t.latency), .pv (.int .i64 t.slots)]
theorem Ins_.ext_iff' {a b : Ins_} : a = b ↔ a.name = b.name ∧ a.mask = b.mask ∧ a.mtch = b.mtch ∧ a.operands = b.operands ∧ a.effects = b.effects ∧ a.unit = b.unit ∧ a.busy = b.busy ∧ a.latency = b.latency ∧ a.slots = b.slots := by cases a; cases b; simp
structure Mach where
  name : ByteArray
  word : Int
  address : Int
  regs : List Reg
  banks : List Bank
  units : List Unt
  instrs : List Ins_
deriving Inhabited
def Mach.pv (t : Mach) : PV := .agg [.str t.name, .int .i64 t.word, .int .i64 t.address, .lst 4 (t.regs.map Reg.pv), .lst 2 (t.banks.map Bank.pv), .lst 2 (t.units.map Unt.pv), .lst 9 (t.instrs.map Ins_.pv)]
theorem Mach.pv_eq (t : Mach) : t.pv = .agg [.str t.name, .int .i64 t.word, .int .i64 t.address, .lst 4 (t.regs.map Reg.pv), .lst 2 (t.banks.map Bank.pv), .lst 2 (t.units.map Unt.pv), .lst 9 (t.instrs.map Ins_.pv)] := rfl
@[simp] theorem Mach.cells_pv (t : Mach) : t.pv.cells = [.str t.name, .int .i64 t.word, .int .i64 t.address, .lst 4 (t.regs.map Reg.pv), .lst 2 (t.banks.map Bank.pv), .lst 2 (t.units.map Unt.pv), .lst 9 (t.instrs.map Ins_.pv)] := by rw [Mach.pv_eq]; rfl
@[simp] theorem Mach.dcells_pv (t : Mach) : dcells (.pv t.pv) = [.pv (.str t.name), .pv (.int .i64 t.word), .pv (.int .i64 t.address), .pv (.lst 4 (t.regs.map Reg.pv)), .pv (.lst 2 (t.banks.map Bank.pv)), .pv (.lst 2 (t.units.map Unt.pv)), .pv (.lst 9 (t.instrs.map Ins_.pv))] := by rw [Mach.pv_eq]; rfl
@[simp] theorem Mach.fold (t : Mach) : PV.agg [.str t.name, .int .i64 t.word, .int .i64 t.address, .lst 4 (t.regs.map Reg.pv), .lst 2 (t.banks.map Bank.pv), .lst 2 (t.units.map Unt.pv), .lst 9 (t.instrs.map Ins_.pv)] = t.pv := (Mach.pv_eq t).symm
@[simp] theorem Mach.isAg_pv (t : Mach) : DV.isAg (.pv t.pv) = true := by rw [Mach.pv_eq]; rfl
@[simp] theorem Mach.one_pv (t : Mach) : t.pv.one = false := by rw [Mach.pv_eq]; rfl
theorem Mach.wf_pv (t : Mach) : t.pv.wf ↔ (PV.agg [.str t.name, .int .i64 t.word, .int .i64 t.address, .lst 4 (t.regs.map Reg.pv), .lst 2 (t.banks.map Bank.pv), .lst 2 (t.units.map Unt.pv), .lst 9 (t.instrs.map Ins_.pv)]).wf := by rw [Mach.pv_eq]
def Mach.bx (t : Mach) : Ob := .box [.pv (.str t.name), .pv (.int .i64 t.word), .pv (.int .i64 t.address), .pv (.lst 4 (t.regs.map Reg.pv)), .pv (.lst 2 (t.banks.map Bank.pv)), .pv (.lst 2 (t.units.map Unt.pv)), .pv (.lst 9 (t.instrs.map Ins_.pv))]
theorem Mach.ext_iff' {a b : Mach} : a = b ↔ a.name = b.name ∧ a.word = b.word ∧ a.address = b.address ∧ a.regs = b.regs ∧ a.banks = b.banks ∧ a.units = b.units ∧ a.instrs = b.instrs := by cases a; cases b; simp
structure MOp where
  instr : Int
  args : List Int
deriving Inhabited, DecidableEq
def MOp.pv (t : MOp) : PV := .agg [.int .i64 t.instr, .lst 1 (ints t.args)]
theorem MOp.pv_eq (t : MOp) : t.pv = .agg [.int .i64 t.instr, .lst 1 (ints t.args)] := rfl
@[simp] theorem MOp.cells_pv (t : MOp) : t.pv.cells = [.int .i64 t.instr, .lst 1 (ints t.args)] := by rw [MOp.pv_eq]; rfl
@[simp] theorem MOp.dcells_pv (t : MOp) : dcells (.pv t.pv) = [.pv (.int .i64 t.instr), .pv (.lst 1 (ints t.args))] := by rw [MOp.pv_eq]; rfl
@[simp] theorem MOp.fold (t : MOp) : PV.agg [.int .i64 t.instr, .lst 1 (ints t.args)] = t.pv := (MOp.pv_eq t).symm
@[simp] theorem MOp.isAg_pv (t : MOp) : DV.isAg (.pv t.pv) = true := by rw [MOp.pv_eq]; rfl
@[simp] theorem MOp.one_pv (t : MOp) : t.pv.one = false := by rw [MOp.pv_eq]; rfl
theorem MOp.wf_pv (t : MOp) : t.pv.wf ↔ (PV.agg [.int .i64 t.instr, .lst 1 (ints t.args)]).wf := by rw [MOp.pv_eq]
def MOp.bx (t : MOp) : Ob := .box [.pv (.int .i64 t.instr), .pv (.lst 1 (ints t.args))]
theorem MOp.ext_iff' {a b : MOp} : a = b ↔ a.instr = b.instr ∧ a.args = b.args := by cases a; cases b; simp
structure Bnd where
  name : ByteArray
  width : Int
  bits : Int
deriving Inhabited, DecidableEq
def Bnd.pv (t : Bnd) : PV := .agg [.str t.name, .int .i64 t.width, .int .u64 t.bits]
theorem Bnd.pv_eq (t : Bnd) : t.pv = .agg [.str t.name, .int .i64 t.width, .int .u64 t.bits] := rfl
@[simp] theorem Bnd.cells_pv (t : Bnd) : t.pv.cells = [.str t.name, .int .i64 t.width, .int .u64 t.bits] := by rw [Bnd.pv_eq]; rfl
@[simp] theorem Bnd.dcells_pv (t : Bnd) : dcells (.pv t.pv) = [.pv (.str t.name), .pv (.int .i64 t.width), .pv (.int .u64 t.bits)] := by rw [Bnd.pv_eq]; rfl
@[simp] theorem Bnd.fold (t : Bnd) : PV.agg [.str t.name, .int .i64 t.width, .int .u64 t.bits] = t.pv := (Bnd.pv_eq t).symm
@[simp] theorem Bnd.isAg_pv (t : Bnd) : DV.isAg (.pv t.pv) = true := by rw [Bnd.pv_eq]; rfl
@[simp] theorem Bnd.one_pv (t : Bnd) : t.pv.one = false := by rw [Bnd.pv_eq]; rfl
theorem Bnd.wf_pv (t : Bnd) : t.pv.wf ↔ (PV.agg [.str t.name, .int .i64 t.width, .int .u64 t.bits]).wf := by rw [Bnd.pv_eq]
def Bnd.bx (t : Bnd) : Ob := .box [.pv (.str t.name), .pv (.int .i64 t.width), .pv (.int .u64 t.bits)]
theorem Bnd.ext_iff' {a b : Bnd} : a = b ↔ a.name = b.name ∧ a.width = b.width ∧ a.bits = b.bits := by cases a; cases b; simp
def gt {α : Type} [Inhabited α] (l : List α) (i : Int) : α := l.getD i.toNat (l.headD default)
@[simp] theorem nth_ne {α : Type} [Inhabited α] {f : α → PV} {l : List α} {i : Int} (h : l ≠ []) : nth (l.map f) i = f (gt l i) := by
  cases l with
  | nil => exact absurd rfl h
  | cons a r => simp only [nth, gt, List.headD_cons, List.map_cons, List.getD_eq_getElem?_getD, ← List.map_cons, List.getElem?_map]; cases (a :: r)[i.toNat]? <;> rfl
@[simp] theorem nth_ne_ints {l : List Int} {i : Int} (h : l ≠ []) : nth (ints l) i = .int .i64 (gt l i) := nth_ne h
@[simp] theorem nth_ne_words {l : List Int} {i : Int} (h : l ≠ []) : nth (words l) i = .int .u64 (gt l i) := nth_ne h
@[simp] theorem nth_gt {α : Type} [Inhabited α] {f : α → PV} {l : List α} {i : Int} (h0 : 0 ≤ i) (h1 : i < (l.length : Int)) : nth (l.map f) i = f (gt l i) := by
  have h : i.toNat < l.length := by omega
  simp [nth, gt, h]
@[simp] theorem nth_gt_nat {α : Type} [Inhabited α] {f : α → PV} {l : List α} {i : Nat} (h1 : i < l.length) : nth (l.map f) (i : Int) = f (gt l i) := nth_gt (by omega) (by omega)
@[simp] theorem nth_ints {l : List Int} {i : Nat} (h : i < l.length) : nth (ints l) (i : Int) = .int .i64 (gt l i) := nth_gt_nat h
@[simp] theorem nth_words {l : List Int} {i : Nat} (h : i < l.length) : nth (words l) (i : Int) = .int .u64 (gt l i) := nth_gt_nat h
@[simp] theorem nth_bytes {l : List Int} {i : Nat} (h : i < l.length) : nth (bytes l) (i : Int) = .int .u8 (gt l i) := nth_gt_nat h
@[simp] theorem nth_strs {l : List ByteArray} {i : Nat} (h : i < l.length) : nth (strs l) (i : Int) = .str (gt l i) := nth_gt_nat h
theorem gt_nat {α : Type} [Inhabited α] {l : List α} {i : Nat} (h : i < l.length) : gt l (i : Int) = l[i] := by simp [gt, h]
theorem gt_cons {α : Type} [Inhabited α] {a : α} {l : List α} {i : Nat} (h : i < l.length) : gt (a :: l) ((i + 1 : Nat) : Int) = gt l i := by rw [gt_nat h, gt_nat (by simp; omega)]; rfl
theorem gt_mem {α : Type} [Inhabited α] {l : List α} {i : Int} (h0 : 0 ≤ i) (h : i < (l.length : Int)) : gt l i ∈ l := by
  have h : i.toNat < l.length := by omega
  simp [gt, h]
def fstI {α : Type} (p : α → Bool) (l : List α) : Int := match l.findIdx? p with
  | some i => (i : Int)
  | none => -1
theorem fstI_some {α : Type} [Inhabited α] {p : α → Bool} {l : List α} {i : Nat} (h : i < l.length) (hp : p (gt l i) = true) (hn : ∀ j, j < i → p (gt l j) = false) : fstI p l = i := by
  have : l.findIdx? p = some i := by
    rw [List.findIdx?_eq_some_iff_getElem]
    refine ⟨h, by rw [← gt_nat h]; exact hp, fun j hj => ?_⟩
    have := hn j hj
    rw [gt_nat (by omega)] at this
    simp [this]
  simp [fstI, this]
theorem fstI_none {α : Type} [Inhabited α] {p : α → Bool} {l : List α} (hn : ∀ j, j < l.length → p (gt l (j : Nat)) = false) : fstI p l = -1 := by
  have : l.findIdx? p = none := by
    rw [List.findIdx?_eq_none_iff]
    intro x hx
    obtain ⟨j, hj, rfl⟩ := List.getElem_of_mem hx
    have := hn j hj
    rw [gt_nat hj] at this; exact this
  simp [fstI, this]
theorem fstI_nonneg {α : Type} {p : α → Bool} {l : List α} : decide (0 ≤ fstI p l) = l.any p := by
  unfold fstI
  split <;> rename_i h
  · rw [List.findIdx?_eq_some_iff_getElem] at h
    obtain ⟨h1, h2, -⟩ := h
    have : l.any p = true := List.any_eq_true.2 ⟨_, List.getElem_mem h1, h2⟩
    simp [this]
  · rw [List.findIdx?_eq_none_iff] at h
    have : l.any p = false := by rw [List.any_eq_false]; intro x hx; simp [h x hx]
    simp [this]
def allB (n : Nat) (p : Nat → Bool) : Bool := (List.range n).all p
theorem allB_true {n : Nat} {p : Nat → Bool} : allB n p = true ↔ ∀ i, i < n → p i = true := by simp [allB]
theorem allB_false {n : Nat} {p : Nat → Bool} {i : Nat} (h : i < n) (hp : p i = false) : allB n p = false := by
  rw [Bool.eq_false_iff]; intro h'; rw [allB_true] at h'; rw [h' i h] at hp; simp at hp
theorem allB_succ {n : Nat} {p : Nat → Bool} : allB (n + 1) p = (allB n p && p n) := by simp [allB, List.range_succ]
@[simp] theorem allB_zero {p : Nat → Bool} : allB 0 p = true := rfl
theorem allB_congr {n : Nat} {p q : Nat → Bool} (h : ∀ i, i < n → p i = q i) : allB n p = allB n q := by
  induction n with
  | zero => rfl
  | succ n ih => rw [allB_succ, allB_succ, ih fun i hi => h i (by omega), h n (by omega)]
theorem wrap_nat {n : Int} (h0 : 0 ≤ n) (h : n < 9223372036854775808) : IntKind.i64.wrap n = n := wrap_id (by simp only [IntKind.min, IntKind.signed, IntKind.bits, if_true]; omega) (by simp only [IntKind.max, IntKind.signed, IntKind.bits, if_true]; omega)
theorem wrap_i64 {n : Int} (h0 : -9223372036854775808 ≤ n) (h : n < 9223372036854775808) : IntKind.i64.wrap n = n := wrap_id (by simp only [IntKind.min, IntKind.signed, IntKind.bits, if_true]; omega) (by simp only [IntKind.max, IntKind.signed, IntKind.bits, if_true]; omega)
end Go.Proofs.YthocoandbiaoiaaDoorV

namespace Go.Proofs.YthocoandbiaoiaaDoorV
open Go
def inR (n a b : Int) : Bool := decide (a ≤ n) && decide (n ≤ b)
def wideB (w : Int) : Bool := inR w 1 64
def maskI (w : Int) : Int := if wideB w then 2 ^ w.toNat - 1 else 0
def okVal (w x : Int) : Bool := wideB w && decide (x ≤ maskI w)
def letter (c : Int) : Bool := inR c 97 122 || inR c 65 90
def nameAt (s : ByteArray) (i : Nat) : Bool := letter (bt s i) || (decide (i ≠ 0) && (inR (bt s i) 48 57 || decide (bt s i = 95)))
def isName (s : ByteArray) : Bool := decide (0 < s.size) && decide (s.size ≤ 24) && allB s.size (nameAt s)
def rdot : ByteArray := ⟨#[114, 46]⟩
def isVar (s : ByteArray) : Bool := if 2 < s.size ∧ s.extract 0 2 = rdot then isName (s.extract 2 s.size) else isName s
mutual
def Tm.nodes : Tm → Nat
  | ⟨_, _, _, _, _, s⟩ => 1 + Tm.nodesL s
def Tm.nodesL : List Tm → Nat
  | [] => 0
  | t :: r => t.nodes + Tm.nodesL r
end
mutual
def Tm.depth : Tm → Nat
  | ⟨_, _, _, _, _, s⟩ => Tm.depthL s + 1
def Tm.depthL : List Tm → Nat
  | [] => 0
  | t :: r => max t.depth (Tm.depthL r)
end
mutual
def Tm.pre : Tm → List Tm
  | ⟨o, w, v, n, l, s⟩ => ⟨o, w, v, n, l, s⟩ :: Tm.preL s
def Tm.preL : List Tm → List Tm
  | [] => []
  | t :: r => t.pre ++ Tm.preL r
end
mutual
def Tm.beq : Tm → Tm → Bool
  | ⟨o, w, v, n, l, s⟩, ⟨o', w', v', n', l', s'⟩ => decide (o = o') && decide (w = w') && decide (v = v') && decide (n = n') && decide (l = l') && Tm.beqL s s'
def Tm.beqL : List Tm → List Tm → Bool
  | [], [] => true
  | t :: r, t' :: r' => t.beq t' && Tm.beqL r r'
  | _, _ => false
end
mutual
theorem Tm.beq_iff : ∀ {a b : Tm}, a.beq b = true ↔ a = b
  | ⟨o, w, v, n, l, s⟩, ⟨o', w', v', n', l', s'⟩ => by
    rw [Tm.beq]; simp only [Bool.and_eq_true, decide_eq_true_eq, Tm.beqL_iff, Tm.mk.injEq]; simp [and_assoc]
theorem Tm.beqL_iff : ∀ {a b : List Tm}, Tm.beqL a b = true ↔ a = b
  | [], [] => by simp [Tm.beqL]
  | t :: r, t' :: r' => by rw [Tm.beqL]; simp only [Bool.and_eq_true, Tm.beq_iff, Tm.beqL_iff, List.cons.injEq]
  | [], _ :: _ => by simp [Tm.beqL]
  | _ :: _, [] => by simp [Tm.beqL]
end
instance : DecidableEq Tm := fun a b => if h : a.beq b = true then isTrue (Tm.beq_iff.1 h) else isFalse fun e => h (Tm.beq_iff.2 e)
theorem Tm.nodes_eq (t : Tm) : t.nodes = 1 + Tm.nodesL t.sub := by cases t; rw [Tm.nodes]
theorem Tm.depth_eq (t : Tm) : t.depth = Tm.depthL t.sub + 1 := by cases t; rw [Tm.depth]
theorem Tm.pre_eq (t : Tm) : t.pre = t :: Tm.preL t.sub := by cases t; rw [Tm.pre]
theorem Tm.nodesL_take {l : List Tm} {i : Nat} (h : i < l.length) : Tm.nodesL (l.take (i + 1)) = Tm.nodesL (l.take i) + (gt l i).nodes := by
  induction l generalizing i with
  | nil => simp at h
  | cons t r ih =>
    cases i with
    | zero => simp [Tm.nodesL, gt]
    | succ i =>
      have h' : i < r.length := by simpa using h
      simp only [List.take_succ_cons, Tm.nodesL, ih h']
      rw [gt_cons h']
      omega
theorem Tm.nodesL_le {l : List Tm} {i : Nat} : Tm.nodesL (l.take i) ≤ Tm.nodesL l := by
  induction l generalizing i with
  | nil => simp
  | cons t r ih =>
    cases i with
    | zero => simp [Tm.nodesL]
    | succ i => simp only [List.take_succ_cons, Tm.nodesL]; have := @ih i; omega
theorem Tm.depthL_take {l : List Tm} {i : Nat} (h : i < l.length) : Tm.depthL (l.take (i + 1)) = max (Tm.depthL (l.take i)) (gt l i).depth := by
  induction l generalizing i with
  | nil => simp at h
  | cons t r ih =>
    cases i with
    | zero => simp [Tm.depthL, gt]
    | succ i =>
      have h' : i < r.length := by simpa using h
      simp only [List.take_succ_cons, Tm.depthL, ih h']
      rw [gt_cons h']
      omega
theorem Tm.depthL_le {l : List Tm} {i : Nat} : Tm.depthL (l.take i) ≤ Tm.depthL l := by
  induction l generalizing i with
  | nil => simp
  | cons t r ih =>
    cases i with
    | zero => simp [Tm.depthL]
    | succ i => simp only [List.take_succ_cons, Tm.depthL]; have := @ih i; omega
theorem Tm.nodes_gt {l : List Tm} {i : Nat} (h : i < l.length) : (gt l i).nodes ≤ Tm.nodesL l := by
  have h1 := Tm.nodesL_take h
  have h2 := @Tm.nodesL_le l (i + 1)
  omega
theorem Tm.size_gt {t : Tm} {i : Nat} (h : i < t.sub.length) : SizeOf.sizeOf (gt t.sub i) < SizeOf.sizeOf t := by
  rw [gt_nat h]
  have h1 := List.sizeOf_lt_of_mem (List.getElem_mem h)
  have h2 : SizeOf.sizeOf t.sub < SizeOf.sizeOf t := by cases t; simp; omega
  omega
/-! ### Layer 2: well-formed terms -/
def Tm.okNode (t : Tm) : Bool :=
  let w := t.width; let n := t.sub.length; let x := (gt t.sub 0).width; let y := (gt t.sub 1).width; let z := (gt t.sub 2).width
  wideB w &&
  if t.op = 1 then decide (n = 0) && decide (t.name = ⟨#[]⟩) && decide (t.low = 0) && okVal w t.val
  else if t.op = 2 then decide (n = 0) && decide (t.val = 0) && decide (t.low = 0) && isVar t.name
  else if t.op < 3 ∨ 24 < t.op ∨ t.val ≠ 0 ∨ t.name ≠ ⟨#[]⟩ ∨ (t.low ≠ 0 ∧ t.op ≠ 21) ∨ n = 0 then false
  else if t.op = 3 ∨ t.op = 4 then decide (n = 1) && decide (x = w)
  else if t.op = 16 ∨ t.op = 17 ∨ t.op = 18 then decide (n = 2) && decide (w = 1) && decide (y = x)
  else if t.op = 19 then decide (n = 3) && decide (x = 1) && decide (y = w) && decide (z = w)
  else if t.op = 20 then decide (n = 2) && decide (x + y = w)
  else if t.op = 21 then decide (n = 1) && decide (0 ≤ t.low) && decide (t.low ≤ x) && decide (t.low + w ≤ x)
  else if t.op = 22 ∨ t.op = 23 then decide (n = 1) && decide (x ≤ w)
  else if t.op = 24 then decide (n = 1) && (decide (w = 8) || decide (w = 16) || decide (w = 32) || decide (w = 64))
  else decide (n = 2) && decide (x = w) && decide (y = w)
mutual
def Tm.formed : Tm → Bool
  | ⟨o, w, v, n, l, s⟩ => Tm.formedL s && Tm.okNode ⟨o, w, v, n, l, s⟩
def Tm.formedL : List Tm → Bool
  | [] => true
  | t :: r => t.formed && Tm.formedL r
end
theorem Tm.formed_eq (t : Tm) : t.formed = (Tm.formedL t.sub && t.okNode) := by cases t; rw [Tm.formed]
theorem Tm.formedL_eq (l : List Tm) : Tm.formedL l = l.all Tm.formed := by
  induction l with
  | nil => rfl
  | cons t r ih => rw [Tm.formedL, List.all_cons, ih]
theorem Tm.formed_width {t : Tm} (h : t.formed = true) : 1 ≤ t.width ∧ t.width ≤ 64 := by
  rw [Tm.formed_eq, Bool.and_eq_true] at h
  have := h.2
  unfold Tm.okNode at this
  simp only [Bool.and_eq_true] at this
  simpa [wideB, inR] using this.1
mutual
def Tm.vars : Tm → List (ByteArray × Int)
  | ⟨o, w, _, n, _, s⟩ => (if o = 2 then [(n, w)] else []) ++ Tm.varsL s
def Tm.varsL : List Tm → List (ByteArray × Int)
  | [] => []
  | t :: r => t.vars ++ Tm.varsL r
end
theorem Tm.vars_eq (t : Tm) : t.vars = (if t.op = 2 then [(t.name, t.width)] else []) ++ Tm.varsL t.sub := by cases t; rw [Tm.vars]
theorem Tm.varsL_take {l : List Tm} {i : Nat} (h : i < l.length) : Tm.varsL (l.take (i + 1)) = Tm.varsL (l.take i) ++ (gt l i).vars := by
  induction l generalizing i with
  | nil => simp at h
  | cons t r ih =>
    cases i with
    | zero => simp [Tm.varsL, gt]
    | succ i =>
      have h' : i < r.length := by simpa using h
      simp only [List.take_succ_cons, Tm.varsL, ih h']
      rw [gt_cons h']
      simp
mutual
theorem Tm.vars_le : ∀ t : Tm, t.vars.length ≤ t.nodes
  | ⟨o, w, v, n, l, s⟩ => by
    rw [Tm.vars, Tm.nodes, List.length_append]
    have := Tm.varsL_le s
    split <;> simp <;> omega
theorem Tm.varsL_le : ∀ l : List Tm, (Tm.varsL l).length ≤ Tm.nodesL l
  | [] => by simp [Tm.varsL]
  | t :: r => by
    rw [Tm.varsL, Tm.nodesL, List.length_append]
    have := Tm.vars_le t
    have := Tm.varsL_le r
    omega
end
mutual
def Tm.long : Tm → Bool
  | ⟨_, _, _, n, _, s⟩ => Tm.longL s || decide (200 < n.size)
def Tm.longL : List Tm → Bool
  | [] => false
  | t :: r => t.long || Tm.longL r
end
theorem Tm.long_eq (t : Tm) : t.long = (Tm.longL t.sub || decide (200 < t.name.size)) := by cases t; rw [Tm.long]
theorem Tm.longL_eq (l : List Tm) : Tm.longL l = l.any Tm.long := by
  induction l with
  | nil => rfl
  | cons t r ih => rw [Tm.longL, List.any_cons, ih]
mutual
def Tm.count : Tm → Int → Nat → Int × Bool
  | _, _, 0 => (1, false)
  | ⟨_, _, _, _, _, s⟩, lim, d + 1 => Tm.countL s lim d 1
def Tm.countL : List Tm → Int → Nat → Int → Int × Bool
  | [], _, _, n => (n, true)
  | t :: r, lim, d, n => if n ≤ lim then (if (t.count (lim - n) d).2 then Tm.countL r lim d (n + (t.count (lim - n) d).1) else (n, false)) else (n, true)
end
mutual
theorem Tm.count_le : ∀ (t : Tm) (lim : Int) (d : Nat), 0 ≤ lim → 0 ≤ (t.count lim d).1 ∧ (t.count lim d).1 ≤ lim + 1
  | _, lim, 0, h => by rw [Tm.count]; simp; omega
  | ⟨_, _, _, _, _, s⟩, lim, d + 1, h => by rw [Tm.count]; exact Tm.countL_le s lim d 1 h (by omega) (by omega)
theorem Tm.countL_le : ∀ (l : List Tm) (lim : Int) (d : Nat) (n : Int), 0 ≤ lim → 0 ≤ n → n ≤ lim + 1 → 0 ≤ (Tm.countL l lim d n).1 ∧ (Tm.countL l lim d n).1 ≤ lim + 1
  | [], lim, d, n, h, h0, h1 => by rw [Tm.countL]; exact ⟨h0, h1⟩
  | t :: r, lim, d, n, h, h0, h1 => by
    rw [Tm.countL]
    split
    · split
      · have := Tm.count_le t (lim - n) d (by omega)
        exact Tm.countL_le r lim d _ h (by omega) (by omega)
      · exact ⟨h0, h1⟩
    · exact ⟨h0, h1⟩
end
def Tm.great (t : Tm) : Bool := !(t.count 500 80).2 || decide (500 < (t.count 500 80).1) || t.long
def agree (l : List (ByteArray × Int)) : Bool := allB l.length fun i => allB i fun k => !decide ((gt l k).1 = (gt l i).1) || decide ((gt l k).2 = (gt l i).2)
def Tm.check (t : Tm) : Int := if 400 < t.nodes ∨ 60 < t.depth then 4 else if t.formed then (if agree t.vars then 0 else 14) else 8
theorem Tm.check_eq (t : Tm) : t.check = if 400 < t.nodes ∨ 60 < t.depth then 4 else if t.formed then (if agree t.vars then 0 else 14) else 8 := rfl
end Go.Proofs.YthocoandbiaoiaaDoorV

namespace Go.Proofs.YthocoandbiaoiaaDoorV
open Go
def lenI {α : Type} (l : List α) : Int := (l.length : Int)
def inLimits (m : Mach) : Bool :=
  decide (m.regs.length ≤ 64) && decide (m.banks.length ≤ 16) && decide (m.units.length ≤ 8) && decide (m.instrs.length ≤ 64) &&
  m.banks.all (fun b => decide (b.regs.length ≤ 64)) && m.instrs.all fun s => decide (s.operands.length ≤ 4) && decide (s.effects.length ≤ 4) && s.operands.all fun o => decide (o.pieces.length ≤ 4)
def rgOk (m : Mach) (i : Nat) : Bool :=
  let r := gt m.regs i
  isName r.name && inR r.width 1 64 && allB i (fun k => !decide ((gt m.regs k).name = r.name)) &&
  if r.of = -1 then decide (r.low = 0)
  else inR r.of 0 (m.regs.length - 1) && (let root := gt m.regs r.of; decide (root.of = -1) && inR root.width 1 64 && decide (r.width < root.width) && inR r.low 0 (root.width - r.width))
def okRegs (m : Mach) : Bool := allB m.regs.length (rgOk m) && decide (0 < m.regs.length)
def bankOk (m : Mach) (i : Nat) : Bool :=
  let b := gt m.banks i
  isName b.name && decide (0 < b.regs.length) && allB i (fun k => !decide ((gt m.banks k).name = b.name)) &&
  allB b.regs.length fun k => inR (gt b.regs k) 0 (m.regs.length - 1) && allB k (fun j => !decide (gt b.regs j = gt b.regs k)) && decide ((gt m.regs (gt b.regs k)).width = (gt m.regs (gt b.regs 0)).width)
def okBanks (m : Mach) : Bool := allB m.banks.length (bankOk m)
def unitOk (m : Mach) (i : Nat) : Bool :=
  let u := gt m.units i
  isName u.name && inR u.count 1 4 && allB i fun k => !decide ((gt m.units k).name = u.name)
def okUnits (m : Mach) : Bool := allB m.units.length (unitOk m) && decide (0 < m.units.length)
def fieldN (ps : List Piece) : Nat → Int
  | 0 => 0
  | n + 1 => IntKind.i64.wrap (fieldN ps n + (gt ps n).len)
def fieldI (o : Opnd) : Int := fieldN o.pieces o.pieces.length
def okPieces (o : Opnd) (word : Int) : Bool := allB o.pieces.length fun i => inR (gt o.pieces i).len 1 (8 * word) && inR (gt o.pieces i).at_ 0 (8 * word - (gt o.pieces i).len)
def pc : ByteArray := ⟨#[112, 99]⟩
def okOperand (m : Mach) (s : Ins_) (i : Nat) : Bool :=
  let o := gt s.operands i
  isName o.name && !decide (o.name = pc) && okPieces o m.word && allB i (fun k => !decide ((gt s.operands k).name = o.name)) &&
  if o.kind = 1 then
    inR o.bank 0 (m.banks.length - 1) && decide (o.scale = 0) &&
    if o.tied = -1 then decide (0 < fieldI o) && (decide (6 < fieldI o) || decide (((gt m.banks o.bank).regs.length : Int) ≤ 2 ^ (fieldI o).toNat))
    else inR o.tied 0 (i - 1) && decide (o.pieces.length = 0) && (let t := gt s.operands o.tied; decide (t.kind = 1) && decide (t.bank = o.bank) && decide (t.tied = -1))
  else if o.kind = 2 ∨ o.kind = 3 ∨ o.kind = 4 then decide (o.bank = 0) && decide (o.tied = -1) && inR o.scale 0 3 && decide (0 < fieldI o) && decide (fieldI o + o.scale ≤ m.address)
  else false
def bitI (w : Int) (i : Nat) : Int := w / 2 ^ i % 2
def covers (p : Piece) (b : Nat) : Bool := inR b p.at_ (p.at_ + p.len - 1)
def coverP (ps : List Piece) (b : Nat) : Nat → Int
  | 0 => 0
  | n + 1 => coverP ps b n + if covers (gt ps n) b then 1 else 0
def coverO (s : Ins_) (b : Nat) : Nat → Int
  | 0 => 0
  | n + 1 => coverO s b n + coverP (gt s.operands n).pieces b (gt s.operands n).pieces.length
def apart (m : Mach) (s : Ins_) : Bool := allB (8 * m.word).toNat fun b => decide (bitI s.mask b + coverO s b s.operands.length ≤ 1)
def wideI (m : Mach) (o : Opnd) : Int := if o.kind = 1 then (gt m.regs (gt (gt m.banks o.bank).regs 0)).width else m.address
def rname (n : ByteArray) : ByteArray := rdot ++ n
def isVarOf (m : Mach) (s : Ins_) (n : ByteArray) (w : Int) : Bool :=
  if n = pc then decide (w = m.address) else
  match s.operands.find? (fun o => decide (o.name = n)) with
  | some o => decide (w = wideI m o)
  | none => match m.regs.find? (fun r => decide (rname r.name = n)) with
    | some r => decide (w = r.width)
    | none => false
mutual
def known (m : Mach) (s : Ins_) : Tm → Bool
  | ⟨o, w, v, n, l, ts⟩ => (!decide (o = 2) || isVarOf m s n w) && (!decide (o = 24) || decide ((gt ts 0).width = m.address)) && knownL m s ts
def knownL (m : Mach) (s : Ins_) : List Tm → Bool
  | [] => true
  | t :: r => known m s t && knownL m s r
end
def fitsB (m : Mach) (s : Ins_) (t : Tm) : Bool := decide (t.check = 0) && known m s t
def noneB (t : Tm) : Bool := decide (t.op = 0) && decide (t.width = 0) && decide (t.val = 0) && decide (t.name = ⟨#[]⟩) && decide (t.low = 0) && decide (t.sub.length = 0)
def okEffect (m : Mach) (s : Ins_) (x : Eff) : Bool :=
  if x.kind = 1 then noneB x.addr && noneB x.cond && fitsB m s x.value &&
    if x.operand = -1 then inR x.reg 0 (m.regs.length - 1) && decide (x.value.width = (gt m.regs x.reg).width)
    else decide (x.reg = 0) && inR x.operand 0 (s.operands.length - 1) && decide ((gt s.operands x.operand).kind = 1) && decide (x.value.width = wideI m (gt s.operands x.operand))
  else if x.kind = 2 then decide (x.operand = 0) && decide (x.reg = 0) && noneB x.cond && fitsB m s x.addr && decide (x.addr.width = m.address) && fitsB m s x.value && (decide (x.value.width = 8) || decide (x.value.width = 16) || decide (x.value.width = 32) || decide (x.value.width = 64))
  else if x.kind = 3 then decide (x.operand = 0) && decide (x.reg = 0) && noneB x.addr && fitsB m s x.value && decide (x.value.width = m.address) && (noneB x.cond || (fitsB m s x.cond && decide (x.cond.width = 1)))
  else if x.kind = 4 then decide (x.operand = 0) && decide (x.reg = 0) && noneB x.addr && noneB x.cond && fitsB m s x.value
  else false
def countK (s : Ins_) (k : Int) : Int := ((s.effects.filter fun x => decide (x.kind = k)).length : Int)
def okInstr (m : Mach) (s : Ins_) : Bool :=
  decide (s.mask < 2 ^ (8 * m.word).toNat) && allB 64 (fun b => decide (bitI s.mtch b ≤ bitI s.mask b)) && allB s.operands.length (okOperand m s) && apart m s && s.effects.all (okEffect m s) &&
  decide (countK s 3 ≤ 1) && (decide (countK s 4 = 0) || decide (s.effects.length ≤ 1)) &&
  inR s.unit 0 (m.units.length - 1) && inR s.busy 1 15 && inR s.latency 1 15 && inR s.slots 0 2 && (decide (s.slots = 0) || decide (countK s 3 = 1))
def instrOk (m : Mach) (i : Nat) : Bool := isName (gt m.instrs i).name && okInstr m (gt m.instrs i) && allB i fun k => !decide ((gt m.instrs k).name = (gt m.instrs i).name)
def mcheck (m : Mach) : Int :=
  if inLimits m then
    if isName m.name && inR m.word 1 4 && (decide (m.address = 16) || decide (m.address = 32)) && okRegs m && okBanks m && okUnits m && allB m.instrs.length (instrOk m) then 0 else 8
  else 4
end Go.Proofs.YthocoandbiaoiaaDoorV

namespace Go.Proofs.YthocoandbiaoiaaDoorV
open Go
set_option maxRecDepth 100000
theorem p_bits_wide (gl : Glob) (w : Int) : PCall Tryd.prog gl 80 [.pv (.int .i64 w)] (.pv (.bool (wideB w))) := by
  refine k_bits_wide.pcall (by simp) (by simp) (by simp) fun hwf => ?_
  simp [c_bits_wide, wideB, inR]
theorem p_retargetref01_Wide (gl : Glob) (w : Int) : PCall Tryd.prog gl 123 [.pv (.int .i64 w)] (.pv (.bool (wideB w))) := by
  refine k_retargetref01_Wide.pcall (by simp) (by simp) (by simp) fun hwf => ?_
  simp [c_retargetref01_Wide, wideB, inR]
theorem mask_shr : ∀ n : Nat, n < 65 → (18446744073709551615 : Int).fdiv (2 ^ (64 - n)) = 2 ^ n - 1 := by decide
theorem p_bits_Mask (gl : Glob) (w : Int) : PCall Tryd.prog gl 59 [.pv (.int .i64 w)] (.pv (.int .u64 (maskI w))) := by
  refine k_bits_Mask.pcall (by simp) (by simp) (by simp) fun hwf => ?_
  simp [c_bits_Mask]
  refine CallNext.pure (p_bits_wide gl w) fun _ => ?_
  simp
  refine ⟨fun h => by simp [maskI, h], fun h => ?_⟩
  have hw : 1 ≤ w ∧ w ≤ 64 := by simpa [wideB, inR] using h
  have e1 : IntKind.i64.wrap (64 - w) = 64 - w := wrap_i64 (by omega) (by omega)
  have e2 := mask_shr w.toNat (by omega)
  rw [e1]
  have e3 : min (64 - w).toNat IntKind.u64.bits = 64 - w.toNat := by simp [IntKind.bits]; omega
  refine ⟨by omega, ?_⟩
  rw [e3, e2]; simp [maskI, h]
theorem p_bits_Ok (gl : Glob) (w x : Int) : PCall Tryd.prog gl 112 [.pv (.int .i64 w), .pv (.int .u64 x)] (.pv (.bool (okVal w x))) := by
  refine k_bits_Ok.pcall (by simp) (by simp) (by simp) fun hwf => ?_
  simp [c_bits_Ok]
  refine CallNext.pure (p_bits_wide gl w) fun _ => ?_
  simp
  refine ⟨_, fun _ => .of (p_bits_Mask gl w), ?_⟩
  simp [okVal]
theorem isName_false {s : ByteArray} {i : Nat} (h : i < s.size) (hn : nameAt s i = false) : isName s = false := by simp [isName, allB_false h hn]
theorem p_bits_Name (gl : Glob) (s : ByteArray) : PCall Tryd.prog gl 35 [.pv (.str s)] (.pv (.bool (isName s))) := by
  refine k_bits_Name.pcall (by simp) (by simp) (by simp) fun hwf => ?_
  simp [maxLen] at hwf
  simp [c_bits_Name]
  refine ⟨fun h => ?_, fun h1 h2 => ?_⟩
  · simp [isName]; omega
  refine Loop.nat (fun i => { e := [(0, .pv (.str s)), (15, .pv (.int .i64 s.size)), (16, .pv (.int .i64 i))], h := [], nx := 0 }) s.size (fun i => allB i (nameAt s) = true) (by simp) (by simp) (by simp) fun i hi hinv => ?_
  simp
  refine ⟨fun hlt => ⟨hlt, fun a b c => isName_false hlt (by simp [nameAt, letter, inR]; omega), fun h => ⟨hlt, ?_, wrap_nat (by omega) (by omega)⟩⟩, fun hge => ?_⟩
  · rw [allB_succ, hinv]; simp [nameAt, letter, inR]; omega
  · obtain rfl : i = s.size := by omega
    simp [isName, hinv]; omega
theorem p_retargetref01_Name (gl : Glob) (s : ByteArray) : PCall Tryd.prog gl 65 [.pv (.str s)] (.pv (.bool (isName s))) := by
  refine k_retargetref01_Name.pcall (by simp) (by simp) (by simp) fun hwf => ?_
  simp [maxLen] at hwf
  simp [c_retargetref01_Name]
  refine ⟨fun h => ?_, fun h1 h2 => ?_⟩
  · rcases h with rfl | h
    · rfl
    · simp [isName]; omega
  refine Loop.nat (fun i => { e := [(0, .pv (.str s)), (3, .pv (.int .i64 i))], h := [], nx := 0 }) s.size (fun i => allB i (nameAt s) = true) (by simp) (by simp) (by simp) fun i hi hinv => ?_
  simp
  refine ⟨fun hlt => ⟨hlt, fun a b c => isName_false hlt (by simp [nameAt, letter, inR]; omega), fun h => ⟨hlt, ?_, wrap_nat (by omega) (by omega)⟩⟩, fun hge => ?_⟩
  · rw [allB_succ, hinv]; simp [nameAt, letter, inR]; omega
  · obtain rfl : i = s.size := by omega
    have : s.size ≠ 0 := fun h => h1 (ByteArray.size_eq_zero_iff.1 h)
    simp [isName, hinv]; omega
theorem two_u64 : ∀ n : Nat, n < 64 → IntKind.u64.wrap (2 ^ n) = 2 ^ n := by decide
theorem p_retargetref01_Power (gl : Glob) (n : Nat) (hn : n < 64) : PCall Tryd.prog gl 129 [.pv (.int .i64 n)] (.pv (.int .u64 (2 ^ n))) := by
  refine k_retargetref01_Power.pcall (by simp) (by simp) (by simp) fun hwf => ?_
  simp [c_retargetref01_Power]
  refine Loop.nat (fun i => { e := [(0, .pv (.int .i64 n)), (3, .pv (.int .u64 (2 ^ i))), (4, .pv (.int .i64 i))], h := [], nx := 0 }) n (fun _ => True) (by simp) (by simp) (by simp) fun i hi hinv => ?_
  simp
  refine ⟨fun hlt => ⟨hlt, ?_, wrap_nat (by omega) (by omega)⟩, fun hge => ?_⟩
  · rw [← two_u64 (i + 1) (by omega)]; congr 1; omega
  · obtain rfl : i = n := by omega
    rfl
theorem p_retargetref01_Ok (gl : Glob) (w x : Int) (hx : x ≤ 18446744073709551615) : PCall Tryd.prog gl 124 [.pv (.int .i64 w), .pv (.int .u64 x)] (.pv (.bool (okVal w x))) := by
  refine k_retargetref01_Ok.pcall (by simp) (by simp) (by simp) fun hwf => ?_
  simp [c_retargetref01_Ok]
  refine CallNext.pure (p_retargetref01_Wide gl w) fun _ => ?_
  simp
  refine ⟨_, fun h1 h2 => .of (by have := p_retargetref01_Power gl w.toNat (by simp [wideB, inR] at h1; omega); rwa [Int.toNat_of_nonneg (by simp [wideB, inR] at h1; omega)] at this), by simp, ?_⟩
  simp [okVal]
  by_cases h : wideB w = true
  · simp [h, maskI]
    by_cases h2 : w = 64
    · subst h2; simp; omega
    · simp [h2]; omega
  · simp [h]
theorem p_slices_Index_int_int (gl : Glob) (l : List Int) (x : Int) : PCall Tryd.prog gl 78 [.pv (.lst 1 (ints l)), .pv (.int .i64 x)] (.pv (.int .i64 (fstI (fun y => decide (x = y)) l))) := by
  refine k_slices_Index_int_int.pcall (by simp) (by simp) (by simp) fun hwf => ?_
  simp [ints, maxLen] at hwf
  have hb := hwf.1.1
  simp [c_slices_Index_int_int]
  refine Loop.nat (fun i => { e := [(0, .pv (.lst 1 (ints l))), (1, .pv (.int .i64 x)), (7, .pv (.int .i64 l.length)), (8, .pv (.int .i64 i))], h := [], nx := 0 }) l.length (fun i => ∀ j, j < i → decide (x = gt l (j : Nat)) = false) (by simp) (by simp) (by simp [ints]) fun i hi hinv => ?_
  by_cases hlt : i < l.length
  · simp [ints, hlt, nth_gt_nat (f := PV.int .i64) hlt]
    refine ⟨fun h => (fstI_some (by omega) (by simp [h]) hinv).symm, fun h => ⟨fun j hj => ?_, wrap_nat (by omega) (by omega)⟩⟩
    rcases Nat.lt_or_eq_of_le (Nat.le_of_lt_succ hj) with hj | rfl
    · simpa using hinv j hj
    · exact h
  · simp [ints, hlt]
    exact (fstI_none fun j hj => hinv j (by omega)).symm
theorem p_slices_Contains_int_int (gl : Glob) (l : List Int) (x : Int) : PCall Tryd.prog gl 57 [.pv (.lst 1 (ints l)), .pv (.int .i64 x)] (.pv (.bool (l.any fun y => decide (x = y)))) := by
  refine k_slices_Contains_int_int.pcall (by simp) (by simp) (by simp) fun hwf => ?_
  simp [c_slices_Contains_int_int]
  refine CallNext.pure (p_slices_Index_int_int gl l x) fun _ => ?_
  simp [fstI_nonneg]
end Go.Proofs.YthocoandbiaoiaaDoorV

namespace Go.Proofs.YthocoandbiaoiaaDoorV
open Go
theorem DV.ren_id {n : Nat} {ρ : Nat → Nat} (hρ : ∀ i, i < n → ρ i = i) : ∀ d : DV, (d.nm fun i => i < n) → d.ren ρ = d
  | .own id _ _, h | .mrow id _ _ _, h | .ptr id _, h | .mref id, h | .stmp id _, h => by rw [DV.nm] at h; rw [DV.ren, hρ _ h]
  | .agg cs, h => by
    rw [DV.nm_agg] at h; rw [ren_agg]
    congr 1
    exact (List.map_congr_left fun c hc => DV.ren_id hρ c (h c hc)).trans (List.map_id' _)
  | .tup cs, h => by
    rw [DV.nm_tup] at h; rw [ren_tup]
    congr 1
    exact (List.map_congr_left fun c hc => DV.ren_id hρ c (h c hc)).trans (List.map_id' _)
  | .fn f a b, h => by
    rw [DV.nm_fn] at h; rw [ren_fn]
    congr 1
    · exact (List.map_congr_left fun c hc => DV.ren_id hρ c (h.1 c hc)).trans (List.map_id' _)
    · exact (List.map_congr_left fun c hc => DV.ren_id hρ c (h.2 c hc)).trans (List.map_id' _)
  | .ifc t d, h => by rw [DV.nm] at h; rw [ren_ifc, DV.ren_id hρ d h]
  | .gd b d, h => by rw [DV.nm] at h; rw [ren_gd, DV.ren_id hρ d h]
  | .pv _, _ | .nilS _, _ | .flit _ _, _ | .eptr _, _ | .nilP, _ | .nilF, _ | .nilM, _ | .nilI, _ | .junk, _ => by simp
termination_by d => SizeOf.sizeOf d
decreasing_by all_goals (first | (have := List.sizeOf_lt_of_mem hc; simp_wf; omega) | (simp_wf; omega) | simp_wf)
def Ob.bel (n : Nat) : Ob → Prop
  | .box cs => ∀ c ∈ cs, c.nm fun i => i < n
  | .mp es => ∀ x ∈ es, x.2.nm fun i => i < n
  | .lrec _ _ _ e => ∀ x ∈ e, x.2.nm fun i => i < n
  | .tip _ _ => True
theorem Ob.ren_id {n : Nat} {ρ : Nat → Nat} (hρ : ∀ i, i < n → ρ i = i) {o : Ob} (h : o.bel n) : o.ren ρ = o := by
  cases o with
  | box cs => simp only [Ob.ren]; congr 1; exact (List.map_congr_left fun c hc => DV.ren_id hρ c (h c hc)).trans (List.map_id' _)
  | tip _ _ => rfl
  | mp es => simp only [Ob.ren]; congr 1; exact (List.map_congr_left fun c hc => by rw [DV.ren_id hρ _ (h c hc)]).trans (List.map_id' _)
  | lrec l r st e => simp only [Ob.ren]; congr 1; exact (List.map_congr_left fun c hc => by rw [DV.ren_id hρ _ (h c hc)]).trans (List.map_id' _)
def heapBel (n : Nat) (H : Heap) : Prop := ∀ x ∈ H, x.1 < n ∧ x.2.bel n
theorem rh_range {n nx i : Nat} (h : i < n) : rh (List.range n) nx i = i := by simp [rh, h]
theorem renH_id {n nx : Nat} : ∀ {H : Heap}, heapBel n H → renH (List.range n) nx H = H
  | [], _ => rfl
  | (i, o) :: r, h => by
    have h0 := h (i, o) (.head _)
    rw [renH, rh_range h0.1, Ob.ren_id (fun i hi => rh_range hi) h0.2, renH_id fun x hx => h x (.tail _ hx)]
theorem sameH_id {n nx : Nat} {h : Heap} : ∀ {H : Heap}, heapBel n H → (∀ x ∈ H, hget h x.1 = some x.2) → sameH (List.range n) nx h H
  | [], _, _ => trivial
  | (i, o) :: r, hb, hs => by
    have h0 := hb (i, o) (.head _)
    refine ⟨?_, sameH_id (fun x hx => hb x (.tail _ hx)) fun x hx => hs x (.tail _ hx)⟩
    rw [rh_range h0.1, Ob.ren_id (fun i hi => rh_range hi) h0.2]
    exact hs _ (.head _)
theorem CallNext.same {P : Program} {gl : Glob} {f : Fn} {ds : List DV} {s : St} {dst : Option Nat} {K : St → Prop} (n : Nat) {H H' : Heap} {d : DV} (h : ACall P gl f n ds H d H' n) (hn : n ≤ s.nx) (hb : heapBel n H) (hb' : heapBel n H')
    (hs : ∀ x ∈ H, hget s.h x.1 = some x.2) (hk : d.wf → K ⟨eput s.e dst d, H' ++ dropH (List.range n) s.h, s.nx⟩) : CallNext P gl f ds s dst K := by
  have hlen : (List.range n).length = n := by simp
  have hd : d.ren (rh (List.range n) s.nx) = d := DV.ren_id (fun i hi => rh_range hi) d h.res
  refine CallNext.obs (List.range n) (ds0 := ds) (H := H) (H' := H') (d := d) (n' := n) (by rw [hlen]; exact h) List.nodup_range (fun i hi => by have := List.mem_range.1 hi; omega) ?_ (sameH_id hb hs) fun hw => ?_
  · exact (List.map_congr_left fun c hc => DV.ren_id (fun i hi => rh_range hi) c (h.args c hc)).trans (List.map_id' _)
  · rw [hd] at hw ⊢
    rw [renH_id hb', hlen, Nat.sub_self, Nat.add_zero]
    exact hk hw
theorem DCallNext.obs' {P : Program} {gl : Glob} {n1 : Nat} {pr : List (List Nat)} {K : St → Prop} {r : List Ins} {acc : Rl} {s : St} {dst : Option Nat} {f : FuncId} {ds : List DV} (ρ : List Nat) {ds0 : List DV} {H H' : Heap} {d : DV} {n' : Nat} (h : ACall P gl (.func f) ρ.length ds0 H d H' n')
    (hdom : (List.range ρ.length).all (fun i => (hget H i).isSome && (hget H' i).isSome) = true) (hnd : ρ.Nodup) (hn : n' ≤ ρ.length + 1)
    (hds : ds0.map (·.ren (rh ρ s.nx)) = ds) (hnd' : (H'.map (·.1)).Nodup) (hs : sameH ρ s.nx s.h H)
    (hk : dvc P gl n1 pr K r ((H'.map fun x => rh ρ s.nx x.1, ρ) :: acc) ⟨eput s.e dst (d.ren (rh ρ s.nx)), upd s.h (renH ρ s.nx H'), s.nx + 1⟩) : DCallNext P gl n1 pr K r acc s dst (.func f) ds :=
  DCallNext.obs ρ h hnd hn hds (fun i hi => by have := List.all_eq_true.1 hdom i (List.mem_range.2 hi); simpa using this) hnd' hs hk
def stopF {σ : Type} (f : σ → Tm → σ × Bool) : σ → List Tm → σ × Bool
  | s, [] => (s, true)
  | s, t :: r => if (f s t).2 then stopF f (f s t).1 r else ((f s t).1, false)
theorem stopF_append {σ : Type} (f : σ → Tm → σ × Bool) (s : σ) (a b : List Tm) : stopF f s (a ++ b) = if (stopF f s a).2 then stopF f (stopF f s a).1 b else ((stopF f s a).1, false) := by
  induction a generalizing s with
  | nil => simp [stopF]
  | cons t r ih =>
    simp only [List.cons_append, stopF]
    by_cases h : (f s t).2 = true
    · simp only [h, if_true, ih]
    · simp [h]
theorem Tm.preL_drop {l : List Tm} {i : Nat} (h : i < l.length) : Tm.preL (l.drop i) = (gt l i).pre ++ Tm.preL (l.drop (i + 1)) := by
  rw [List.drop_eq_getElem_cons h, Tm.preL, gt_nat h]
end Go.Proofs.YthocoandbiaoiaaDoorV

namespace Go.Proofs.YthocoandbiaoiaaDoorV
open Go
theorem CallNext.data {P : Program} {gl : Glob} {f : FuncId} {ds : List DV} {s : St} {dst : Option Nat} {K : St → Prop} {d : DV} (h : PCall P gl f ds d) (hk : K ⟨eput s.e dst d, s.h, s.nx⟩) : CallNext P gl (.func f) ds s dst K := .pure h fun _ => hk
theorem RfVC.all {P : Program} {gl : Glob} {n : Nat} {e0 : Env} {ps : List Nat} {vx vy : (Ex → St → Prop) → St → Prop} {gf : FuncId} {cs : List DV} {Q : Ex → St → Prop} (N : Nat) (HS : Nat → Heap) (av : Nat → List DV) (st : Heap) (hst : st = HS 0)
    (hc : ∀ x ∈ cs, x.nm fun i => i < n) (hav : ∀ i, i < N → (av i).length = ps.length ∧ ∀ d ∈ av i, d.nm fun j => j < n) (hnm : ∀ i, i ≤ N → heapNm n (HS i))
    (hgf : ∀ l R, (∀ i, i < N → ACall P gl (.yield l) (n + 1) (av i) ((n, .lrec l R none e0) :: HS i) (.pv (.bool true)) ((n, .lrec l R none e0) :: HS (i + 1)) (n + 1)) →
      ACall P gl (.func gf) (n + 1) (([DV.fn (.yield l) [] []] ++ cs).map DV.norm) ((n, .lrec l R none e0) :: HS 0) (.tup []) ((n, .lrec l R none e0) :: HS N) (n + 1))
    (hround : ∀ i, i < N → vx (fun e s' => match e with | .nrm => vy (fun e s'' => exJump e = none ∧ ∃ ob, kobs s''.h ob = HS (i + 1)) s' | _ => False) { e := ps.zip (av i) ++ e0, h := HS i, nx := n })
    (hQ : Q .nrm { e := e0, h := HS N, nx := n }) :
    RfVC P gl n e0 st ps vx vy gf [] cs Q := by
  subst hst
  refine ⟨by simpa using hc, none, HS N, n + 1, .tup [], hnm N (Nat.le_refl _), fun l R hr => ?_, hQ⟩
  have h := hgf l R fun i hi => by
    have := hr (av i) (HS i) none (HS (i + 1)) (hav i hi).1 (hav i hi).2 (hnm i (by omega)) (hnm (i + 1) hi) (hround i hi)
    simpa using this
  simpa using h
theorem RfVC.sts {P : Program} {gl : Glob} {n : Nat} {e0 : Env} {ps : List Nat} {vx vy : (Ex → St → Prop) → St → Prop} {gf : FuncId} {cs : List DV} {Q : Ex → St → Prop} {σ : Type} (HS : σ → Heap) (I : σ → Prop) (nx : σ → σ) (av : σ → List DV) (s0 s1 : σ) (st : Heap) (hst : st = HS s0)
    (hc : ∀ x ∈ cs, x.nm fun i => i < n) (hav : ∀ s, I s → (av s).length = ps.length ∧ ∀ d ∈ av s, d.nm fun j => j < n) (hnm : ∀ s, heapNm n (HS s))
    (hgf : ∀ l R, (∀ s, I s → ACall P gl (.yield l) (n + 1) (av s) ((n, .lrec l R none e0) :: HS s) (.pv (.bool true)) ((n, .lrec l R none e0) :: HS (nx s)) (n + 1)) →
      ACall P gl (.func gf) (n + 1) (([DV.fn (.yield l) [] []] ++ cs).map DV.norm) ((n, .lrec l R none e0) :: HS s0) (.tup []) ((n, .lrec l R none e0) :: HS s1) (n + 1))
    (hround : ∀ s, I s → vx (fun e s' => match e with | .nrm => vy (fun e s'' => exJump e = none ∧ ∃ ob, kobs s''.h ob = HS (nx s)) s' | _ => False) { e := ps.zip (av s) ++ e0, h := HS s, nx := n })
    (hQ : Q .nrm { e := e0, h := HS s1, nx := n }) :
    RfVC P gl n e0 st ps vx vy gf [] cs Q := by
  subst hst
  refine ⟨by simpa using hc, none, HS s1, n + 1, .tup [], hnm s1, fun l R hr => ?_, hQ⟩
  have h := hgf l R fun s hi => by
    have := hr (av s) (HS s) none (HS (nx s)) (hav s hi).1 (hav s hi).2 (hnm s) (hnm _) (hround s hi)
    simpa using this
  simpa using h
end Go.Proofs.YthocoandbiaoiaaDoorV

namespace Go.Proofs.YthocoandbiaoiaaDoorV
open Go
def topsN (m : Mach) : Nat → List Int
  | 0 => []
  | i + 1 => topsN m i ++ if (gt m.regs (i : Nat)).of = -1 then [(i : Int)] else []
def tops (m : Mach) : List Int := topsN m m.regs.length
def topOf (m : Mach) (reg : Int) : Int := if (gt m.regs reg).of = -1 then reg else (gt m.regs reg).of
def place (l : List Int) (x : Int) : Nat := l.idxOf x
def partI (m : Mach) (reg : Int) : Int × Int × Int := if inR reg 0 (m.regs.length - 1) then (((place (tops m) (topOf m reg) : Nat) : Int), (gt m.regs reg).low, (gt m.regs reg).width) else (0, 0, 0)
def partE (m : Mach) (reg : Int) : Int := if mcheck m = 0 then if inR reg 0 (m.regs.length - 1) then 0 else 2 else mcheck m
def overB (m : Mach) (a b : Int) : Bool :=
  decide ((partI m a).1 = (partI m b).1) && decide ((partI m a).2.1 < (partI m b).2.1 + (partI m b).2.2) && decide ((partI m b).2.1 < (partI m a).2.1 + (partI m a).2.2)
def overE (m : Mach) (a b : Int) : Int := if partE m a = 0 then partE m b else partE m a
def sumN (f : Nat → Nat) : Nat → Nat
  | 0 => 0
  | n + 1 => sumN f n + f n
def effNodes (x : Eff) : Nat := x.addr.nodes + x.value.nodes + x.cond.nodes
def insNodes (s : Ins_) (k : Nat) : Nat := sumN (fun k => effNodes (gt s.effects (k : Nat))) k
def machNodes (m : Mach) (i : Nat) : Nat := sumN (fun i => insNodes (gt m.instrs (i : Nat)) (gt m.instrs (i : Nat)).effects.length) i
def greatBk (b : Bank) : Bool := decide (74 < b.regs.length) || decide (100 < b.name.size)
def greatOp (o : Opnd) : Bool := decide (14 < o.pieces.length) || decide (100 < o.name.size)
def greatEf (x : Eff) : Bool := x.addr.great || x.value.great || x.cond.great
def greatIn (s : Ins_) : Bool := decide (14 < s.operands.length) || decide (14 < s.effects.length) || decide (100 < s.name.size) || s.operands.any greatOp || s.effects.any greatEf
def greatM (m : Mach) : Bool :=
  decide (100 < m.name.size) || decide (74 < m.regs.length) || decide (26 < m.banks.length) || decide (18 < m.units.length) || decide (74 < m.instrs.length) || m.banks.any greatBk || m.instrs.any greatIn || decide (1500 < machNodes m m.instrs.length)
theorem sumN_le {f : Nat → Nat} {c : Nat} : ∀ {n : Nat}, (∀ i, i < n → f i ≤ c) → sumN f n ≤ n * c
  | 0, _ => by simp [sumN]
  | n + 1, h => by
    have h1 := sumN_le (f := f) (c := c) (n := n) fun i hi => h i (by omega)
    have h2 := h n (by omega)
    rw [sumN, Nat.add_mul]; omega
def fndI {α : Type} (m : Mach) (l : List α) (p : α → Bool) : Int := if mcheck m = 0 then if fstI p l < 0 then 0 else fstI p l else 0
def fndE {α : Type} (m : Mach) (l : List α) (p : α → Bool) : Int := if mcheck m = 0 then if fstI p l < 0 then 6 else 0 else mcheck m
def rootsL (m : Mach) : List Int := if mcheck m = 0 then tops m else []
def partR (m : Mach) (reg : Int) : Int × Int × Int := if mcheck m = 0 then partI m reg else (0, 0, 0)
def overR (m : Mach) (a b : Int) : Bool := decide (overE m a b = 0) && overB m a b
theorem topsN_lt (m : Mach) : ∀ n, ∀ x ∈ topsN m n, 0 ≤ x ∧ x < n
  | 0, x, h => by simp [topsN] at h
  | n + 1, x, h => by
    rw [topsN, List.mem_append] at h
    rcases h with h | h
    · have := topsN_lt m n x h; omega
    · split at h
      · simp only [List.mem_singleton] at h; omega
      · simp at h
theorem topsN_sorted (m : Mach) : ∀ n, (topsN m n).Pairwise (· < ·)
  | 0 => by simp [topsN]
  | n + 1 => by
    rw [topsN, List.pairwise_append]
    refine ⟨topsN_sorted m n, by split <;> simp, fun a ha b hb => ?_⟩
    have h1 := topsN_lt m n a ha
    split at hb
    · simp only [List.mem_singleton] at hb; omega
    · simp at hb
theorem topsN_len (m : Mach) : ∀ n, (topsN m n).length ≤ n
  | 0 => by simp [topsN]
  | n + 1 => by
    have := topsN_len m n
    rw [topsN, List.length_append]
    split <;> simp <;> omega
theorem mem_topsN (m : Mach) {i : Nat} : ∀ n, i < n → (gt m.regs (i : Nat)).of = -1 → (i : Int) ∈ topsN m n
  | 0, h, _ => by omega
  | n + 1, h, ho => by
    rw [topsN, List.mem_append]
    rcases Nat.lt_or_eq_of_le (Nat.le_of_lt_succ h) with h | rfl
    · exact .inl (mem_topsN m n h ho)
    · right; rw [if_pos ho]; simp
theorem topOf_mem {m : Mach} (hr : okRegs m = true) {reg : Int} (h : inR reg 0 (m.regs.length - 1) = true) : topOf m reg ∈ tops m := by
  have h1 : 0 ≤ reg ∧ reg ≤ (m.regs.length : Int) - 1 := by simpa [inR] using h
  simp only [okRegs, Bool.and_eq_true] at hr
  have h2 := allB_true.1 hr.1 reg.toNat (by omega)
  simp only [rgOk, Bool.and_eq_true] at h2
  rw [Int.toNat_of_nonneg h1.1] at h2
  have h3 := h2.2
  unfold topOf
  split at h3
  · rename_i ho
    rw [if_pos ho]
    obtain ⟨i, rfl⟩ := Int.eq_ofNat_of_zero_le h1.1
    exact mem_topsN m _ (by omega) ho
  · rename_i ho
    rw [if_neg ho]
    simp only [Bool.and_eq_true, decide_eq_true_eq] at h3
    have h4 : 0 ≤ (gt m.regs reg).of ∧ (gt m.regs reg).of ≤ (m.regs.length : Int) - 1 := by simpa [inR] using h3.1
    obtain ⟨i, hi⟩ := Int.eq_ofNat_of_zero_le h4.1
    have h5 := h3.2.1.1.1
    rw [hi] at h5 h4 ⊢
    exact mem_topsN m _ (by omega) h5
theorem low_of {m : Mach} (hr : okRegs m = true) {reg : Int} (h : inR reg 0 (m.regs.length - 1) = true) : 0 ≤ (gt m.regs reg).low ∧ (gt m.regs reg).low ≤ 64 ∧ 1 ≤ (gt m.regs reg).width ∧ (gt m.regs reg).width ≤ 64 := by
  have h1 : 0 ≤ reg ∧ reg ≤ (m.regs.length : Int) - 1 := by simpa [inR] using h
  simp only [okRegs, Bool.and_eq_true] at hr
  have h2 := allB_true.1 hr.1 reg.toNat (by omega)
  simp only [rgOk, Bool.and_eq_true] at h2
  rw [Int.toNat_of_nonneg h1.1] at h2
  have h3 := h2.2
  have h4 : 1 ≤ (gt m.regs reg).width ∧ (gt m.regs reg).width ≤ 64 := by simpa [inR] using h2.1.1.2
  split at h3
  · simp only [decide_eq_true_eq] at h3; omega
  · simp only [Bool.and_eq_true, decide_eq_true_eq] at h3
    have h5 : 1 ≤ (gt m.regs (gt m.regs reg).of).width ∧ (gt m.regs (gt m.regs reg).of).width ≤ 64 := by simpa [inR] using h3.2.1.1.2
    have h6 : 0 ≤ (gt m.regs reg).low ∧ (gt m.regs reg).low ≤ (gt m.regs (gt m.regs reg).of).width - (gt m.regs reg).width := by simpa [inR] using h3.2.2
    omega
theorem first_place {l : List Int} {x : Int} {i : Nat} (hi : i < l.length) (he : gt l (i : Nat) = x) (hn : ∀ k, k < i → gt l (k : Nat) ≠ x) : place l x = i := by
  induction l generalizing i with
  | nil => simp at hi
  | cons a r ih =>
    unfold place
    cases i with
    | zero =>
      have : a = x := by simpa [gt] using he
      rw [List.idxOf_cons, this]; simp
    | succ i =>
      have h0 : a ≠ x := by have := hn 0 (by omega); simpa [gt] using this
      have hi' : i < r.length := by simpa using hi
      rw [gt_cons hi'] at he
      have := ih hi' he fun k hk => by have := hn (k + 1) (by omega); rwa [gt_cons (by omega)] at this
      rw [List.idxOf_cons, show (a == x) = false from by simp [h0]]
      unfold place at this
      simp [this]
theorem place_gt {l : List Int} {x : Int} (h : x ∈ l) : place l x < l.length ∧ gt l ((place l x : Nat) : Int) = x := by
  have h1 : l.idxOf x < l.length := List.idxOf_lt_length_iff.2 h
  refine ⟨h1, ?_⟩
  unfold place
  rw [gt_nat h1]; exact List.getElem_idxOf h1
theorem sorted_gt {l : List Int} (hs : l.Pairwise (· < ·)) {i k : Nat} (h : i < k) (hk : k < l.length) : gt l (i : Nat) < gt l (k : Nat) := by
  rw [gt_nat hk, gt_nat (by omega)]
  exact List.pairwise_iff_getElem.1 hs i k _ hk h
theorem sorted_place {l : List Int} (hs : l.Pairwise (· < ·)) {x : Int} (hx : x ∈ l) {i : Nat} (hi : i ≤ l.length) (h1 : ∀ k, k < i → gt l (k : Nat) < x) (h2 : ∀ k, i ≤ k → k < l.length → x ≤ gt l (k : Nat)) : place l x = i := by
  obtain ⟨hp, he⟩ := place_gt hx
  rcases Nat.lt_trichotomy (place l x) i with h | h | h
  · have := h1 _ h; omega
  · exact h
  · have h3 := h2 i (Nat.le_refl _) (by omega)
    have h4 := sorted_gt hs h hp
    omega
theorem fstI_le {α : Type} {l : List α} {p : α → Bool} : -1 ≤ fstI p l ∧ fstI p l < l.length ∨ l = [] ∧ fstI p l = -1 := by
  unfold fstI
  split
  · rename_i i h
    rw [List.findIdx?_eq_some_iff_getElem] at h
    obtain ⟨h1, -⟩ := h
    left; omega
  · by_cases h : l = []
    · exact .inr ⟨h, rfl⟩
    · have := List.length_pos_iff.2 h; left; omega
theorem over_eq {m : Mach} (hr : okRegs m = true) {a b : Int} (ha : inR a 0 (m.regs.length - 1) = true) (hb : inR b 0 (m.regs.length - 1) = true) :
    overB m a b = (decide ((partI m a).1 = (partI m b).1) && decide (max (partI m a).2.1 (partI m b).2.1 < min ((partI m a).2.1 + (partI m a).2.2) ((partI m b).2.1 + (partI m b).2.2))) := by
  have h1 := low_of hr ha
  have h2 := low_of hr hb
  rw [overB, Bool.and_assoc]
  congr 1
  rw [← Bool.decide_and, decide_eq_decide]
  simp only [partI, ha, hb, if_true]
  omega
theorem mcheck_regs {m : Mach} (h : mcheck m = 0) : okRegs m = true ∧ inLimits m = true := by
  unfold mcheck at h
  split at h
  · rename_i hl
    split at h
    · rename_i hb
      simp only [Bool.and_eq_true] at hb
      exact ⟨hb.1.1.1.2, hl⟩
    · omega
  · omega
theorem mach_bd {m : Mach} (h : m.pv.wf) : m.regs.length ≤ 9223372036854775807 ∧ m.banks.length ≤ 9223372036854775807 ∧ m.units.length ≤ 9223372036854775807 ∧ m.instrs.length ≤ 9223372036854775807 ∧ (∀ b ∈ m.banks, b.regs.length ≤ 9223372036854775807) ∧ ∀ s ∈ m.instrs, s.operands.length ≤ 9223372036854775807 := by
  rw [Mach.wf_pv] at h; simp [-Mach.fold, maxLen] at h
  obtain ⟨-, -, -, ⟨h1, -⟩, ⟨h2, h5⟩, ⟨h3, -⟩, ⟨h4, h6⟩⟩ := h
  refine ⟨h1, h2, h3, h4, fun b hb => ?_, fun s hs => ?_⟩
  · have := h5 b hb; rw [Bank.wf_pv] at this; simp [-Bank.fold, maxLen, ints] at this; exact this.2.1
  · have := h6 s hs; rw [Ins_.wf_pv] at this; simp [-Ins_.fold, maxLen] at this; exact this.2.2.2.1.1
end Go.Proofs.YthocoandbiaoiaaDoorV

namespace Go.Proofs.YthocoandbiaoiaaDoorV
open Go
set_option maxRecDepth 100000
/- "retarget/machine.Check" -/
def c_machine_Check : C :=
.seq (.reg [⟨some 1, none, .box 7 (.t 0)⟩, ⟨some 2, none, .mov (.c (.pv (.int .i64 0)))⟩]) (.seq (.seq (.reg [⟨some 7, none, .load (some 7) (.t 1)⟩, ⟨some 8, none, .callf 33 [(.t 7)]⟩, ⟨some 9, none, .un .not (.t 8)⟩]) (.cond (.t 9) (.seq (.reg [⟨some 2, none, .mov (.c (.pv (.int .i64 4)))⟩]) (.ret)) (.skip))) (.seq (.reg [⟨some 10, none, .load (some 7) (.t 1)⟩, ⟨some 11, none, .build [.pv (.str ⟨#[]⟩), .pv (.int .i64 0), .pv (.int .i64 0), .nilS 4, .nilS 2, .nilS 2, .nilS 9, .pv (.bool false)] [((0, 7), (.t 10)), ((7, 1), (.c (.pv (.bool true))))]⟩, ⟨some 12, none, .box 8 (.t 11)⟩, ⟨some 3, none, .mov (.t 12)⟩]) (.seq (.dreg [⟨some 13, none, .mov (.t 3)⟩, ⟨some 14, none, .fad 0 (.t 1)⟩, ⟨some 15, none, .load none (.t 14)⟩, ⟨some 16, none, .callf 35 [(.t 15)]⟩, ⟨some 17, none, .fad 1 (.t 1)⟩, ⟨some 18, none, .load none (.t 17)⟩, ⟨some 19, none, .callf 36 [(.t 18), (.c (.pv (.int .i64 1))), (.c (.pv (.int .i64 4)))]⟩, ⟨some 20, none, .fad 2 (.t 1)⟩, ⟨some 21, none, .load none (.t 20)⟩, ⟨some 22, none, .bin .eql (.t 21) (.c (.pv (.int .i64 16)))⟩, ⟨some 23, none, .mov (.t 22)⟩, ⟨some 24, some (23, false), .fad 2 (.t 1)⟩, ⟨some 25, some (23, false), .load none (.t 24)⟩, ⟨some 26, some (23, false), .bin .eql (.t 25) (.c (.pv (.int .i64 32)))⟩, ⟨some 27, none, .lor (.t 23) (.t 26)⟩, ⟨some 28, none, .lit 1 [(.t 16), (.t 19), (.t 27)]⟩, ⟨some 29, none, .callf 34 [(.t 13), (.t 28)]⟩] [[], [], [1], [1, 2], [], [4], [1, 2, 3, 4, 5], [], [7], [7, 8], [1, 2, 3, 4, 5, 6, 7, 8, 9], [1, 2, 3, 4, 5, 6, 7, 8, 9, 10], [1, 2, 3, 4, 5, 6, 7, 8, 9, 10, 11], [1, 2, 3, 4, 5, 6, 7, 8, 9, 10, 11, 12], [1, 2, 3, 4, 5, 6, 7, 8, 9, 10, 11, 12, 13], [1, 2, 3, 4, 5, 6, 7, 8, 9, 10, 11, 12, 13, 14], [0, 1, 2, 3, 4, 5, 6, 7, 8, 9, 10, 11, 12, 13, 14, 15]]) (.seq (.reg [⟨some 30, none, .mov (.t 3)⟩, ⟨some 31, none, .callf 37 [(.t 30)]⟩]) (.seq (.reg [⟨some 32, none, .mov (.t 3)⟩, ⟨some 33, none, .callf 38 [(.t 32)]⟩]) (.seq (.reg [⟨some 34, none, .mov (.t 3)⟩, ⟨some 35, none, .callf 39 [(.t 34)]⟩]) (.seq (.reg [⟨some 4, none, .alloc [.nilS 1]⟩]) (.gh (.ownf 4 0 1) (.seq (.seq (.reg [⟨some 36, none, .fad 6 (.t 1)⟩, ⟨some 37, none, .load none (.t 36)⟩, ⟨some 38, none, .len (.t 37)⟩, ⟨some 39, none, .mov (.c (.pv (.int .i64 0)))⟩]) (.blk 0 (.loop ⟨[3, 4, 37, 38, 39], [0, 1, 19, 20], 21⟩ (.seq (.reg [⟨some 40, none, .bin .lss (.t 39) (.t 38)⟩]) (.seq (.cond (.t 40) (.skip) (.ext 0)) (.seq (.blk 1 (.seq (.reg [⟨some 41, none, .iad 9 (.t 37) (.t 39)⟩, ⟨some 42, none, .load (some 9) (.t 41)⟩, ⟨some 6, none, .alloc [.pv (.str ⟨#[]⟩), .pv (.int .u64 0), .pv (.int .u64 0), .nilS 6, .nilS 21, .pv (.int .i64 0), .pv (.int .i64 0), .pv (.int .i64 0), .pv (.int .i64 0)]⟩, ⟨none, none, .store 9 (.t 6) (.t 42)⟩]) (.seq (.seq (.reg [⟨some 43, none, .mov (.t 3)⟩, ⟨some 44, none, .nilc (.t 43)⟩, ⟨some 45, none, .fad 7 (.t 44)⟩, ⟨some 46, none, .load none (.t 45)⟩, ⟨some 47, none, .un .not (.t 46)⟩]) (.cond (.t 47) (.ext 0) (.skip))) (.seq (.reg [⟨some 48, none, .mov (.t 3)⟩, ⟨some 49, none, .fad 0 (.t 6)⟩, ⟨some 50, none, .load none (.t 49)⟩, ⟨some 51, none, .callf 40 [(.t 4), (.t 50)]⟩, ⟨some 52, none, .lit 1 [(.t 51)]⟩, ⟨some 53, none, .callf 34 [(.t 48), (.t 52)]⟩]) (.reg [⟨some 54, none, .mov (.t 3)⟩, ⟨some 55, none, .load (some 9) (.t 6)⟩, ⟨some 56, none, .callf 41 [(.t 54), (.t 55)]⟩]))))) (.reg [⟨some 57, none, .bin .add (.t 39) (.c (.pv (.int .i64 1)))⟩, ⟨some 39, none, .mov (.t 57)⟩]))))))) (.seq (.seq (.reg [⟨some 58, none, .mov (.t 3)⟩, ⟨some 59, none, .nilc (.t 58)⟩, ⟨some 60, none, .fad 7 (.t 59)⟩, ⟨some 61, none, .load none (.t 60)⟩, ⟨some 62, none, .un .not (.t 61)⟩]) (.cond (.t 62) (.seq (.reg [⟨some 2, none, .mov (.c (.pv (.int .i64 8)))⟩]) (.ret)) (.skip))) (.seq (.reg [⟨some 2, none, .mov (.c (.pv (.int .i64 0)))⟩]) (.ret))))))))))))
theorem k_machine_Check : FnOk Tryd.prog 14 63 c_machine_Check [.tmp 2] := .mk' (fn := Tryd.f14) rfl rfl (by kernel_rfl) rfl (by kernel_rfl) (by kernel_rfl)
/- "retarget/machine.small" -/
def c_machine_small : C :=
.seq (.reg [⟨some 1, none, .box 7 (.t 0)⟩, ⟨some 2, none, .mov (.c (.pv (.bool false)))⟩]) (.seq (.reg [⟨some 10, none, .fad 3 (.t 1)⟩, ⟨some 11, none, .load none (.t 10)⟩, ⟨some 12, none, .len (.t 11)⟩, ⟨some 13, none, .lit 1 [(.t 12)]⟩, ⟨some 14, none, .callr 56 [(.c (.pv (.int .i64 64))), (.t 13)]⟩, ⟨some 15, none, .mov (.t 14)⟩, ⟨some 16, some (15, true), .fad 4 (.t 1)⟩, ⟨some 17, some (15, true), .load none (.t 16)⟩, ⟨some 18, some (15, true), .len (.t 17)⟩, ⟨some 19, some (15, true), .lit 1 [(.t 18)]⟩, ⟨some 20, some (15, true), .callr 56 [(.c (.pv (.int .i64 16))), (.t 19)]⟩, ⟨some 21, none, .land (.t 15) (.t 20)⟩, ⟨some 22, none, .mov (.t 21)⟩, ⟨some 23, some (22, true), .fad 5 (.t 1)⟩, ⟨some 24, some (22, true), .load none (.t 23)⟩, ⟨some 25, some (22, true), .len (.t 24)⟩, ⟨some 26, some (22, true), .lit 1 [(.t 25)]⟩, ⟨some 27, some (22, true), .callr 56 [(.c (.pv (.int .i64 8))), (.t 26)]⟩, ⟨some 28, none, .land (.t 22) (.t 27)⟩, ⟨some 29, none, .mov (.t 28)⟩, ⟨some 30, some (29, true), .fad 6 (.t 1)⟩, ⟨some 31, some (29, true), .load none (.t 30)⟩, ⟨some 32, some (29, true), .len (.t 31)⟩, ⟨some 33, some (29, true), .lit 1 [(.t 32)]⟩, ⟨some 34, some (29, true), .callr 56 [(.c (.pv (.int .i64 64))), (.t 33)]⟩, ⟨some 35, none, .land (.t 29) (.t 34)⟩, ⟨some 3, none, .mov (.t 35)⟩]) (.seq (.seq (.reg [⟨some 36, none, .fad 4 (.t 1)⟩, ⟨some 37, none, .load none (.t 36)⟩, ⟨some 38, none, .len (.t 37)⟩, ⟨some 39, none, .mov (.c (.pv (.int .i64 0)))⟩]) (.blk 0 (.loop ⟨[1, 3, 37, 38, 39], [0], 1⟩ (.seq (.reg [⟨some 40, none, .bin .lss (.t 39) (.t 38)⟩]) (.seq (.cond (.t 40) (.skip) (.ext 0)) (.seq (.blk 1 (.seq (.reg [⟨some 41, none, .iad 2 (.t 37) (.t 39)⟩, ⟨some 42, none, .load (some 2) (.t 41)⟩, ⟨some 5, none, .alloc [.pv (.str ⟨#[]⟩), .nilS 1]⟩, ⟨none, none, .store 2 (.t 5) (.t 42)⟩]) (.reg [⟨some 43, none, .mov (.t 3)⟩, ⟨some 44, none, .mov (.t 43)⟩, ⟨some 45, some (44, true), .fad 1 (.t 5)⟩, ⟨some 46, some (44, true), .load none (.t 45)⟩, ⟨some 47, some (44, true), .len (.t 46)⟩, ⟨some 48, some (44, true), .lit 1 [(.t 47)]⟩, ⟨some 49, some (44, true), .callr 56 [(.c (.pv (.int .i64 64))), (.t 48)]⟩, ⟨some 50, none, .land (.t 44) (.t 49)⟩, ⟨some 3, none, .mov (.t 50)⟩]))) (.reg [⟨some 51, none, .bin .add (.t 39) (.c (.pv (.int .i64 1)))⟩, ⟨some 39, none, .mov (.t 51)⟩]))))))) (.seq (.seq (.reg [⟨some 52, none, .fad 6 (.t 1)⟩, ⟨some 53, none, .load none (.t 52)⟩, ⟨some 54, none, .len (.t 53)⟩, ⟨some 55, none, .mov (.c (.pv (.int .i64 0)))⟩]) (.blk 2 (.loop ⟨[3, 53, 54, 55], [0], 1⟩ (.seq (.reg [⟨some 56, none, .bin .lss (.t 55) (.t 54)⟩]) (.seq (.cond (.t 56) (.skip) (.ext 2)) (.seq (.blk 3 (.seq (.reg [⟨some 57, none, .iad 9 (.t 53) (.t 55)⟩, ⟨some 58, none, .load (some 9) (.t 57)⟩, ⟨some 7, none, .alloc [.pv (.str ⟨#[]⟩), .pv (.int .u64 0), .pv (.int .u64 0), .nilS 6, .nilS 21, .pv (.int .i64 0), .pv (.int .i64 0), .pv (.int .i64 0), .pv (.int .i64 0)]⟩, ⟨none, none, .store 9 (.t 7) (.t 58)⟩]) (.seq (.reg [⟨some 59, none, .mov (.t 3)⟩, ⟨some 60, none, .mov (.t 59)⟩, ⟨some 61, some (60, true), .fad 3 (.t 7)⟩, ⟨some 62, some (60, true), .load none (.t 61)⟩, ⟨some 63, some (60, true), .len (.t 62)⟩, ⟨some 64, some (60, true), .lit 1 [(.t 63)]⟩, ⟨some 65, some (60, true), .callr 56 [(.c (.pv (.int .i64 4))), (.t 64)]⟩, ⟨some 66, none, .land (.t 60) (.t 65)⟩, ⟨some 67, none, .mov (.t 66)⟩, ⟨some 68, some (67, true), .fad 4 (.t 7)⟩, ⟨some 69, some (67, true), .load none (.t 68)⟩, ⟨some 70, some (67, true), .len (.t 69)⟩, ⟨some 71, some (67, true), .lit 1 [(.t 70)]⟩, ⟨some 72, some (67, true), .callr 56 [(.c (.pv (.int .i64 4))), (.t 71)]⟩, ⟨some 73, none, .land (.t 67) (.t 72)⟩, ⟨some 3, none, .mov (.t 73)⟩]) (.seq (.reg [⟨some 74, none, .fad 3 (.t 7)⟩, ⟨some 75, none, .load none (.t 74)⟩, ⟨some 76, none, .len (.t 75)⟩, ⟨some 77, none, .mov (.c (.pv (.int .i64 0)))⟩]) (.blk 4 (.loop ⟨[3, 53, 54, 55, 75, 76, 77], [0, 1], 2⟩ (.seq (.reg [⟨some 78, none, .bin .lss (.t 77) (.t 76)⟩]) (.seq (.cond (.t 78) (.skip) (.ext 4)) (.seq (.blk 5 (.seq (.reg [⟨some 79, none, .iad 6 (.t 75) (.t 77)⟩, ⟨some 80, none, .load (some 6) (.t 79)⟩, ⟨some 9, none, .alloc [.pv (.str ⟨#[]⟩), .pv (.int .u8 0), .pv (.int .i64 0), .pv (.int .i64 0), .nilS 2, .pv (.int .i64 0)]⟩, ⟨none, none, .store 6 (.t 9) (.t 80)⟩]) (.reg [⟨some 81, none, .mov (.t 3)⟩, ⟨some 82, none, .mov (.t 81)⟩, ⟨some 83, some (82, true), .fad 4 (.t 9)⟩, ⟨some 84, some (82, true), .load none (.t 83)⟩, ⟨some 85, some (82, true), .len (.t 84)⟩, ⟨some 86, some (82, true), .lit 1 [(.t 85)]⟩, ⟨some 87, some (82, true), .callr 56 [(.c (.pv (.int .i64 4))), (.t 86)]⟩, ⟨some 88, none, .land (.t 82) (.t 87)⟩, ⟨some 3, none, .mov (.t 88)⟩]))) (.reg [⟨some 89, none, .bin .add (.t 77) (.c (.pv (.int .i64 1)))⟩, ⟨some 77, none, .mov (.t 89)⟩])))))))))) (.reg [⟨some 90, none, .bin .add (.t 55) (.c (.pv (.int .i64 1)))⟩, ⟨some 55, none, .mov (.t 90)⟩]))))))) (.seq (.reg [⟨some 91, none, .mov (.t 3)⟩, ⟨some 2, none, .mov (.t 91)⟩]) (.ret)))))
theorem k_machine_small : FnOk Tryd.prog 33 92 c_machine_small [.tmp 2] := .mk' (fn := Tryd.f33) rfl rfl (by kernel_rfl) rfl (by kernel_rfl) (by kernel_rfl)
/- "(*retarget/machine.checker).must" -/
def c_machine_checker_must : C :=
.seq (.reg [⟨some 6, none, .mov (.t 1)⟩, ⟨some 7, none, .len (.t 6)⟩, ⟨some 8, none, .mov (.c (.pv (.int .i64 0)))⟩]) (.blk 0 (.loop ⟨[0, 6, 7, 8], [0], 1⟩ (.seq (.reg [⟨some 9, none, .bin .lss (.t 8) (.t 7)⟩]) (.seq (.cond (.t 9) (.skip) (.ext 0)) (.seq (.blk 1 (.seq (.reg [⟨some 10, none, .iad 1 (.t 6) (.t 8)⟩, ⟨some 11, none, .load none (.t 10)⟩, ⟨some 5, none, .mov (.t 11)⟩]) (.reg [⟨some 12, none, .mov (.t 0)⟩, ⟨some 13, none, .mov (.t 0)⟩, ⟨some 14, none, .nilc (.t 13)⟩, ⟨some 15, none, .fad 7 (.t 14)⟩, ⟨some 16, none, .load none (.t 15)⟩, ⟨some 17, none, .mov (.t 16)⟩, ⟨some 18, some (17, true), .mov (.t 5)⟩, ⟨some 19, none, .land (.t 17) (.t 18)⟩, ⟨some 20, none, .nilc (.t 12)⟩, ⟨some 21, none, .fad 7 (.t 20)⟩, ⟨none, none, .store 1 (.t 21) (.t 19)⟩]))) (.reg [⟨some 22, none, .bin .add (.t 8) (.c (.pv (.int .i64 1)))⟩, ⟨some 8, none, .mov (.t 22)⟩]))))))
theorem k_machine_checker_must : FnOk Tryd.prog 34 23 c_machine_checker_must [] := .mk' (fn := Tryd.f34) rfl rfl (by kernel_rfl) rfl (by kernel_rfl) (by kernel_rfl)
/- "retarget/machine.within" -/
def c_machine_within : C :=
.seq (.reg [⟨some 6, none, .mov (.c (.pv (.bool false)))⟩]) (.seq (.reg [⟨some 7, none, .mov (.t 1)⟩, ⟨some 8, none, .mov (.t 0)⟩, ⟨some 9, none, .bin .leq (.t 7) (.t 8)⟩, ⟨some 10, none, .mov (.t 9)⟩, ⟨some 11, some (10, true), .mov (.t 0)⟩, ⟨some 12, some (10, true), .mov (.t 2)⟩, ⟨some 13, some (10, true), .bin .leq (.t 11) (.t 12)⟩, ⟨some 14, none, .land (.t 10) (.t 13)⟩, ⟨some 6, none, .mov (.t 14)⟩]) (.ret))
theorem k_machine_within : FnOk Tryd.prog 36 15 c_machine_within [.tmp 6] := .mk' (fn := Tryd.f36) rfl rfl (by kernel_rfl) rfl (by kernel_rfl) (by kernel_rfl)
/- "(*retarget/machine.checker).regs" -/
def c_machine_checker_regs : C :=
.seq (.reg [⟨some 2, none, .alloc [.nilS 1]⟩]) (.gh (.ownf 2 0 1) (.seq (.reg [⟨some 6, none, .mov (.t 0)⟩, ⟨some 7, none, .mov (.t 0)⟩, ⟨some 8, none, .nilc (.t 7)⟩, ⟨some 9, none, .fad 0 (.t 8)⟩, ⟨some 10, none, .fad 3 (.t 9)⟩, ⟨some 11, none, .load none (.t 10)⟩, ⟨some 12, none, .len (.t 11)⟩, ⟨some 13, none, .bin .gtr (.t 12) (.c (.pv (.int .i64 0)))⟩, ⟨some 14, none, .lit 1 [(.t 13)]⟩, ⟨some 15, none, .callf 34 [(.t 6), (.t 14)]⟩]) (.seq (.reg [⟨some 16, none, .mov (.t 0)⟩, ⟨some 17, none, .nilc (.t 16)⟩, ⟨some 18, none, .fad 0 (.t 17)⟩, ⟨some 19, none, .fad 3 (.t 18)⟩, ⟨some 20, none, .load none (.t 19)⟩, ⟨some 21, none, .len (.t 20)⟩, ⟨some 22, none, .mov (.c (.pv (.int .i64 0)))⟩]) (.blk 0 (.loop ⟨[0, 2, 20, 21, 22], [0, 1, 2], 3⟩ (.seq (.reg [⟨some 23, none, .bin .lss (.t 22) (.t 21)⟩]) (.seq (.cond (.t 23) (.skip) (.ext 0)) (.seq (.blk 1 (.seq (.reg [⟨some 24, none, .iad 4 (.t 20) (.t 22)⟩, ⟨some 25, none, .load (some 4) (.t 24)⟩, ⟨some 4, none, .alloc [.pv (.str ⟨#[]⟩), .pv (.int .i64 0), .pv (.int .i64 0), .pv (.int .i64 0)]⟩, ⟨none, none, .store 4 (.t 4) (.t 25)⟩]) (.seq (.dreg [⟨some 26, none, .mov (.t 0)⟩, ⟨some 27, none, .fad 0 (.t 4)⟩, ⟨some 28, none, .load none (.t 27)⟩, ⟨some 29, none, .callf 40 [(.t 2), (.t 28)]⟩, ⟨some 30, none, .fad 1 (.t 4)⟩, ⟨some 31, none, .load none (.t 30)⟩, ⟨some 32, none, .callf 36 [(.t 31), (.c (.pv (.int .i64 1))), (.c (.pv (.int .i64 64)))]⟩, ⟨some 33, none, .lit 1 [(.t 29), (.t 32)]⟩, ⟨some 34, none, .callf 34 [(.t 26), (.t 33)]⟩] [[], [], [1], [1, 2], [], [4], [1, 2, 3, 4, 5], [1, 2, 3, 4, 5, 6], [0, 1, 2, 3, 4, 5, 6, 7]]) (.blk 2 (.seq (.reg [⟨some 67, none, .fad 2 (.t 4)⟩, ⟨some 68, none, .load none (.t 67)⟩, ⟨some 69, none, .bin .eql (.t 68) (.c (.pv (.int .i64 (-1))))⟩, ⟨some 66, none, .mov (.t 69)⟩]) (.cond (.t 66) (.reg [⟨some 70, none, .mov (.t 0)⟩, ⟨some 71, none, .fad 3 (.t 4)⟩, ⟨some 72, none, .load none (.t 71)⟩, ⟨some 73, none, .bin .eql (.t 72) (.c (.pv (.int .i64 0)))⟩, ⟨some 74, none, .lit 1 [(.t 73)]⟩, ⟨some 75, none, .callf 34 [(.t 70), (.t 74)]⟩]) (.seq (.dreg [⟨some 77, none, .fad 2 (.t 4)⟩, ⟨some 78, none, .load none (.t 77)⟩, ⟨some 79, none, .mov (.t 0)⟩, ⟨some 80, none, .nilc (.t 79)⟩, ⟨some 81, none, .fad 0 (.t 80)⟩, ⟨some 82, none, .fad 3 (.t 81)⟩, ⟨some 83, none, .load none (.t 82)⟩, ⟨some 84, none, .len (.t 83)⟩, ⟨some 85, none, .bin .sub (.t 84) (.c (.pv (.int .i64 1)))⟩, ⟨some 86, none, .callf 36 [(.t 78), (.c (.pv (.int .i64 0))), (.t 85)]⟩, ⟨some 87, none, .un .not (.t 86)⟩, ⟨some 76, none, .mov (.t 87)⟩] [[], [0], [], [2], [2, 3], [2, 3, 4], [2, 3, 4, 5], [2, 3, 4, 5, 6], [2, 3, 4, 5, 6, 7], [0, 1, 2, 3, 4, 5, 6, 7, 8], [0, 1, 2, 3, 4, 5, 6, 7, 8, 9], [0, 1, 2, 3, 4, 5, 6, 7, 8, 9, 10]]) (.cond (.t 76) (.reg [⟨some 88, none, .mov (.t 0)⟩, ⟨some 89, none, .lit 1 [(.c (.pv (.bool false)))]⟩, ⟨some 90, none, .callf 34 [(.t 88), (.t 89)]⟩]) (.seq (.dreg [⟨some 35, none, .mov (.t 0)⟩, ⟨some 36, none, .nilc (.t 35)⟩, ⟨some 37, none, .fad 0 (.t 36)⟩, ⟨some 38, none, .fad 3 (.t 37)⟩, ⟨some 39, none, .load none (.t 38)⟩, ⟨some 40, none, .fad 2 (.t 4)⟩, ⟨some 41, none, .load none (.t 40)⟩, ⟨some 42, none, .iad 4 (.t 39) (.t 41)⟩, ⟨some 43, none, .load (some 4) (.t 42)⟩, ⟨some 5, none, .alloc [.pv (.str ⟨#[]⟩), .pv (.int .i64 0), .pv (.int .i64 0), .pv (.int .i64 0)]⟩, ⟨none, none, .store 4 (.t 5) (.t 43)⟩] [[], [0], [0, 1], [0, 1, 2], [0, 1, 2, 3], [], [5], [0, 1, 2, 3, 4, 5, 6], [0, 1, 2, 3, 4, 5, 6, 7], [], [0, 1, 2, 3, 4, 5, 6, 7, 8, 9]]) (.dreg [⟨some 44, none, .mov (.t 0)⟩, ⟨some 45, none, .fad 2 (.t 5)⟩, ⟨some 46, none, .load none (.t 45)⟩, ⟨some 47, none, .bin .eql (.t 46) (.c (.pv (.int .i64 (-1))))⟩, ⟨some 48, none, .fad 1 (.t 4)⟩, ⟨some 49, none, .load none (.t 48)⟩, ⟨some 50, none, .fad 1 (.t 5)⟩, ⟨some 51, none, .load none (.t 50)⟩, ⟨some 52, none, .bin .lss (.t 49) (.t 51)⟩, ⟨some 53, none, .fad 1 (.t 5)⟩, ⟨some 54, none, .load none (.t 53)⟩, ⟨some 55, none, .callf 36 [(.t 54), (.c (.pv (.int .i64 1))), (.c (.pv (.int .i64 64)))]⟩, ⟨some 56, none, .fad 3 (.t 4)⟩, ⟨some 57, none, .load none (.t 56)⟩, ⟨some 58, none, .fad 1 (.t 5)⟩, ⟨some 59, none, .load none (.t 58)⟩, ⟨some 60, none, .fad 1 (.t 4)⟩, ⟨some 61, none, .load none (.t 60)⟩, ⟨some 62, none, .bin .sub (.t 59) (.t 61)⟩, ⟨some 63, none, .callf 36 [(.t 57), (.c (.pv (.int .i64 0))), (.t 62)]⟩, ⟨some 64, none, .lit 1 [(.t 47), (.t 52), (.t 55), (.t 63)]⟩, ⟨some 65, none, .callf 34 [(.t 44), (.t 64)]⟩] [[], [], [1], [1, 2], [], [4], [], [6], [4, 5, 6, 7], [], [9], [9, 10], [], [12], [], [14], [], [16], [14, 15, 16, 17], [9, 10, 11, 12, 13, 14, 15, 16, 17, 18], [1, 2, 3, 4, 5, 6, 7, 8, 9, 10, 11, 12, 13, 14, 15, 16, 17, 18, 19], [0, 1, 2, 3, 4, 5, 6, 7, 8, 9, 10, 11, 12, 13, 14, 15, 16, 17, 18, 19, 20]])))))))))) (.reg [⟨some 91, none, .bin .add (.t 22) (.c (.pv (.int .i64 1)))⟩, ⟨some 22, none, .mov (.t 91)⟩])))))))))
theorem k_machine_checker_regs : FnOk Tryd.prog 37 92 c_machine_checker_regs [] := .mk' (fn := Tryd.f37) rfl rfl (by kernel_rfl) rfl (by kernel_rfl) (by kernel_rfl)
/- "(*retarget/machine.checker).banks" -/
def c_machine_checker_banks : C :=
.seq (.reg [⟨some 2, none, .alloc [.nilS 1]⟩]) (.gh (.ownf 2 0 1) (.seq (.reg [⟨some 7, none, .mov (.t 0)⟩, ⟨some 8, none, .nilc (.t 7)⟩, ⟨some 9, none, .fad 0 (.t 8)⟩, ⟨some 10, none, .fad 4 (.t 9)⟩, ⟨some 11, none, .load none (.t 10)⟩, ⟨some 12, none, .len (.t 11)⟩, ⟨some 13, none, .mov (.c (.pv (.int .i64 0)))⟩]) (.blk 0 (.loop ⟨[0, 2, 11, 12, 13], [0, 1, 2], 3⟩ (.seq (.reg [⟨some 14, none, .bin .lss (.t 13) (.t 12)⟩]) (.seq (.cond (.t 14) (.skip) (.ext 0)) (.seq (.blk 1 (.seq (.reg [⟨some 15, none, .iad 2 (.t 11) (.t 13)⟩, ⟨some 16, none, .load (some 2) (.t 15)⟩, ⟨some 4, none, .alloc [.pv (.str ⟨#[]⟩), .nilS 1]⟩, ⟨none, none, .store 2 (.t 4) (.t 16)⟩]) (.seq (.dreg [⟨some 17, none, .mov (.t 0)⟩, ⟨some 18, none, .fad 0 (.t 4)⟩, ⟨some 19, none, .load none (.t 18)⟩, ⟨some 20, none, .callf 40 [(.t 2), (.t 19)]⟩, ⟨some 21, none, .fad 1 (.t 4)⟩, ⟨some 22, none, .load none (.t 21)⟩, ⟨some 23, none, .len (.t 22)⟩, ⟨some 24, none, .bin .gtr (.t 23) (.c (.pv (.int .i64 0)))⟩, ⟨some 25, none, .lit 1 [(.t 20), (.t 24)]⟩, ⟨some 26, none, .callf 34 [(.t 17), (.t 25)]⟩] [[], [], [1], [1, 2], [], [4], [4, 5], [4, 5, 6], [1, 2, 3, 4, 5, 6, 7], [0, 1, 2, 3, 4, 5, 6, 7, 8]]) (.seq (.reg [⟨some 27, none, .fad 1 (.t 4)⟩, ⟨some 28, none, .load none (.t 27)⟩, ⟨some 29, none, .len (.t 28)⟩, ⟨some 30, none, .mov (.c (.pv (.int .i64 0)))⟩]) (.blk 2 (.loop ⟨[0, 2, 4, 11, 12, 13, 28, 29, 30], [0, 1, 2, 3], 14⟩ (.seq (.reg [⟨some 31, none, .bin .lss (.t 30) (.t 29)⟩]) (.seq (.cond (.t 31) (.skip) (.ext 2)) (.seq (.blk 3 (.seq (.reg [⟨some 32, none, .mov (.t 30)⟩, ⟨some 33, none, .iad 1 (.t 28) (.t 30)⟩, ⟨some 34, none, .load none (.t 33)⟩, ⟨some 5, none, .mov (.t 32)⟩, ⟨some 6, none, .mov (.t 34)⟩]) (.seq (.dreg [⟨some 35, none, .mov (.t 0)⟩, ⟨some 36, none, .mov (.t 6)⟩, ⟨some 37, none, .mov (.t 0)⟩, ⟨some 38, none, .nilc (.t 37)⟩, ⟨some 39, none, .fad 0 (.t 38)⟩, ⟨some 40, none, .fad 3 (.t 39)⟩, ⟨some 41, none, .load none (.t 40)⟩, ⟨some 42, none, .len (.t 41)⟩, ⟨some 43, none, .bin .sub (.t 42) (.c (.pv (.int .i64 1)))⟩, ⟨some 44, none, .callf 36 [(.t 36), (.c (.pv (.int .i64 0))), (.t 43)]⟩, ⟨some 45, none, .fad 1 (.t 4)⟩, ⟨some 46, none, .load none (.t 45)⟩, ⟨some 47, none, .mov (.t 5)⟩, ⟨some 48, none, .cut 1 (.t 46) none (some (.t 47))⟩, ⟨some 49, none, .mov (.t 6)⟩, ⟨some 50, none, .callf 57 [(.t 48), (.t 49)]⟩, ⟨some 51, none, .un .not (.t 50)⟩, ⟨some 52, none, .lit 1 [(.t 44), (.t 51)]⟩, ⟨some 53, none, .callf 34 [(.t 35), (.t 52)]⟩] [[], [], [], [2], [2, 3], [2, 3, 4], [2, 3, 4, 5], [2, 3, 4, 5, 6], [2, 3, 4, 5, 6, 7], [1, 2, 3, 4, 5, 6, 7, 8], [], [10], [], [10, 11, 12], [], [1, 2, 3, 4, 5, 6, 7, 8, 9, 10, 11, 12, 13, 14], [1, 2, 3, 4, 5, 6, 7, 8, 9, 10, 11, 12, 13, 14, 15], [1, 2, 3, 4, 5, 6, 7, 8, 9, 10, 11, 12, 13, 14, 15, 16], [0, 1, 2, 3, 4, 5, 6, 7, 8, 9, 10, 11, 12, 13, 14, 15, 16, 17]]) (.seq (.reg [⟨some 54, none, .mov (.t 0)⟩, ⟨some 55, none, .nilc (.t 54)⟩, ⟨some 56, none, .fad 7 (.t 55)⟩, ⟨some 57, none, .load none (.t 56)⟩]) (.cond (.t 57) (.dreg [⟨some 58, none, .mov (.t 0)⟩, ⟨some 59, none, .mov (.t 0)⟩, ⟨some 60, none, .nilc (.t 59)⟩, ⟨some 61, none, .fad 0 (.t 60)⟩, ⟨some 62, none, .fad 3 (.t 61)⟩, ⟨some 63, none, .load none (.t 62)⟩, ⟨some 64, none, .mov (.t 6)⟩, ⟨some 65, none, .iad 4 (.t 63) (.t 64)⟩, ⟨some 66, none, .fad 1 (.t 65)⟩, ⟨some 67, none, .load none (.t 66)⟩, ⟨some 68, none, .mov (.t 0)⟩, ⟨some 69, none, .nilc (.t 68)⟩, ⟨some 70, none, .fad 0 (.t 69)⟩, ⟨some 71, none, .fad 3 (.t 70)⟩, ⟨some 72, none, .load none (.t 71)⟩, ⟨some 73, none, .fad 1 (.t 4)⟩, ⟨some 74, none, .load none (.t 73)⟩, ⟨some 75, none, .iad 1 (.t 74) (.c (.pv (.int .i64 0)))⟩, ⟨some 76, none, .load none (.t 75)⟩, ⟨some 77, none, .iad 4 (.t 72) (.t 76)⟩, ⟨some 78, none, .fad 1 (.t 77)⟩, ⟨some 79, none, .load none (.t 78)⟩, ⟨some 80, none, .bin .eql (.t 67) (.t 79)⟩, ⟨some 81, none, .lit 1 [(.t 80)]⟩, ⟨some 82, none, .callf 34 [(.t 58), (.t 81)]⟩] [[], [], [1], [1, 2], [1, 2, 3], [1, 2, 3, 4], [], [1, 2, 3, 4, 5, 6], [1, 2, 3, 4, 5, 6, 7], [1, 2, 3, 4, 5, 6, 7, 8], [], [10], [10, 11], [10, 11, 12], [10, 11, 12, 13], [], [15], [15, 16], [15, 16, 17], [10, 11, 12, 13, 14, 15, 16, 17, 18], [10, 11, 12, 13, 14, 15, 16, 17, 18, 19], [10, 11, 12, 13, 14, 15, 16, 17, 18, 19, 20], [1, 2, 3, 4, 5, 6, 7, 8, 9, 10, 11, 12, 13, 14, 15, 16, 17, 18, 19, 20, 21], [1, 2, 3, 4, 5, 6, 7, 8, 9, 10, 11, 12, 13, 14, 15, 16, 17, 18, 19, 20, 21, 22], [0, 1, 2, 3, 4, 5, 6, 7, 8, 9, 10, 11, 12, 13, 14, 15, 16, 17, 18, 19, 20, 21, 22, 23]]) (.skip)))))) (.reg [⟨some 83, none, .bin .add (.t 30) (.c (.pv (.int .i64 1)))⟩, ⟨some 30, none, .mov (.t 83)⟩])))))))))) (.reg [⟨some 84, none, .bin .add (.t 13) (.c (.pv (.int .i64 1)))⟩, ⟨some 13, none, .mov (.t 84)⟩]))))))))
theorem k_machine_checker_banks : FnOk Tryd.prog 38 85 c_machine_checker_banks [] := .mk' (fn := Tryd.f38) rfl rfl (by kernel_rfl) rfl (by kernel_rfl) (by kernel_rfl)
/- "(*retarget/machine.checker).units" -/
def c_machine_checker_units : C :=
.seq (.reg [⟨some 2, none, .alloc [.nilS 1]⟩]) (.gh (.ownf 2 0 1) (.seq (.reg [⟨some 5, none, .mov (.t 0)⟩, ⟨some 6, none, .mov (.t 0)⟩, ⟨some 7, none, .nilc (.t 6)⟩, ⟨some 8, none, .fad 0 (.t 7)⟩, ⟨some 9, none, .fad 5 (.t 8)⟩, ⟨some 10, none, .load none (.t 9)⟩, ⟨some 11, none, .len (.t 10)⟩, ⟨some 12, none, .bin .gtr (.t 11) (.c (.pv (.int .i64 0)))⟩, ⟨some 13, none, .lit 1 [(.t 12)]⟩, ⟨some 14, none, .callf 34 [(.t 5), (.t 13)]⟩]) (.seq (.reg [⟨some 15, none, .mov (.t 0)⟩, ⟨some 16, none, .nilc (.t 15)⟩, ⟨some 17, none, .fad 0 (.t 16)⟩, ⟨some 18, none, .fad 5 (.t 17)⟩, ⟨some 19, none, .load none (.t 18)⟩, ⟨some 20, none, .len (.t 19)⟩, ⟨some 21, none, .mov (.c (.pv (.int .i64 0)))⟩]) (.blk 0 (.loop ⟨[0, 2, 19, 20, 21], [0, 1, 2], 3⟩ (.seq (.reg [⟨some 22, none, .bin .lss (.t 21) (.t 20)⟩]) (.seq (.cond (.t 22) (.skip) (.ext 0)) (.seq (.blk 1 (.seq (.reg [⟨some 23, none, .iad 2 (.t 19) (.t 21)⟩, ⟨some 24, none, .load (some 2) (.t 23)⟩, ⟨some 4, none, .alloc [.pv (.str ⟨#[]⟩), .pv (.int .i64 0)]⟩, ⟨none, none, .store 2 (.t 4) (.t 24)⟩]) (.dreg [⟨some 25, none, .mov (.t 0)⟩, ⟨some 26, none, .fad 0 (.t 4)⟩, ⟨some 27, none, .load none (.t 26)⟩, ⟨some 28, none, .callf 40 [(.t 2), (.t 27)]⟩, ⟨some 29, none, .fad 1 (.t 4)⟩, ⟨some 30, none, .load none (.t 29)⟩, ⟨some 31, none, .callf 36 [(.t 30), (.c (.pv (.int .i64 1))), (.c (.pv (.int .i64 4)))]⟩, ⟨some 32, none, .lit 1 [(.t 28), (.t 31)]⟩, ⟨some 33, none, .callf 34 [(.t 25), (.t 32)]⟩] [[], [], [1], [1, 2], [], [4], [1, 2, 3, 4, 5], [1, 2, 3, 4, 5, 6], [0, 1, 2, 3, 4, 5, 6, 7]]))) (.reg [⟨some 34, none, .bin .add (.t 21) (.c (.pv (.int .i64 1)))⟩, ⟨some 21, none, .mov (.t 34)⟩])))))))))
theorem k_machine_checker_units : FnOk Tryd.prog 39 35 c_machine_checker_units [] := .mk' (fn := Tryd.f39) rfl rfl (by kernel_rfl) rfl (by kernel_rfl) (by kernel_rfl)
/- "(*retarget/machine.names).fresh" -/
def c_machine_names_fresh : C :=
.seq (.reg [⟨some 4, none, .mov (.c (.pv (.bool false)))⟩]) (.seq (.reg [⟨some 6, none, .mov (.t 1)⟩, ⟨some 7, none, .callf 35 [(.t 6)]⟩, ⟨some 8, none, .mov (.t 7)⟩, ⟨some 9, some (8, true), .mov (.t 0)⟩, ⟨some 10, some (8, true), .nilc (.t 9)⟩, ⟨some 11, some (8, true), .fad 0 (.t 10)⟩, ⟨some 12, some (8, true), .load none (.t 11)⟩, ⟨some 13, some (8, true), .mov (.t 1)⟩, ⟨some 14, some (8, true), .callf 58 [(.t 12), (.t 13)]⟩, ⟨some 15, some (8, true), .un .not (.t 14)⟩, ⟨some 16, none, .land (.t 8) (.t 15)⟩, ⟨some 5, none, .mov (.t 16)⟩]) (.seq (.reg [⟨some 17, none, .mov (.t 0)⟩, ⟨some 18, none, .mov (.t 0)⟩, ⟨some 19, none, .nilc (.t 18)⟩, ⟨some 20, none, .fad 0 (.t 19)⟩, ⟨some 21, none, .load none (.t 20)⟩, ⟨some 22, none, .mov (.t 1)⟩, ⟨some 23, none, .lit 1 [(.t 22)]⟩, ⟨some 24, none, .app 1 16 (.t 21) (.t 23)⟩, ⟨some 25, none, .nilc (.t 17)⟩, ⟨some 26, none, .fad 0 (.t 25)⟩, ⟨none, none, .store 1 (.t 26) (.t 24)⟩]) (.seq (.reg [⟨some 27, none, .mov (.t 5)⟩, ⟨some 4, none, .mov (.t 27)⟩]) (.ret))))
theorem k_machine_names_fresh : FnOk Tryd.prog 40 28 c_machine_names_fresh [.tmp 4] := .mk' (fn := Tryd.f40) rfl rfl (by kernel_rfl) rfl (by kernel_rfl) (by kernel_rfl)
/- "(*retarget/machine.checker).instr" -/
def c_machine_checker_instr : C :=
.seq (.reg [⟨some 3, none, .box 9 (.t 1)⟩]) (.seq (.dreg [⟨some 14, none, .mov (.t 0)⟩, ⟨some 15, none, .fad 1 (.t 3)⟩, ⟨some 16, none, .load none (.t 15)⟩, ⟨some 17, none, .mov (.t 0)⟩, ⟨some 18, none, .nilc (.t 17)⟩, ⟨some 19, none, .fad 0 (.t 18)⟩, ⟨some 20, none, .fad 1 (.t 19)⟩, ⟨some 21, none, .load none (.t 20)⟩, ⟨some 22, none, .bin .mul (.c (.pv (.int .i64 8))) (.t 21)⟩, ⟨some 23, none, .callf 59 [(.t 22)]⟩, ⟨some 24, none, .bin .andNot (.t 16) (.t 23)⟩, ⟨some 25, none, .bin .eql (.t 24) (.c (.pv (.int .u64 0)))⟩, ⟨some 26, none, .fad 2 (.t 3)⟩, ⟨some 27, none, .load none (.t 26)⟩, ⟨some 28, none, .fad 1 (.t 3)⟩, ⟨some 29, none, .load none (.t 28)⟩, ⟨some 30, none, .bin .andNot (.t 27) (.t 29)⟩, ⟨some 31, none, .bin .eql (.t 30) (.c (.pv (.int .u64 0)))⟩, ⟨some 32, none, .lit 1 [(.t 25), (.t 31)]⟩, ⟨some 33, none, .callf 34 [(.t 14), (.t 32)]⟩] [[], [], [1], [], [3], [3, 4], [3, 4, 5], [3, 4, 5, 6], [3, 4, 5, 6, 7], [3, 4, 5, 6, 7, 8], [1, 2, 3, 4, 5, 6, 7, 8, 9], [1, 2, 3, 4, 5, 6, 7, 8, 9, 10], [], [12], [], [14], [12, 13, 14, 15], [12, 13, 14, 15, 16], [1, 2, 3, 4, 5, 6, 7, 8, 9, 10, 11, 12, 13, 14, 15, 16, 17], [0, 1, 2, 3, 4, 5, 6, 7, 8, 9, 10, 11, 12, 13, 14, 15, 16, 17, 18]]) (.seq (.reg [⟨some 34, none, .lit 1 [(.c (.pv (.str ⟨#[112, 99]⟩)))]⟩, ⟨some 35, none, .build [.nilS 1] [((0, 1), (.t 34))]⟩, ⟨some 4, none, .alloc [.nilS 1]⟩, ⟨none, none, .store 1 (.t 4) (.t 35)⟩]) (.gh (.ownf 4 0 1) (.seq (.reg [⟨some 36, none, .fad 1 (.t 3)⟩, ⟨some 37, none, .load none (.t 36)⟩, ⟨some 5, none, .mov (.t 37)⟩]) (.seq (.seq (.reg [⟨some 38, none, .fad 3 (.t 3)⟩, ⟨some 39, none, .load none (.t 38)⟩, ⟨some 40, none, .len (.t 39)⟩, ⟨some 41, none, .mov (.c (.pv (.int .i64 0)))⟩]) (.blk 0 (.loop ⟨[0, 3, 4, 5, 39, 40, 41], [0, 1, 22, 23], 24⟩ (.seq (.reg [⟨some 42, none, .bin .lss (.t 41) (.t 40)⟩]) (.seq (.cond (.t 42) (.skip) (.ext 0)) (.seq (.blk 1 (.seq (.reg [⟨some 43, none, .mov (.t 41)⟩, ⟨some 44, none, .iad 6 (.t 39) (.t 41)⟩, ⟨some 45, none, .load (some 6) (.t 44)⟩, ⟨some 7, none, .alloc [.pv (.str ⟨#[]⟩), .pv (.int .u8 0), .pv (.int .i64 0), .pv (.int .i64 0), .nilS 2, .pv (.int .i64 0)]⟩, ⟨some 6, none, .mov (.t 43)⟩, ⟨none, none, .store 6 (.t 7) (.t 45)⟩]) (.seq (.reg [⟨some 46, none, .mov (.t 0)⟩, ⟨some 47, none, .fad 0 (.t 7)⟩, ⟨some 48, none, .load none (.t 47)⟩, ⟨some 49, none, .callf 40 [(.t 4), (.t 48)]⟩, ⟨some 50, none, .lit 1 [(.t 49)]⟩, ⟨some 51, none, .callf 34 [(.t 46), (.t 50)]⟩]) (.seq (.reg [⟨some 52, none, .mov (.t 0)⟩, ⟨some 53, none, .load (some 9) (.t 3)⟩, ⟨some 54, none, .mov (.t 6)⟩, ⟨some 55, none, .callf 60 [(.t 52), (.t 53), (.t 54)]⟩, ⟨some 8, none, .mov (.t 55)⟩]) (.seq (.reg [⟨some 56, none, .mov (.t 0)⟩, ⟨some 57, none, .mov (.t 5)⟩, ⟨some 58, none, .mov (.t 8)⟩, ⟨some 59, none, .bin .and (.t 57) (.t 58)⟩, ⟨some 60, none, .bin .eql (.t 59) (.c (.pv (.int .u64 0)))⟩, ⟨some 61, none, .lit 1 [(.t 60)]⟩, ⟨some 62, none, .callf 34 [(.t 56), (.t 61)]⟩]) (.reg [⟨some 63, none, .mov (.t 5)⟩, ⟨some 64, none, .mov (.t 8)⟩, ⟨some 65, none, .bin .or (.t 63) (.t 64)⟩, ⟨some 5, none, .mov (.t 65)⟩])))))) (.reg [⟨some 66, none, .bin .add (.t 41) (.c (.pv (.int .i64 1)))⟩, ⟨some 41, none, .mov (.t 66)⟩]))))))) (.seq (.seq (.reg [⟨some 67, none, .mov (.t 0)⟩, ⟨some 68, none, .nilc (.t 67)⟩, ⟨some 69, none, .fad 7 (.t 68)⟩, ⟨some 70, none, .load none (.t 69)⟩, ⟨some 71, none, .un .not (.t 70)⟩]) (.cond (.t 71) (.ret) (.skip))) (.seq (.reg [⟨some 72, none, .mov (.t 0)⟩, ⟨some 73, none, .load (some 9) (.t 3)⟩, ⟨some 74, none, .callf 61 [(.t 72), (.t 73)]⟩, ⟨some 9, none, .mov (.t 74)⟩]) (.seq (.reg [⟨some 75, none, .mkm⟩, ⟨some 10, none, .mov (.t 75)⟩]) (.seq (.seq (.reg [⟨some 76, none, .fad 4 (.t 3)⟩, ⟨some 77, none, .load none (.t 76)⟩, ⟨some 78, none, .len (.t 77)⟩, ⟨some 79, none, .mov (.c (.pv (.int .i64 0)))⟩]) (.blk 2 (.loop ⟨[0, 3, 9, 10, 77, 78, 79], [0, 1, 22, 23, 25, 26], 27⟩ (.seq (.reg [⟨some 80, none, .bin .lss (.t 79) (.t 78)⟩]) (.seq (.cond (.t 80) (.skip) (.ext 2)) (.seq (.blk 3 (.seq (.reg [⟨some 81, none, .iad 21 (.t 77) (.t 79)⟩, ⟨some 82, none, .load (some 21) (.t 81)⟩, ⟨some 12, none, .alloc [.pv (.int .u8 0), .pv (.int .i64 0), .pv (.int .i64 0), .pv (.int .u8 0), .pv (.int .i64 0), .pv (.int .u64 0), .pv (.str ⟨#[]⟩), .pv (.int .i64 0), .nilS 6, .pv (.int .u8 0), .pv (.int .i64 0), .pv (.int .u64 0), .pv (.str ⟨#[]⟩), .pv (.int .i64 0), .nilS 6, .pv (.int .u8 0), .pv (.int .i64 0), .pv (.int .u64 0), .pv (.str ⟨#[]⟩), .pv (.int .i64 0), .nilS 6]⟩, ⟨none, none, .store 21 (.t 12) (.t 82)⟩]) (.seq (.reg [⟨some 83, none, .mov (.t 0)⟩, ⟨some 84, none, .load (some 9) (.t 3)⟩, ⟨some 85, none, .load (some 21) (.t 12)⟩, ⟨some 86, none, .mov (.t 9)⟩, ⟨some 87, none, .callf 62 [(.t 83), (.t 84), (.t 85), (.t 86)]⟩]) (.reg [⟨some 88, none, .mov (.t 10)⟩, ⟨some 89, none, .fad 0 (.t 12)⟩, ⟨some 90, none, .load none (.t 89)⟩, ⟨some 91, none, .look 1 (.pv (.int .i64 0)) (.t 88) (.t 90) false⟩, ⟨some 92, none, .bin .add (.t 91) (.c (.pv (.int .i64 1)))⟩, ⟨none, none, .mup 1 (.t 88) (.t 90) (.t 92)⟩])))) (.reg [⟨some 93, none, .bin .add (.t 79) (.c (.pv (.int .i64 1)))⟩, ⟨some 79, none, .mov (.t 93)⟩]))))))) (.seq (.reg [⟨some 94, none, .mov (.t 10)⟩, ⟨some 95, none, .look 1 (.pv (.int .i64 0)) (.t 94) (.c (.pv (.int .u8 3))) false⟩, ⟨some 13, none, .mov (.t 95)⟩]) (.dreg [⟨some 96, none, .mov (.t 0)⟩, ⟨some 97, none, .mov (.t 13)⟩, ⟨some 98, none, .bin .leq (.t 97) (.c (.pv (.int .i64 1)))⟩, ⟨some 99, none, .mov (.t 10)⟩, ⟨some 100, none, .look 1 (.pv (.int .i64 0)) (.t 99) (.c (.pv (.int .u8 4))) false⟩, ⟨some 101, none, .bin .eql (.t 100) (.c (.pv (.int .i64 0)))⟩, ⟨some 102, none, .mov (.t 101)⟩, ⟨some 103, some (102, false), .fad 4 (.t 3)⟩, ⟨some 104, some (102, false), .load none (.t 103)⟩, ⟨some 105, some (102, false), .len (.t 104)⟩, ⟨some 106, some (102, false), .bin .eql (.t 105) (.c (.pv (.int .i64 1)))⟩, ⟨some 107, none, .lor (.t 102) (.t 106)⟩, ⟨some 108, none, .fad 5 (.t 3)⟩, ⟨some 109, none, .load none (.t 108)⟩, ⟨some 110, none, .mov (.t 0)⟩, ⟨some 111, none, .nilc (.t 110)⟩, ⟨some 112, none, .fad 0 (.t 111)⟩, ⟨some 113, none, .fad 5 (.t 112)⟩, ⟨some 114, none, .load none (.t 113)⟩, ⟨some 115, none, .len (.t 114)⟩, ⟨some 116, none, .bin .sub (.t 115) (.c (.pv (.int .i64 1)))⟩, ⟨some 117, none, .callf 36 [(.t 109), (.c (.pv (.int .i64 0))), (.t 116)]⟩, ⟨some 118, none, .fad 6 (.t 3)⟩, ⟨some 119, none, .load none (.t 118)⟩, ⟨some 120, none, .callf 36 [(.t 119), (.c (.pv (.int .i64 1))), (.c (.pv (.int .i64 15)))]⟩, ⟨some 121, none, .fad 7 (.t 3)⟩, ⟨some 122, none, .load none (.t 121)⟩, ⟨some 123, none, .callf 36 [(.t 122), (.c (.pv (.int .i64 1))), (.c (.pv (.int .i64 15)))]⟩, ⟨some 124, none, .fad 8 (.t 3)⟩, ⟨some 125, none, .load none (.t 124)⟩, ⟨some 126, none, .callf 36 [(.t 125), (.c (.pv (.int .i64 0))), (.c (.pv (.int .i64 2)))]⟩, ⟨some 127, none, .fad 8 (.t 3)⟩, ⟨some 128, none, .load none (.t 127)⟩, ⟨some 129, none, .bin .eql (.t 128) (.c (.pv (.int .i64 0)))⟩, ⟨some 130, none, .mov (.t 129)⟩, ⟨some 131, some (130, false), .mov (.t 13)⟩, ⟨some 132, some (130, false), .bin .eql (.t 131) (.c (.pv (.int .i64 1)))⟩, ⟨some 133, none, .lor (.t 130) (.t 132)⟩, ⟨some 134, none, .lit 1 [(.t 98), (.t 107), (.t 117), (.t 120), (.t 123), (.t 126), (.t 133)]⟩, ⟨some 135, none, .callf 34 [(.t 96), (.t 134)]⟩] [[], [], [1], [], [3], [3, 4], [3, 4, 5], [3, 4, 5, 6], [3, 4, 5, 6, 7], [3, 4, 5, 6, 7, 8], [3, 4, 5, 6, 7, 8, 9], [3, 4, 5, 6, 7, 8, 9, 10], [], [12], [], [14], [14, 15], [14, 15, 16], [14, 15, 16, 17], [14, 15, 16, 17, 18], [14, 15, 16, 17, 18, 19], [3, 4, 5, 6, 12, 13, 14, 15, 16, 17, 18, 19, 20], [], [22], [3, 4, 5, 6, 12, 13, 14, 15, 16, 17, 18, 19, 20, 21, 22, 23], [], [25], [3, 4, 5, 6, 12, 13, 14, 15, 16, 17, 18, 19, 20, 21, 22, 23, 24, 25, 26], [], [28], [3, 4, 5, 6, 12, 13, 14, 15, 16, 17, 18, 19, 20, 21, 22, 23, 24, 25, 26, 27, 28, 29], [], [31], [31, 32], [3, 4, 5, 6, 12, 13, 14, 15, 16, 17, 18, 19, 20, 21, 22, 23, 24, 25, 26, 27, 28, 29, 30, 31, 32, 33], [3, 4, 5, 6, 12, 13, 14, 15, 16, 17, 18, 19, 20, 21, 22, 23, 24, 25, 26, 27, 28, 29, 30, 31, 32, 33, 34], [3, 4, 5, 6, 12, 13, 14, 15, 16, 17, 18, 19, 20, 21, 22, 23, 24, 25, 26, 27, 28, 29, 30, 31, 32, 33, 34, 35], [3, 4, 5, 6, 12, 13, 14, 15, 16, 17, 18, 19, 20, 21, 22, 23, 24, 25, 26, 27, 28, 29, 30, 31, 32, 33, 34, 35, 36], [1, 2, 3, 4, 5, 6, 7, 8, 9, 10, 11, 12, 13, 14, 15, 16, 17, 18, 19, 20, 21, 22, 23, 24, 25, 26, 27, 28, 29, 30, 31, 32, 33, 34, 35, 36, 37], [0, 1, 2, 3, 4, 5, 6, 7, 8, 9, 10, 11, 12, 13, 14, 15, 16, 17, 18, 19, 20, 21, 22, 23, 24, 25, 26, 27, 28, 29, 30, 31, 32, 33, 34, 35, 36, 37, 38]])))))))))))
theorem k_machine_checker_instr : FnOk Tryd.prog 41 136 c_machine_checker_instr [] := .mk' (fn := Tryd.f41) rfl rfl (by kernel_rfl) rfl (by kernel_rfl) (by kernel_rfl)
/- "retarget/machine.fewer" -/
def c_machine_fewer : C :=
.seq (.reg [⟨some 4, none, .mov (.c (.pv (.bool false)))⟩]) (.seq (.reg [⟨some 5, none, .mov (.t 1)⟩, ⟨some 6, none, .lit 1 [(.c (.pv (.int .i64 0)))]⟩, ⟨some 7, none, .app 1 8 (.t 5) (.t 6)⟩, ⟨some 8, none, .callf 77 [(.t 7)]⟩, ⟨some 9, none, .mov (.t 0)⟩, ⟨some 10, none, .bin .leq (.t 8) (.t 9)⟩, ⟨some 4, none, .mov (.t 10)⟩]) (.ret))
theorem k_machine_fewer : FnOk Tryd.prog 56 11 c_machine_fewer [.tmp 4] := .mk' (fn := Tryd.f56) rfl rfl (by kernel_rfl) rfl (by kernel_rfl) (by kernel_rfl)
/- "(*retarget/machine.checker).operand" -/
def c_machine_checker_operand : C :=
.seq (.reg [⟨some 4, none, .box 9 (.t 1)⟩, ⟨some 6, none, .mov (.c (.pv (.int .u64 0)))⟩]) (.seq (.reg [⟨some 14, none, .fad 3 (.t 4)⟩, ⟨some 15, none, .load none (.t 14)⟩, ⟨some 16, none, .mov (.t 2)⟩, ⟨some 17, none, .iad 6 (.t 15) (.t 16)⟩, ⟨some 18, none, .load (some 6) (.t 17)⟩, ⟨some 7, none, .alloc [.pv (.str ⟨#[]⟩), .pv (.int .u8 0), .pv (.int .i64 0), .pv (.int .i64 0), .nilS 2, .pv (.int .i64 0)]⟩, ⟨none, none, .store 6 (.t 7) (.t 18)⟩]) (.seq (.seq (.reg [⟨some 19, none, .fad 4 (.t 7)⟩, ⟨some 20, none, .load none (.t 19)⟩, ⟨some 21, none, .len (.t 20)⟩, ⟨some 22, none, .mov (.c (.pv (.int .i64 0)))⟩]) (.blk 0 (.loop ⟨[0, 2, 4, 6, 7, 20, 21, 22], [0, 1, 2], 3⟩ (.seq (.reg [⟨some 23, none, .bin .lss (.t 22) (.t 21)⟩]) (.seq (.cond (.t 23) (.skip) (.ext 0)) (.seq (.blk 1 (.seq (.reg [⟨some 24, none, .iad 2 (.t 20) (.t 22)⟩, ⟨some 25, none, .load (some 2) (.t 24)⟩, ⟨some 9, none, .alloc [.pv (.int .i64 0), .pv (.int .i64 0)]⟩, ⟨none, none, .store 2 (.t 9) (.t 25)⟩]) (.seq (.dreg [⟨some 26, none, .mov (.t 0)⟩, ⟨some 27, none, .fad 1 (.t 9)⟩, ⟨some 28, none, .load none (.t 27)⟩, ⟨some 29, none, .mov (.t 0)⟩, ⟨some 30, none, .nilc (.t 29)⟩, ⟨some 31, none, .fad 0 (.t 30)⟩, ⟨some 32, none, .fad 1 (.t 31)⟩, ⟨some 33, none, .load none (.t 32)⟩, ⟨some 34, none, .bin .mul (.c (.pv (.int .i64 8))) (.t 33)⟩, ⟨some 35, none, .callf 36 [(.t 28), (.c (.pv (.int .i64 1))), (.t 34)]⟩, ⟨some 36, none, .fad 0 (.t 9)⟩, ⟨some 37, none, .load none (.t 36)⟩, ⟨some 38, none, .bin .geq (.t 37) (.c (.pv (.int .i64 0)))⟩, ⟨some 39, none, .fad 0 (.t 9)⟩, ⟨some 40, none, .load none (.t 39)⟩, ⟨some 41, none, .mov (.t 0)⟩, ⟨some 42, none, .nilc (.t 41)⟩, ⟨some 43, none, .fad 0 (.t 42)⟩, ⟨some 44, none, .fad 1 (.t 43)⟩, ⟨some 45, none, .load none (.t 44)⟩, ⟨some 46, none, .bin .mul (.c (.pv (.int .i64 8))) (.t 45)⟩, ⟨some 47, none, .fad 1 (.t 9)⟩, ⟨some 48, none, .load none (.t 47)⟩, ⟨some 49, none, .bin .sub (.t 46) (.t 48)⟩, ⟨some 50, none, .bin .leq (.t 40) (.t 49)⟩, ⟨some 51, none, .lit 1 [(.t 35), (.t 38), (.t 50)]⟩, ⟨some 52, none, .callf 34 [(.t 26), (.t 51)]⟩] [[], [], [1], [], [3], [3, 4], [3, 4, 5], [3, 4, 5, 6], [3, 4, 5, 6, 7], [1, 2, 3, 4, 5, 6, 7, 8], [], [10], [10, 11], [], [13], [], [15], [15, 16], [15, 16, 17], [15, 16, 17, 18], [15, 16, 17, 18, 19], [], [21], [15, 16, 17, 18, 19, 20, 21, 22], [13, 14, 15, 16, 17, 18, 19, 20, 21, 22, 23], [1, 2, 3, 4, 5, 6, 7, 8, 9, 10, 11, 12, 13, 14, 15, 16, 17, 18, 19, 20, 21, 22, 23, 24], [0, 1, 2, 3, 4, 5, 6, 7, 8, 9, 10, 11, 12, 13, 14, 15, 16, 17, 18, 19, 20, 21, 22, 23, 24, 25]]) (.seq (.seq (.reg [⟨some 53, none, .mov (.t 0)⟩, ⟨some 54, none, .nilc (.t 53)⟩, ⟨some 55, none, .fad 7 (.t 54)⟩, ⟨some 56, none, .load none (.t 55)⟩, ⟨some 57, none, .un .not (.t 56)⟩]) (.cond (.t 57) (.seq (.reg [⟨some 6, none, .mov (.c (.pv (.int .u64 0)))⟩]) (.ret)) (.skip))) (.seq (.dreg [⟨some 58, none, .fad 1 (.t 9)⟩, ⟨some 59, none, .load none (.t 58)⟩, ⟨some 60, none, .callf 59 [(.t 59)]⟩, ⟨some 61, none, .fad 0 (.t 9)⟩, ⟨some 62, none, .load none (.t 61)⟩, ⟨some 63, none, .bin .shl (.t 60) (.t 62)⟩, ⟨some 10, none, .mov (.t 63)⟩] [[], [0], [0, 1], [], [3], [0, 1, 2, 3, 4], [0, 1, 2, 3, 4, 5]]) (.seq (.reg [⟨some 64, none, .mov (.t 0)⟩, ⟨some 65, none, .mov (.t 6)⟩, ⟨some 66, none, .mov (.t 10)⟩, ⟨some 67, none, .bin .and (.t 65) (.t 66)⟩, ⟨some 68, none, .bin .eql (.t 67) (.c (.pv (.int .u64 0)))⟩, ⟨some 69, none, .lit 1 [(.t 68)]⟩, ⟨some 70, none, .callf 34 [(.t 64), (.t 69)]⟩]) (.reg [⟨some 71, none, .mov (.t 6)⟩, ⟨some 72, none, .mov (.t 10)⟩, ⟨some 73, none, .bin .or (.t 71) (.t 72)⟩, ⟨some 6, none, .mov (.t 73)⟩]))))))) (.reg [⟨some 74, none, .bin .add (.t 22) (.c (.pv (.int .i64 1)))⟩, ⟨some 22, none, .mov (.t 74)⟩]))))))) (.seq (.seq (.reg [⟨some 75, none, .fad 1 (.t 7)⟩, ⟨some 76, none, .load none (.t 75)⟩]) (.blk 2 (.seq (.reg [⟨some 81, none, .bin .eql (.t 76) (.c (.pv (.int .u8 1)))⟩, ⟨some 80, none, .mov (.t 81)⟩]) (.cond (.t 80) (.seq (.dreg [⟨some 82, none, .mov (.t 0)⟩, ⟨some 83, none, .fad 2 (.t 7)⟩, ⟨some 84, none, .load none (.t 83)⟩, ⟨some 85, none, .mov (.t 0)⟩, ⟨some 86, none, .nilc (.t 85)⟩, ⟨some 87, none, .fad 0 (.t 86)⟩, ⟨some 88, none, .fad 4 (.t 87)⟩, ⟨some 89, none, .load none (.t 88)⟩, ⟨some 90, none, .len (.t 89)⟩, ⟨some 91, none, .bin .sub (.t 90) (.c (.pv (.int .i64 1)))⟩, ⟨some 92, none, .callf 36 [(.t 84), (.c (.pv (.int .i64 0))), (.t 91)]⟩, ⟨some 93, none, .fad 3 (.t 7)⟩, ⟨some 94, none, .load none (.t 93)⟩, ⟨some 95, none, .bin .eql (.t 94) (.c (.pv (.int .i64 0)))⟩, ⟨some 96, none, .lit 1 [(.t 92), (.t 95)]⟩, ⟨some 97, none, .callf 34 [(.t 82), (.t 96)]⟩] [[], [], [1], [], [3], [3, 4], [3, 4, 5], [3, 4, 5, 6], [3, 4, 5, 6, 7], [3, 4, 5, 6, 7, 8], [1, 2, 3, 4, 5, 6, 7, 8, 9], [], [11], [11, 12], [1, 2, 3, 4, 5, 6, 7, 8, 9, 10, 11, 12, 13], [0, 1, 2, 3, 4, 5, 6, 7, 8, 9, 10, 11, 12, 13, 14]]) (.seq (.seq (.reg [⟨some 98, none, .mov (.t 0)⟩, ⟨some 99, none, .nilc (.t 98)⟩, ⟨some 100, none, .fad 7 (.t 99)⟩, ⟨some 101, none, .load none (.t 100)⟩, ⟨some 102, none, .un .not (.t 101)⟩]) (.cond (.t 102) (.seq (.reg [⟨some 6, none, .mov (.c (.pv (.int .u64 0)))⟩]) (.ret)) (.skip))) (.seq (.seq (.reg [⟨some 103, none, .fad 5 (.t 7)⟩, ⟨some 104, none, .load none (.t 103)⟩, ⟨some 105, none, .bin .eql (.t 104) (.c (.pv (.int .i64 (-1))))⟩]) (.cond (.t 105) (.seq (.reg [⟨some 106, none, .load (some 6) (.t 7)⟩, ⟨some 107, none, .callf 81 [(.t 106)]⟩, ⟨some 11, none, .mov (.t 107)⟩]) (.seq (.dreg [⟨some 108, none, .mov (.t 0)⟩, ⟨some 109, none, .mov (.t 11)⟩, ⟨some 110, none, .bin .gtr (.t 109) (.c (.pv (.int .i64 0)))⟩, ⟨some 111, none, .mov (.t 11)⟩, ⟨some 112, none, .bin .gtr (.t 111) (.c (.pv (.int .i64 6)))⟩, ⟨some 113, none, .mov (.t 112)⟩, ⟨some 114, some (113, false), .mov (.t 0)⟩, ⟨some 115, some (113, false), .nilc (.t 114)⟩, ⟨some 116, some (113, false), .fad 0 (.t 115)⟩, ⟨some 117, some (113, false), .fad 4 (.t 116)⟩, ⟨some 118, some (113, false), .load none (.t 117)⟩, ⟨some 119, some (113, false), .fad 2 (.t 7)⟩, ⟨some 120, some (113, false), .load none (.t 119)⟩, ⟨some 121, some (113, false), .iad 2 (.t 118) (.t 120)⟩, ⟨some 122, some (113, false), .fad 1 (.t 121)⟩, ⟨some 123, some (113, false), .load none (.t 122)⟩, ⟨some 124, some (113, false), .len (.t 123)⟩, ⟨some 125, some (113, false), .mov (.t 11)⟩, ⟨some 126, some (113, false), .bin .shl (.c (.pv (.int .i64 1))) (.t 125)⟩, ⟨some 127, some (113, false), .bin .leq (.t 124) (.t 126)⟩, ⟨some 128, none, .lor (.t 113) (.t 127)⟩, ⟨some 129, none, .lit 1 [(.t 110), (.t 128)]⟩, ⟨some 130, none, .callf 34 [(.t 108), (.t 129)]⟩] [[], [], [1], [], [3], [3, 4], [3, 4, 5], [3, 4, 5, 6], [3, 4, 5, 6, 7], [3, 4, 5, 6, 7, 8], [3, 4, 5, 6, 7, 8, 9], [3, 4, 5], [3, 4, 5, 11], [3, 4, 5, 6, 7, 8, 9, 10, 11, 12], [3, 4, 5, 6, 7, 8, 9, 10, 11, 12, 13], [3, 4, 5, 6, 7, 8, 9, 10, 11, 12, 13, 14], [3, 4, 5, 6, 7, 8, 9, 10, 11, 12, 13, 14, 15], [3, 4, 5], [3, 4, 5, 17], [3, 4, 5, 6, 7, 8, 9, 10, 11, 12, 13, 14, 15, 16, 17, 18], [3, 4, 5, 6, 7, 8, 9, 10, 11, 12, 13, 14, 15, 16, 17, 18, 19], [1, 2, 3, 4, 5, 6, 7, 8, 9, 10, 11, 12, 13, 14, 15, 16, 17, 18, 19, 20], [0, 1, 2, 3, 4, 5, 6, 7, 8, 9, 10, 11, 12, 13, 14, 15, 16, 17, 18, 19, 20, 21]]) (.ext 2))) (.skip))) (.seq (.dreg [⟨some 131, none, .mov (.t 0)⟩, ⟨some 132, none, .fad 5 (.t 7)⟩, ⟨some 133, none, .load none (.t 132)⟩, ⟨some 134, none, .mov (.t 2)⟩, ⟨some 135, none, .bin .sub (.t 134) (.c (.pv (.int .i64 1)))⟩, ⟨some 136, none, .callf 36 [(.t 133), (.c (.pv (.int .i64 0))), (.t 135)]⟩, ⟨some 137, none, .fad 4 (.t 7)⟩, ⟨some 138, none, .load none (.t 137)⟩, ⟨some 139, none, .len (.t 138)⟩, ⟨some 140, none, .bin .eql (.t 139) (.c (.pv (.int .i64 0)))⟩, ⟨some 141, none, .lit 1 [(.t 136), (.t 140)]⟩, ⟨some 142, none, .callf 34 [(.t 131), (.t 141)]⟩] [[], [], [1], [], [3], [1, 2, 3, 4], [], [6], [6, 7], [6, 7, 8], [1, 2, 3, 4, 5, 6, 7, 8, 9], [0, 1, 2, 3, 4, 5, 6, 7, 8, 9, 10]]) (.seq (.reg [⟨some 143, none, .mov (.t 0)⟩, ⟨some 144, none, .nilc (.t 143)⟩, ⟨some 145, none, .fad 7 (.t 144)⟩, ⟨some 146, none, .load none (.t 145)⟩]) (.cond (.t 146) (.seq (.reg [⟨some 147, none, .fad 3 (.t 4)⟩, ⟨some 148, none, .load none (.t 147)⟩, ⟨some 149, none, .fad 5 (.t 7)⟩, ⟨some 150, none, .load none (.t 149)⟩, ⟨some 151, none, .iad 6 (.t 148) (.t 150)⟩, ⟨some 152, none, .load (some 6) (.t 151)⟩, ⟨some 12, none, .alloc [.pv (.str ⟨#[]⟩), .pv (.int .u8 0), .pv (.int .i64 0), .pv (.int .i64 0), .nilS 2, .pv (.int .i64 0)]⟩, ⟨none, none, .store 6 (.t 12) (.t 152)⟩]) (.reg [⟨some 153, none, .mov (.t 0)⟩, ⟨some 154, none, .fad 1 (.t 12)⟩, ⟨some 155, none, .load none (.t 154)⟩, ⟨some 156, none, .bin .eql (.t 155) (.c (.pv (.int .u8 1)))⟩, ⟨some 157, none, .fad 2 (.t 12)⟩, ⟨some 158, none, .load none (.t 157)⟩, ⟨some 159, none, .fad 2 (.t 7)⟩, ⟨some 160, none, .load none (.t 159)⟩, ⟨some 161, none, .bin .eql (.t 158) (.t 160)⟩, ⟨some 162, none, .fad 5 (.t 12)⟩, ⟨some 163, none, .load none (.t 162)⟩, ⟨some 164, none, .bin .eql (.t 163) (.c (.pv (.int .i64 (-1))))⟩, ⟨some 165, none, .lit 1 [(.t 156), (.t 161), (.t 164)]⟩, ⟨some 166, none, .callf 34 [(.t 153), (.t 165)]⟩])) (.skip))))))) (.seq (.seq (.reg [⟨some 168, none, .bin .eql (.t 76) (.c (.pv (.int .u8 2)))⟩, ⟨some 167, none, .mov (.t 168)⟩]) (.cond (.t 167) (.skip) (.seq (.reg [⟨some 169, none, .bin .eql (.t 76) (.c (.pv (.int .u8 3)))⟩, ⟨some 167, none, .mov (.t 169)⟩]) (.cond (.t 167) (.skip) (.reg [⟨some 170, none, .bin .eql (.t 76) (.c (.pv (.int .u8 4)))⟩, ⟨some 167, none, .mov (.t 170)⟩]))))) (.cond (.t 167) (.seq (.reg [⟨some 171, none, .load (some 6) (.t 7)⟩, ⟨some 172, none, .callf 81 [(.t 171)]⟩, ⟨some 13, none, .mov (.t 172)⟩]) (.dreg [⟨some 173, none, .mov (.t 0)⟩, ⟨some 174, none, .fad 2 (.t 7)⟩, ⟨some 175, none, .load none (.t 174)⟩, ⟨some 176, none, .bin .eql (.t 175) (.c (.pv (.int .i64 0)))⟩, ⟨some 177, none, .fad 5 (.t 7)⟩, ⟨some 178, none, .load none (.t 177)⟩, ⟨some 179, none, .bin .eql (.t 178) (.c (.pv (.int .i64 (-1))))⟩, ⟨some 180, none, .fad 3 (.t 7)⟩, ⟨some 181, none, .load none (.t 180)⟩, ⟨some 182, none, .callf 36 [(.t 181), (.c (.pv (.int .i64 0))), (.c (.pv (.int .i64 3)))]⟩, ⟨some 183, none, .mov (.t 13)⟩, ⟨some 184, none, .bin .gtr (.t 183) (.c (.pv (.int .i64 0)))⟩, ⟨some 185, none, .mov (.t 13)⟩, ⟨some 186, none, .fad 3 (.t 7)⟩, ⟨some 187, none, .load none (.t 186)⟩, ⟨some 188, none, .bin .add (.t 185) (.t 187)⟩, ⟨some 189, none, .mov (.t 0)⟩, ⟨some 190, none, .nilc (.t 189)⟩, ⟨some 191, none, .fad 0 (.t 190)⟩, ⟨some 192, none, .fad 2 (.t 191)⟩, ⟨some 193, none, .load none (.t 192)⟩, ⟨some 194, none, .bin .leq (.t 188) (.t 193)⟩, ⟨some 195, none, .lit 1 [(.t 176), (.t 179), (.t 182), (.t 184), (.t 194)]⟩, ⟨some 196, none, .callf 34 [(.t 173), (.t 195)]⟩] [[], [], [1], [1, 2], [], [4], [4, 5], [], [7], [7, 8], [], [10], [], [], [13], [12, 13, 14], [], [16], [16, 17], [16, 17, 18], [16, 17, 18, 19], [12, 13, 14, 15, 16, 17, 18, 19, 20], [1, 2, 3, 4, 5, 6, 7, 8, 9, 10, 11, 12, 13, 14, 15, 16, 17, 18, 19, 20, 21], [0, 1, 2, 3, 4, 5, 6, 7, 8, 9, 10, 11, 12, 13, 14, 15, 16, 17, 18, 19, 20, 21, 22]])) (.reg [⟨some 77, none, .mov (.t 0)⟩, ⟨some 78, none, .lit 1 [(.c (.pv (.bool false)))]⟩, ⟨some 79, none, .callf 34 [(.t 77), (.t 78)]⟩]))))))) (.seq (.reg [⟨some 197, none, .mov (.t 6)⟩, ⟨some 6, none, .mov (.t 197)⟩]) (.ret)))))
theorem k_machine_checker_operand : FnOk Tryd.prog 60 198 c_machine_checker_operand [.tmp 6] := .mk' (fn := Tryd.f60) rfl rfl (by kernel_rfl) rfl (by kernel_rfl) (by kernel_rfl)
/- "(*retarget/machine.checker).variables" -/
def c_machine_checker_variables : C :=
.seq (.reg [⟨some 3, none, .box 9 (.t 1)⟩, ⟨some 4, none, .mov (.c (.nilM))⟩]) (.seq (.reg [⟨some 10, none, .mkm⟩, ⟨some 11, none, .mov (.t 0)⟩, ⟨some 12, none, .nilc (.t 11)⟩, ⟨some 13, none, .fad 0 (.t 12)⟩, ⟨some 14, none, .fad 2 (.t 13)⟩, ⟨some 15, none, .load none (.t 14)⟩, ⟨none, none, .mup 2 (.t 10) (.c (.pv (.str ⟨#[112, 99]⟩))) (.t 15)⟩, ⟨some 16, none, .mov (.t 10)⟩, ⟨some 5, none, .mov (.t 16)⟩]) (.seq (.seq (.reg [⟨some 17, none, .mov (.t 0)⟩, ⟨some 18, none, .nilc (.t 17)⟩, ⟨some 19, none, .fad 0 (.t 18)⟩, ⟨some 20, none, .fad 3 (.t 19)⟩, ⟨some 21, none, .load none (.t 20)⟩, ⟨some 22, none, .len (.t 21)⟩, ⟨some 23, none, .mov (.c (.pv (.int .i64 0)))⟩]) (.blk 0 (.loop ⟨[0, 3, 5, 21, 22, 23], [0, 1, 2], 3⟩ (.seq (.reg [⟨some 24, none, .bin .lss (.t 23) (.t 22)⟩]) (.seq (.cond (.t 24) (.skip) (.ext 0)) (.seq (.blk 1 (.seq (.reg [⟨some 25, none, .iad 4 (.t 21) (.t 23)⟩, ⟨some 26, none, .load (some 4) (.t 25)⟩, ⟨some 7, none, .alloc [.pv (.str ⟨#[]⟩), .pv (.int .i64 0), .pv (.int .i64 0), .pv (.int .i64 0)]⟩, ⟨none, none, .store 4 (.t 7) (.t 26)⟩]) (.reg [⟨some 27, none, .mov (.t 5)⟩, ⟨some 28, none, .fad 0 (.t 7)⟩, ⟨some 29, none, .load none (.t 28)⟩, ⟨some 30, none, .bin .add (.c (.pv (.str ⟨#[114, 46]⟩))) (.t 29)⟩, ⟨some 31, none, .fad 1 (.t 7)⟩, ⟨some 32, none, .load none (.t 31)⟩, ⟨none, none, .mup 2 (.t 27) (.t 30) (.t 32)⟩]))) (.reg [⟨some 33, none, .bin .add (.t 23) (.c (.pv (.int .i64 1)))⟩, ⟨some 23, none, .mov (.t 33)⟩]))))))) (.seq (.seq (.reg [⟨some 34, none, .fad 3 (.t 3)⟩, ⟨some 35, none, .load none (.t 34)⟩, ⟨some 36, none, .len (.t 35)⟩, ⟨some 37, none, .mov (.c (.pv (.int .i64 0)))⟩]) (.blk 2 (.loop ⟨[0, 5, 35, 36, 37], [0, 1, 2], 3⟩ (.seq (.reg [⟨some 38, none, .bin .lss (.t 37) (.t 36)⟩]) (.seq (.cond (.t 38) (.skip) (.ext 2)) (.seq (.blk 3 (.seq (.reg [⟨some 39, none, .iad 6 (.t 35) (.t 37)⟩, ⟨some 40, none, .load (some 6) (.t 39)⟩, ⟨some 9, none, .alloc [.pv (.str ⟨#[]⟩), .pv (.int .u8 0), .pv (.int .i64 0), .pv (.int .i64 0), .nilS 2, .pv (.int .i64 0)]⟩, ⟨none, none, .store 6 (.t 9) (.t 40)⟩]) (.dreg [⟨some 41, none, .mov (.t 5)⟩, ⟨some 42, none, .fad 0 (.t 9)⟩, ⟨some 43, none, .load none (.t 42)⟩, ⟨some 44, none, .mov (.t 0)⟩, ⟨some 45, none, .nilc (.t 44)⟩, ⟨some 46, none, .fad 0 (.t 45)⟩, ⟨some 47, none, .load (some 7) (.t 46)⟩, ⟨some 48, none, .load (some 6) (.t 9)⟩, ⟨some 49, none, .callf 82 [(.t 47), (.t 48)]⟩, ⟨none, none, .mup 2 (.t 41) (.t 43) (.t 49)⟩] [[], [], [1], [], [3], [3, 4], [3, 4, 5], [], [3, 4, 5, 6, 7], [0, 1, 2, 3, 4, 5, 6, 7, 8]]))) (.reg [⟨some 50, none, .bin .add (.t 37) (.c (.pv (.int .i64 1)))⟩, ⟨some 37, none, .mov (.t 50)⟩]))))))) (.seq (.reg [⟨some 51, none, .mov (.t 5)⟩, ⟨some 4, none, .mov (.t 51)⟩]) (.ret)))))
theorem k_machine_checker_variables : FnOk Tryd.prog 61 52 c_machine_checker_variables [.tmp 4] := .mk' (fn := Tryd.f61) rfl rfl (by kernel_rfl) rfl (by kernel_rfl) (by kernel_rfl)
/- "(*retarget/machine.checker).effect" -/
def c_machine_checker_effect : C :=
.seq (.reg [⟨some 5, none, .box 9 (.t 1)⟩, ⟨some 6, none, .box 21 (.t 2)⟩]) (.seq (.seq (.reg [⟨some 9, none, .fad 0 (.t 6)⟩, ⟨some 10, none, .load none (.t 9)⟩, ⟨some 11, none, .bin .neq (.t 10) (.c (.pv (.int .u8 1)))⟩]) (.cond (.t 11) (.reg [⟨some 12, none, .mov (.t 0)⟩, ⟨some 13, none, .fad 1 (.t 6)⟩, ⟨some 14, none, .load none (.t 13)⟩, ⟨some 15, none, .bin .eql (.t 14) (.c (.pv (.int .i64 0)))⟩, ⟨some 16, none, .fad 2 (.t 6)⟩, ⟨some 17, none, .load none (.t 16)⟩, ⟨some 18, none, .bin .eql (.t 17) (.c (.pv (.int .i64 0)))⟩, ⟨some 19, none, .lit 1 [(.t 15), (.t 18)]⟩, ⟨some 20, none, .callf 34 [(.t 12), (.t 19)]⟩]) (.skip))) (.seq (.reg [⟨some 21, none, .mov (.t 0)⟩, ⟨some 22, none, .mov (.t 3)⟩, ⟨some 23, none, .fad 9 (.t 6)⟩, ⟨some 24, none, .load (some 6) (.t 23)⟩, ⟨some 25, none, .lit 6 [(.t 24)]⟩, ⟨some 26, none, .callf 83 [(.t 21), (.t 22), (.t 25)]⟩]) (.seq (.reg [⟨some 27, none, .fad 0 (.t 6)⟩, ⟨some 28, none, .load none (.t 27)⟩]) (.blk 0 (.seq (.reg [⟨some 33, none, .bin .eql (.t 28) (.c (.pv (.int .u8 1)))⟩, ⟨some 32, none, .mov (.t 33)⟩]) (.cond (.t 32) (.seq (.reg [⟨some 34, none, .mov (.t 0)⟩, ⟨some 35, none, .fad 3 (.t 6)⟩, ⟨some 36, none, .load (some 6) (.t 35)⟩, ⟨some 37, none, .fad 15 (.t 6)⟩, ⟨some 38, none, .load (some 6) (.t 37)⟩, ⟨some 39, none, .lit 6 [(.t 36), (.t 38)]⟩, ⟨some 40, none, .callf 84 [(.t 39)]⟩, ⟨some 41, none, .lit 1 [(.t 40)]⟩, ⟨some 42, none, .callf 34 [(.t 34), (.t 41)]⟩]) (.blk 1 (.seq (.dreg [⟨some 47, none, .fad 1 (.t 6)⟩, ⟨some 48, none, .load none (.t 47)⟩, ⟨some 49, none, .bin .eql (.t 48) (.c (.pv (.int .i64 (-1))))⟩, ⟨some 50, none, .mov (.t 49)⟩, ⟨some 51, some (50, true), .fad 2 (.t 6)⟩, ⟨some 52, some (50, true), .load none (.t 51)⟩, ⟨some 53, some (50, true), .mov (.t 0)⟩, ⟨some 54, some (50, true), .nilc (.t 53)⟩, ⟨some 55, some (50, true), .fad 0 (.t 54)⟩, ⟨some 56, some (50, true), .fad 3 (.t 55)⟩, ⟨some 57, some (50, true), .load none (.t 56)⟩, ⟨some 58, some (50, true), .len (.t 57)⟩, ⟨some 59, some (50, true), .bin .sub (.t 58) (.c (.pv (.int .i64 1)))⟩, ⟨some 60, some (50, true), .callf 36 [(.t 52), (.c (.pv (.int .i64 0))), (.t 59)]⟩, ⟨some 61, none, .land (.t 50) (.t 60)⟩, ⟨some 46, none, .mov (.t 61)⟩] [[], [0], [0, 1], [0, 1, 2], [0, 1, 2, 3], [0, 1, 2, 3, 4], [0, 1, 2, 3], [0, 1, 2, 3, 6], [0, 1, 2, 3, 6, 7], [0, 1, 2, 3, 6, 7, 8], [0, 1, 2, 3, 6, 7, 8, 9], [0, 1, 2, 3, 6, 7, 8, 9, 10], [0, 1, 2, 3, 6, 7, 8, 9, 10, 11], [0, 1, 2, 3, 4, 5, 6, 7, 8, 9, 10, 11, 12], [0, 1, 2, 3, 4, 5, 6, 7, 8, 9, 10, 11, 12, 13], [0, 1, 2, 3, 4, 5, 6, 7, 8, 9, 10, 11, 12, 13, 14]]) (.cond (.t 46) (.dreg [⟨some 62, none, .mov (.t 0)⟩, ⟨some 63, none, .fad 9 (.t 6)⟩, ⟨some 64, none, .fad 1 (.t 63)⟩, ⟨some 65, none, .load none (.t 64)⟩, ⟨some 66, none, .mov (.t 0)⟩, ⟨some 67, none, .nilc (.t 66)⟩, ⟨some 68, none, .fad 0 (.t 67)⟩, ⟨some 69, none, .fad 3 (.t 68)⟩, ⟨some 70, none, .load none (.t 69)⟩, ⟨some 71, none, .fad 2 (.t 6)⟩, ⟨some 72, none, .load none (.t 71)⟩, ⟨some 73, none, .iad 4 (.t 70) (.t 72)⟩, ⟨some 74, none, .fad 1 (.t 73)⟩, ⟨some 75, none, .load none (.t 74)⟩, ⟨some 76, none, .bin .eql (.t 65) (.t 75)⟩, ⟨some 77, none, .lit 1 [(.t 76)]⟩, ⟨some 78, none, .callf 34 [(.t 62), (.t 77)]⟩] [[], [], [1], [1, 2], [], [4], [4, 5], [4, 5, 6], [4, 5, 6, 7], [], [9], [4, 5, 6, 7, 8, 9, 10], [4, 5, 6, 7, 8, 9, 10, 11], [4, 5, 6, 7, 8, 9, 10, 11, 12], [1, 2, 3, 4, 5, 6, 7, 8, 9, 10, 11, 12, 13], [1, 2, 3, 4, 5, 6, 7, 8, 9, 10, 11, 12, 13, 14], [0, 1, 2, 3, 4, 5, 6, 7, 8, 9, 10, 11, 12, 13, 14, 15]]) (.seq (.reg [⟨some 80, none, .fad 2 (.t 6)⟩, ⟨some 81, none, .load none (.t 80)⟩, ⟨some 82, none, .bin .eql (.t 81) (.c (.pv (.int .i64 0)))⟩, ⟨some 83, none, .mov (.t 82)⟩, ⟨some 84, some (83, true), .fad 1 (.t 6)⟩, ⟨some 85, some (83, true), .load none (.t 84)⟩, ⟨some 86, some (83, true), .fad 3 (.t 5)⟩, ⟨some 87, some (83, true), .load none (.t 86)⟩, ⟨some 88, some (83, true), .len (.t 87)⟩, ⟨some 89, some (83, true), .bin .sub (.t 88) (.c (.pv (.int .i64 1)))⟩, ⟨some 90, some (83, true), .callf 36 [(.t 85), (.c (.pv (.int .i64 0))), (.t 89)]⟩, ⟨some 91, none, .land (.t 83) (.t 90)⟩, ⟨some 79, none, .mov (.t 91)⟩]) (.cond (.t 79) (.seq (.reg [⟨some 92, none, .fad 3 (.t 5)⟩, ⟨some 93, none, .load none (.t 92)⟩, ⟨some 94, none, .fad 1 (.t 6)⟩, ⟨some 95, none, .load none (.t 94)⟩, ⟨some 96, none, .iad 6 (.t 93) (.t 95)⟩, ⟨some 97, none, .load (some 6) (.t 96)⟩, ⟨some 8, none, .alloc [.pv (.str ⟨#[]⟩), .pv (.int .u8 0), .pv (.int .i64 0), .pv (.int .i64 0), .nilS 2, .pv (.int .i64 0)]⟩, ⟨none, none, .store 6 (.t 8) (.t 97)⟩]) (.dreg [⟨some 98, none, .mov (.t 0)⟩, ⟨some 99, none, .fad 1 (.t 8)⟩, ⟨some 100, none, .load none (.t 99)⟩, ⟨some 101, none, .bin .eql (.t 100) (.c (.pv (.int .u8 1)))⟩, ⟨some 102, none, .fad 9 (.t 6)⟩, ⟨some 103, none, .fad 1 (.t 102)⟩, ⟨some 104, none, .load none (.t 103)⟩, ⟨some 105, none, .mov (.t 0)⟩, ⟨some 106, none, .nilc (.t 105)⟩, ⟨some 107, none, .fad 0 (.t 106)⟩, ⟨some 108, none, .load (some 7) (.t 107)⟩, ⟨some 109, none, .load (some 6) (.t 8)⟩, ⟨some 110, none, .callf 82 [(.t 108), (.t 109)]⟩, ⟨some 111, none, .bin .eql (.t 104) (.t 110)⟩, ⟨some 112, none, .lit 1 [(.t 101), (.t 111)]⟩, ⟨some 113, none, .callf 34 [(.t 98), (.t 112)]⟩] [[], [], [1], [1, 2], [], [4], [4, 5], [], [7], [7, 8], [7, 8, 9], [], [7, 8, 9, 10, 11], [4, 5, 6, 7, 8, 9, 10, 11, 12], [1, 2, 3, 4, 5, 6, 7, 8, 9, 10, 11, 12, 13], [0, 1, 2, 3, 4, 5, 6, 7, 8, 9, 10, 11, 12, 13, 14]])) (.reg [⟨some 43, none, .mov (.t 0)⟩, ⟨some 44, none, .lit 1 [(.c (.pv (.bool false)))]⟩, ⟨some 45, none, .callf 34 [(.t 43), (.t 44)]⟩]))))))) (.seq (.reg [⟨some 115, none, .bin .eql (.t 28) (.c (.pv (.int .u8 2)))⟩, ⟨some 114, none, .mov (.t 115)⟩]) (.cond (.t 114) (.seq (.reg [⟨some 116, none, .mov (.t 0)⟩, ⟨some 117, none, .mov (.t 3)⟩, ⟨some 118, none, .fad 3 (.t 6)⟩, ⟨some 119, none, .load (some 6) (.t 118)⟩, ⟨some 120, none, .lit 6 [(.t 119)]⟩, ⟨some 121, none, .callf 83 [(.t 116), (.t 117), (.t 120)]⟩]) (.dreg [⟨some 122, none, .mov (.t 0)⟩, ⟨some 123, none, .fad 15 (.t 6)⟩, ⟨some 124, none, .load (some 6) (.t 123)⟩, ⟨some 125, none, .lit 6 [(.t 124)]⟩, ⟨some 126, none, .callf 84 [(.t 125)]⟩, ⟨some 127, none, .fad 3 (.t 6)⟩, ⟨some 128, none, .fad 1 (.t 127)⟩, ⟨some 129, none, .load none (.t 128)⟩, ⟨some 130, none, .mov (.t 0)⟩, ⟨some 131, none, .nilc (.t 130)⟩, ⟨some 132, none, .fad 0 (.t 131)⟩, ⟨some 133, none, .fad 2 (.t 132)⟩, ⟨some 134, none, .load none (.t 133)⟩, ⟨some 135, none, .bin .eql (.t 129) (.t 134)⟩, ⟨some 136, none, .lit 1 [(.c (.pv (.int .i64 8))), (.c (.pv (.int .i64 16))), (.c (.pv (.int .i64 32))), (.c (.pv (.int .i64 64)))]⟩, ⟨some 137, none, .fad 9 (.t 6)⟩, ⟨some 138, none, .fad 1 (.t 137)⟩, ⟨some 139, none, .load none (.t 138)⟩, ⟨some 140, none, .callf 57 [(.t 136), (.t 139)]⟩, ⟨some 141, none, .lit 1 [(.t 126), (.t 135), (.t 140)]⟩, ⟨some 142, none, .callf 34 [(.t 122), (.t 141)]⟩] [[], [], [1], [1, 2], [1, 2, 3], [], [5], [5, 6], [], [8], [8, 9], [8, 9, 10], [8, 9, 10, 11], [5, 6, 7, 8, 9, 10, 11, 12], [], [], [15], [15, 16], [1, 2, 3, 4, 14, 15, 16, 17], [1, 2, 3, 4, 5, 6, 7, 8, 9, 10, 11, 12, 13, 14, 15, 16, 17, 18], [0, 1, 2, 3, 4, 5, 6, 7, 8, 9, 10, 11, 12, 13, 14, 15, 16, 17, 18, 19]])) (.seq (.reg [⟨some 144, none, .bin .eql (.t 28) (.c (.pv (.int .u8 3)))⟩, ⟨some 143, none, .mov (.t 144)⟩]) (.cond (.t 143) (.seq (.dreg [⟨some 145, none, .mov (.t 0)⟩, ⟨some 146, none, .fad 3 (.t 6)⟩, ⟨some 147, none, .load (some 6) (.t 146)⟩, ⟨some 148, none, .lit 6 [(.t 147)]⟩, ⟨some 149, none, .callf 84 [(.t 148)]⟩, ⟨some 150, none, .fad 9 (.t 6)⟩, ⟨some 151, none, .fad 1 (.t 150)⟩, ⟨some 152, none, .load none (.t 151)⟩, ⟨some 153, none, .mov (.t 0)⟩, ⟨some 154, none, .nilc (.t 153)⟩, ⟨some 155, none, .fad 0 (.t 154)⟩, ⟨some 156, none, .fad 2 (.t 155)⟩, ⟨some 157, none, .load none (.t 156)⟩, ⟨some 158, none, .bin .eql (.t 152) (.t 157)⟩, ⟨some 159, none, .lit 1 [(.t 149), (.t 158)]⟩, ⟨some 160, none, .callf 34 [(.t 145), (.t 159)]⟩] [[], [], [1], [1, 2], [1, 2, 3], [], [5], [5, 6], [], [8], [8, 9], [8, 9, 10], [8, 9, 10, 11], [5, 6, 7, 8, 9, 10, 11, 12], [1, 2, 3, 4, 5, 6, 7, 8, 9, 10, 11, 12, 13], [0, 1, 2, 3, 4, 5, 6, 7, 8, 9, 10, 11, 12, 13, 14]]) (.seq (.reg [⟨some 161, none, .fad 15 (.t 6)⟩, ⟨some 162, none, .load (some 6) (.t 161)⟩, ⟨some 163, none, .lit 6 [(.t 162)]⟩, ⟨some 164, none, .callf 84 [(.t 163)]⟩, ⟨some 165, none, .un .not (.t 164)⟩]) (.cond (.t 165) (.seq (.reg [⟨some 166, none, .mov (.t 0)⟩, ⟨some 167, none, .mov (.t 3)⟩, ⟨some 168, none, .fad 15 (.t 6)⟩, ⟨some 169, none, .load (some 6) (.t 168)⟩, ⟨some 170, none, .lit 6 [(.t 169)]⟩, ⟨some 171, none, .callf 83 [(.t 166), (.t 167), (.t 170)]⟩]) (.reg [⟨some 172, none, .mov (.t 0)⟩, ⟨some 173, none, .fad 15 (.t 6)⟩, ⟨some 174, none, .fad 1 (.t 173)⟩, ⟨some 175, none, .load none (.t 174)⟩, ⟨some 176, none, .bin .eql (.t 175) (.c (.pv (.int .i64 1)))⟩, ⟨some 177, none, .lit 1 [(.t 176)]⟩, ⟨some 178, none, .callf 34 [(.t 172), (.t 177)]⟩])) (.skip)))) (.seq (.reg [⟨some 180, none, .bin .eql (.t 28) (.c (.pv (.int .u8 4)))⟩, ⟨some 179, none, .mov (.t 180)⟩]) (.cond (.t 179) (.reg [⟨some 181, none, .mov (.t 0)⟩, ⟨some 182, none, .fad 3 (.t 6)⟩, ⟨some 183, none, .load (some 6) (.t 182)⟩, ⟨some 184, none, .fad 15 (.t 6)⟩, ⟨some 185, none, .load (some 6) (.t 184)⟩, ⟨some 186, none, .lit 6 [(.t 183), (.t 185)]⟩, ⟨some 187, none, .callf 84 [(.t 186)]⟩, ⟨some 188, none, .lit 1 [(.t 187)]⟩, ⟨some 189, none, .callf 34 [(.t 181), (.t 188)]⟩]) (.reg [⟨some 29, none, .mov (.t 0)⟩, ⟨some 30, none, .lit 1 [(.c (.pv (.bool false)))]⟩, ⟨some 31, none, .callf 34 [(.t 29), (.t 30)]⟩])))))))))))))
theorem k_machine_checker_effect : FnOk Tryd.prog 62 190 c_machine_checker_effect [] := .mk' (fn := Tryd.f62) rfl rfl (by kernel_rfl) rfl (by kernel_rfl) (by kernel_rfl)
/- "retarget/machine.field" -/
def c_machine_field : C :=
.seq (.reg [⟨some 1, none, .box 6 (.t 0)⟩, ⟨some 2, none, .mov (.c (.pv (.int .i64 0)))⟩]) (.seq (.seq (.reg [⟨some 5, none, .fad 4 (.t 1)⟩, ⟨some 6, none, .load none (.t 5)⟩, ⟨some 7, none, .len (.t 6)⟩, ⟨some 8, none, .mov (.c (.pv (.int .i64 0)))⟩]) (.blk 0 (.loop ⟨[2, 6, 7, 8], [0], 1⟩ (.seq (.reg [⟨some 9, none, .bin .lss (.t 8) (.t 7)⟩]) (.seq (.cond (.t 9) (.skip) (.ext 0)) (.seq (.blk 1 (.seq (.reg [⟨some 10, none, .iad 2 (.t 6) (.t 8)⟩, ⟨some 11, none, .load (some 2) (.t 10)⟩, ⟨some 4, none, .alloc [.pv (.int .i64 0), .pv (.int .i64 0)]⟩, ⟨none, none, .store 2 (.t 4) (.t 11)⟩]) (.reg [⟨some 12, none, .mov (.t 2)⟩, ⟨some 13, none, .fad 1 (.t 4)⟩, ⟨some 14, none, .load none (.t 13)⟩, ⟨some 15, none, .bin .add (.t 12) (.t 14)⟩, ⟨some 2, none, .mov (.t 15)⟩]))) (.reg [⟨some 16, none, .bin .add (.t 8) (.c (.pv (.int .i64 1)))⟩, ⟨some 8, none, .mov (.t 16)⟩]))))))) (.seq (.reg [⟨some 17, none, .mov (.t 2)⟩, ⟨some 2, none, .mov (.t 17)⟩]) (.ret)))
theorem k_machine_field : FnOk Tryd.prog 81 18 c_machine_field [.tmp 2] := .mk' (fn := Tryd.f81) rfl rfl (by kernel_rfl) rfl (by kernel_rfl) (by kernel_rfl)
/- "retarget/machine.wide" -/
def c_machine_wide : C :=
.seq (.reg [⟨some 2, none, .box 7 (.t 0)⟩, ⟨some 3, none, .box 6 (.t 1)⟩, ⟨some 4, none, .mov (.c (.pv (.int .i64 0)))⟩]) (.seq (.seq (.reg [⟨some 5, none, .fad 1 (.t 3)⟩, ⟨some 6, none, .load none (.t 5)⟩, ⟨some 7, none, .bin .neq (.t 6) (.c (.pv (.int .u8 1)))⟩]) (.cond (.t 7) (.seq (.reg [⟨some 8, none, .fad 2 (.t 2)⟩, ⟨some 9, none, .load none (.t 8)⟩, ⟨some 4, none, .mov (.t 9)⟩]) (.ret)) (.skip))) (.seq (.dreg [⟨some 10, none, .fad 3 (.t 2)⟩, ⟨some 11, none, .load none (.t 10)⟩, ⟨some 12, none, .fad 4 (.t 2)⟩, ⟨some 13, none, .load none (.t 12)⟩, ⟨some 14, none, .fad 2 (.t 3)⟩, ⟨some 15, none, .load none (.t 14)⟩, ⟨some 16, none, .iad 2 (.t 13) (.t 15)⟩, ⟨some 17, none, .fad 1 (.t 16)⟩, ⟨some 18, none, .load none (.t 17)⟩, ⟨some 19, none, .iad 1 (.t 18) (.c (.pv (.int .i64 0)))⟩, ⟨some 20, none, .load none (.t 19)⟩, ⟨some 21, none, .iad 4 (.t 11) (.t 20)⟩, ⟨some 22, none, .fad 1 (.t 21)⟩, ⟨some 23, none, .load none (.t 22)⟩, ⟨some 4, none, .mov (.t 23)⟩] [[], [0], [], [2], [], [4], [2, 3, 4, 5], [2, 3, 4, 5, 6], [2, 3, 4, 5, 6, 7], [2, 3, 4, 5, 6, 7, 8], [2, 3, 4, 5, 6, 7, 8, 9], [0, 1, 2, 3, 4, 5, 6, 7, 8, 9, 10], [0, 1, 2, 3, 4, 5, 6, 7, 8, 9, 10, 11], [0, 1, 2, 3, 4, 5, 6, 7, 8, 9, 10, 11, 12], [0, 1, 2, 3, 4, 5, 6, 7, 8, 9, 10, 11, 12, 13]]) (.ret)))
theorem k_machine_wide : FnOk Tryd.prog 82 24 c_machine_wide [.tmp 4] := .mk' (fn := Tryd.f82) rfl rfl (by kernel_rfl) rfl (by kernel_rfl) (by kernel_rfl)
/- "(*retarget/machine.checker).fits" -/
def c_machine_checker_fits : C :=
.seq (.reg [⟨some 8, none, .mov (.t 2)⟩, ⟨some 9, none, .len (.t 8)⟩, ⟨some 10, none, .mov (.c (.pv (.int .i64 0)))⟩]) (.blk 0 (.loop ⟨[0, 1, 8, 9, 10], [0, 1], 2⟩ (.seq (.reg [⟨some 11, none, .bin .lss (.t 10) (.t 9)⟩]) (.seq (.cond (.t 11) (.skip) (.ext 0)) (.seq (.blk 1 (.seq (.reg [⟨some 12, none, .iad 6 (.t 8) (.t 10)⟩, ⟨some 13, none, .load (some 6) (.t 12)⟩, ⟨some 7, none, .alloc [.pv (.int .u8 0), .pv (.int .i64 0), .pv (.int .u64 0), .pv (.str ⟨#[]⟩), .pv (.int .i64 0), .nilS 6]⟩, ⟨none, none, .store 6 (.t 7) (.t 13)⟩]) (.seq (.reg [⟨some 14, none, .mov (.t 0)⟩, ⟨some 15, none, .load (some 6) (.t 7)⟩, ⟨some 16, none, .callf 93 [(.t 15)]⟩, ⟨some 17, none, .bin .eql (.t 16) (.c (.pv (.int .i64 0)))⟩, ⟨some 18, none, .lit 1 [(.t 17)]⟩, ⟨some 19, none, .callf 34 [(.t 14), (.t 18)]⟩]) (.seq (.seq (.reg [⟨some 20, none, .mov (.t 0)⟩, ⟨some 21, none, .nilc (.t 20)⟩, ⟨some 22, none, .fad 7 (.t 21)⟩, ⟨some 23, none, .load none (.t 22)⟩, ⟨some 24, none, .un .not (.t 23)⟩]) (.cond (.t 24) (.ret) (.skip))) (.reg [⟨some 25, none, .mov (.t 0)⟩, ⟨some 26, none, .mov (.t 1)⟩, ⟨some 27, none, .load (some 6) (.t 7)⟩, ⟨some 28, none, .callf 94 [(.t 25), (.t 26), (.t 27)]⟩]))))) (.reg [⟨some 29, none, .bin .add (.t 10) (.c (.pv (.int .i64 1)))⟩, ⟨some 10, none, .mov (.t 29)⟩]))))))
theorem k_machine_checker_fits : FnOk Tryd.prog 83 30 c_machine_checker_fits [] := .mk' (fn := Tryd.f83) rfl rfl (by kernel_rfl) rfl (by kernel_rfl) (by kernel_rfl)
/- "retarget/machine.none" -/
def c_machine_none : C :=
.seq (.reg [⟨some 2, none, .mov (.c (.pv (.bool false)))⟩]) (.seq (.seq (.reg [⟨some 5, none, .mov (.t 0)⟩, ⟨some 6, none, .len (.t 5)⟩, ⟨some 7, none, .mov (.c (.pv (.int .i64 0)))⟩]) (.blk 0 (.loop ⟨[5, 6, 7], [], 0⟩ (.seq (.reg [⟨some 8, none, .bin .lss (.t 7) (.t 6)⟩]) (.seq (.cond (.t 8) (.skip) (.ext 0)) (.seq (.blk 1 (.seq (.reg [⟨some 9, none, .iad 6 (.t 5) (.t 7)⟩, ⟨some 10, none, .load (some 6) (.t 9)⟩, ⟨some 4, none, .alloc [.pv (.int .u8 0), .pv (.int .i64 0), .pv (.int .u64 0), .pv (.str ⟨#[]⟩), .pv (.int .i64 0), .nilS 6]⟩, ⟨none, none, .store 6 (.t 4) (.t 10)⟩]) (.seq (.reg [⟨some 11, none, .fad 0 (.t 4)⟩, ⟨some 12, none, .load none (.t 11)⟩, ⟨some 13, none, .bin .neq (.t 12) (.c (.pv (.int .u8 0)))⟩, ⟨some 14, none, .mov (.t 13)⟩, ⟨some 15, some (14, false), .fad 1 (.t 4)⟩, ⟨some 16, some (14, false), .load none (.t 15)⟩, ⟨some 17, some (14, false), .bin .neq (.t 16) (.c (.pv (.int .i64 0)))⟩, ⟨some 18, none, .lor (.t 14) (.t 17)⟩, ⟨some 19, none, .mov (.t 18)⟩, ⟨some 20, some (19, false), .fad 2 (.t 4)⟩, ⟨some 21, some (19, false), .load none (.t 20)⟩, ⟨some 22, some (19, false), .bin .neq (.t 21) (.c (.pv (.int .u64 0)))⟩, ⟨some 23, none, .lor (.t 19) (.t 22)⟩, ⟨some 24, none, .mov (.t 23)⟩, ⟨some 25, some (24, false), .fad 3 (.t 4)⟩, ⟨some 26, some (24, false), .load none (.t 25)⟩, ⟨some 27, some (24, false), .bin .neq (.t 26) (.c (.pv (.str ⟨#[]⟩)))⟩, ⟨some 28, none, .lor (.t 24) (.t 27)⟩, ⟨some 29, none, .mov (.t 28)⟩, ⟨some 30, some (29, false), .fad 4 (.t 4)⟩, ⟨some 31, some (29, false), .load none (.t 30)⟩, ⟨some 32, some (29, false), .bin .neq (.t 31) (.c (.pv (.int .i64 0)))⟩, ⟨some 33, none, .lor (.t 29) (.t 32)⟩, ⟨some 34, none, .mov (.t 33)⟩, ⟨some 35, some (34, false), .fad 5 (.t 4)⟩, ⟨some 36, some (34, false), .load none (.t 35)⟩, ⟨some 37, some (34, false), .len (.t 36)⟩, ⟨some 38, some (34, false), .bin .gtr (.t 37) (.c (.pv (.int .i64 0)))⟩, ⟨some 39, none, .lor (.t 34) (.t 38)⟩]) (.cond (.t 39) (.seq (.reg [⟨some 2, none, .mov (.c (.pv (.bool false)))⟩]) (.ret)) (.skip))))) (.reg [⟨some 40, none, .bin .add (.t 7) (.c (.pv (.int .i64 1)))⟩, ⟨some 7, none, .mov (.t 40)⟩]))))))) (.seq (.reg [⟨some 2, none, .mov (.c (.pv (.bool true)))⟩]) (.ret)))
theorem k_machine_none : FnOk Tryd.prog 84 41 c_machine_none [.tmp 2] := .mk' (fn := Tryd.f84) rfl rfl (by kernel_rfl) rfl (by kernel_rfl) (by kernel_rfl)
/- "(*retarget/machine.checker).leaves" -/
def c_machine_checker_leaves : C :=
.seq (.reg [⟨some 5, none, .box 6 (.t 2)⟩]) (.seq (.seq (.reg [⟨some 8, none, .fad 0 (.t 5)⟩, ⟨some 9, none, .load none (.t 8)⟩]) (.blk 0 (.seq (.reg [⟨some 11, none, .bin .eql (.t 9) (.c (.pv (.int .u8 2)))⟩, ⟨some 10, none, .mov (.t 11)⟩]) (.cond (.t 10) (.reg [⟨some 12, none, .mov (.t 0)⟩, ⟨some 13, none, .mov (.t 1)⟩, ⟨some 14, none, .fad 3 (.t 5)⟩, ⟨some 15, none, .load none (.t 14)⟩, ⟨some 16, none, .look 2 (.pv (.int .i64 0)) (.t 13) (.t 15) false⟩, ⟨some 17, none, .fad 1 (.t 5)⟩, ⟨some 18, none, .load none (.t 17)⟩, ⟨some 19, none, .bin .eql (.t 16) (.t 18)⟩, ⟨some 20, none, .lit 1 [(.t 19)]⟩, ⟨some 21, none, .callf 34 [(.t 12), (.t 20)]⟩]) (.seq (.reg [⟨some 23, none, .bin .eql (.t 9) (.c (.pv (.int .u8 24)))⟩, ⟨some 22, none, .mov (.t 23)⟩]) (.cond (.t 22) (.dreg [⟨some 24, none, .mov (.t 0)⟩, ⟨some 25, none, .fad 5 (.t 5)⟩, ⟨some 26, none, .load none (.t 25)⟩, ⟨some 27, none, .iad 6 (.t 26) (.c (.pv (.int .i64 0)))⟩, ⟨some 28, none, .fad 1 (.t 27)⟩, ⟨some 29, none, .load none (.t 28)⟩, ⟨some 30, none, .mov (.t 0)⟩, ⟨some 31, none, .nilc (.t 30)⟩, ⟨some 32, none, .fad 0 (.t 31)⟩, ⟨some 33, none, .fad 2 (.t 32)⟩, ⟨some 34, none, .load none (.t 33)⟩, ⟨some 35, none, .bin .eql (.t 29) (.t 34)⟩, ⟨some 36, none, .lit 1 [(.t 35)]⟩, ⟨some 37, none, .callf 34 [(.t 24), (.t 36)]⟩] [[], [], [1], [1, 2], [1, 2, 3], [1, 2, 3, 4], [], [6], [6, 7], [6, 7, 8], [6, 7, 8, 9], [1, 2, 3, 4, 5, 6, 7, 8, 9, 10], [1, 2, 3, 4, 5, 6, 7, 8, 9, 10, 11], [0, 1, 2, 3, 4, 5, 6, 7, 8, 9, 10, 11, 12]]) (.skip))))))) (.seq (.reg [⟨some 38, none, .fad 5 (.t 5)⟩, ⟨some 39, none, .load none (.t 38)⟩, ⟨some 40, none, .len (.t 39)⟩, ⟨some 41, none, .mov (.c (.pv (.int .i64 0)))⟩]) (.blk 1 (.loop ⟨[0, 1, 39, 40, 41], [0, 1, 2], 3⟩ (.seq (.reg [⟨some 42, none, .bin .lss (.t 41) (.t 40)⟩]) (.seq (.cond (.t 42) (.skip) (.ext 1)) (.seq (.blk 2 (.seq (.reg [⟨some 43, none, .iad 6 (.t 39) (.t 41)⟩, ⟨some 44, none, .load (some 6) (.t 43)⟩, ⟨some 7, none, .alloc [.pv (.int .u8 0), .pv (.int .i64 0), .pv (.int .u64 0), .pv (.str ⟨#[]⟩), .pv (.int .i64 0), .nilS 6]⟩, ⟨none, none, .store 6 (.t 7) (.t 44)⟩]) (.reg [⟨some 45, none, .mov (.t 0)⟩, ⟨some 46, none, .mov (.t 1)⟩, ⟨some 47, none, .load (some 6) (.t 7)⟩, ⟨some 48, none, .callf 94 [(.t 45), (.t 46), (.t 47)]⟩]))) (.reg [⟨some 49, none, .bin .add (.t 41) (.c (.pv (.int .i64 1)))⟩, ⟨some 41, none, .mov (.t 49)⟩]))))))))
theorem k_machine_checker_leaves : FnOk Tryd.prog 94 50 c_machine_checker_leaves [] := .mk' (fn := Tryd.f94) rfl rfl (by kernel_rfl) rfl (by kernel_rfl) (by kernel_rfl)
end Go.Proofs.YthocoandbiaoiaaDoorV
