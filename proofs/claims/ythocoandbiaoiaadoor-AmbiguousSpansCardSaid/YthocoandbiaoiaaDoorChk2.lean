/- Packed: Tb Cb Pa Ch Ci Cj Pb Ck Cl Cm Pc Cn Co Cp Cq Cr Pd Pe Pf Ph -/
import Derived.Test.YthocoandbiaoiaaDoorChk1
import Derived.Test.YthocoandbiaoiaaDoorProg
set_option linter.all false
namespace Go.Proofs.YthocoandbiaoiaaDoorV
open Go
set_option maxRecDepth 100000
/- "retarget/retargetref02.Great" -/
def c_retargetref02_Great : C :=
.seq (.reg [⟨some 1, none, .box 6 (.t 0)⟩, ⟨some 2, none, .mov (.c (.pv (.bool false)))⟩]) (.seq (.reg [⟨some 6, none, .load (some 6) (.t 1)⟩, ⟨some 7, none, .callf 51 [(.t 6), (.c (.pv (.int .i64 500))), (.c (.pv (.int .i64 80)))]⟩, ⟨some 5, none, .mov (.t 7)⟩, ⟨some 8, none, .ext (.t 5) 0⟩, ⟨some 9, none, .ext (.t 5) 1⟩, ⟨some 3, none, .mov (.t 8)⟩, ⟨some 4, none, .mov (.t 9)⟩]) (.seq (.reg [⟨some 10, none, .mov (.t 4)⟩, ⟨some 11, none, .un .not (.t 10)⟩, ⟨some 12, none, .mov (.t 11)⟩, ⟨some 13, some (12, false), .mov (.t 3)⟩, ⟨some 14, some (12, false), .bin .gtr (.t 13) (.c (.pv (.int .i64 500)))⟩, ⟨some 15, none, .lor (.t 12) (.t 14)⟩, ⟨some 16, none, .mov (.t 15)⟩, ⟨some 17, some (16, false), .load (some 6) (.t 1)⟩, ⟨some 18, some (16, false), .callf 52 [(.t 17)]⟩, ⟨some 19, none, .lor (.t 16) (.t 18)⟩, ⟨some 2, none, .mov (.t 19)⟩]) (.ret)))
theorem k_retargetref02_Great : FnOk Tryd.prog 24 20 c_retargetref02_Great [.tmp 2] := .mk' (fn := Tryd.f24) rfl rfl (by kernel_rfl) rfl (by kernel_rfl) (by kernel_rfl)
/- "retarget/retargetref02.count" -/
def c_retargetref02_count : C :=
.seq (.reg [⟨some 3, none, .box 6 (.t 0)⟩, ⟨some 6, none, .mov (.c (.pv (.int .i64 0)))⟩, ⟨some 7, none, .mov (.c (.pv (.bool false)))⟩]) (.seq (.seq (.reg [⟨some 12, none, .mov (.t 2)⟩, ⟨some 13, none, .bin .eql (.t 12) (.c (.pv (.int .i64 0)))⟩]) (.cond (.t 13) (.seq (.reg [⟨some 6, none, .mov (.c (.pv (.int .i64 1)))⟩, ⟨some 7, none, .mov (.c (.pv (.bool false)))⟩]) (.ret)) (.skip))) (.seq (.reg [⟨some 8, none, .mov (.c (.pv (.int .i64 1)))⟩]) (.seq (.seq (.reg [⟨some 9, none, .mov (.c (.pv (.int .i64 0)))⟩]) (.blk 0 (.loop ⟨[1, 2, 3, 8, 9], [0], 1⟩ (.seq (.seq (.reg [⟨some 14, none, .mov (.t 9)⟩, ⟨some 15, none, .fad 5 (.t 3)⟩, ⟨some 16, none, .load none (.t 15)⟩, ⟨some 17, none, .len (.t 16)⟩, ⟨some 18, none, .bin .lss (.t 14) (.t 17)⟩, ⟨some 19, none, .mov (.t 18)⟩, ⟨some 20, some (19, true), .mov (.t 8)⟩, ⟨some 21, some (19, true), .mov (.t 1)⟩, ⟨some 22, some (19, true), .bin .leq (.t 20) (.t 21)⟩, ⟨some 23, none, .land (.t 19) (.t 22)⟩]) (.cond (.t 23) (.skip) (.ext 0))) (.seq (.blk 1 (.seq (.reg [⟨some 27, none, .fad 5 (.t 3)⟩, ⟨some 28, none, .load none (.t 27)⟩, ⟨some 29, none, .mov (.t 9)⟩, ⟨some 30, none, .iad 6 (.t 28) (.t 29)⟩, ⟨some 31, none, .load (some 6) (.t 30)⟩, ⟨some 32, none, .mov (.t 1)⟩, ⟨some 33, none, .mov (.t 8)⟩, ⟨some 34, none, .bin .sub (.t 32) (.t 33)⟩, ⟨some 35, none, .mov (.t 2)⟩, ⟨some 36, none, .bin .sub (.t 35) (.c (.pv (.int .i64 1)))⟩, ⟨some 37, none, .callf 51 [(.t 31), (.t 34), (.t 36)]⟩, ⟨some 26, none, .mov (.t 37)⟩, ⟨some 38, none, .ext (.t 26) 0⟩, ⟨some 39, none, .ext (.t 26) 1⟩, ⟨some 10, none, .mov (.t 38)⟩, ⟨some 11, none, .mov (.t 39)⟩]) (.seq (.seq (.reg [⟨some 40, none, .mov (.t 11)⟩, ⟨some 41, none, .un .not (.t 40)⟩]) (.cond (.t 41) (.seq (.reg [⟨some 42, none, .mov (.t 8)⟩, ⟨some 6, none, .mov (.t 42)⟩, ⟨some 7, none, .mov (.c (.pv (.bool false)))⟩]) (.ret)) (.skip))) (.reg [⟨some 43, none, .mov (.t 8)⟩, ⟨some 44, none, .mov (.t 10)⟩, ⟨some 45, none, .bin .add (.t 43) (.t 44)⟩, ⟨some 8, none, .mov (.t 45)⟩])))) (.reg [⟨some 24, none, .mov (.t 9)⟩, ⟨some 25, none, .bin .add (.t 24) (.c (.pv (.int .i64 1)))⟩, ⟨some 9, none, .mov (.t 25)⟩])))))) (.seq (.reg [⟨some 46, none, .mov (.t 8)⟩, ⟨some 6, none, .mov (.t 46)⟩, ⟨some 7, none, .mov (.c (.pv (.bool true)))⟩]) (.ret)))))
theorem k_retargetref02_count : FnOk Tryd.prog 51 47 c_retargetref02_count [.tmp 6, .tmp 7] := .mk' (fn := Tryd.f51) rfl rfl (by kernel_rfl) rfl (by kernel_rfl) (by kernel_rfl)
/- "retarget/retargetref02.long" -/
def c_retargetref02_long : C :=
.seq (.reg [⟨some 1, none, .box 6 (.t 0)⟩, ⟨some 2, none, .mov (.c (.pv (.bool false)))⟩]) (.seq (.seq (.reg [⟨some 3, none, .mov (.c (.pv (.int .i64 0)))⟩]) (.blk 0 (.loop ⟨[1, 3], [0], 1⟩ (.seq (.seq (.reg [⟨some 4, none, .mov (.t 3)⟩, ⟨some 5, none, .fad 5 (.t 1)⟩, ⟨some 6, none, .load none (.t 5)⟩, ⟨some 7, none, .len (.t 6)⟩, ⟨some 8, none, .bin .lss (.t 4) (.t 7)⟩]) (.cond (.t 8) (.skip) (.ext 0))) (.seq (.blk 1 (.seq (.reg [⟨some 11, none, .fad 5 (.t 1)⟩, ⟨some 12, none, .load none (.t 11)⟩, ⟨some 13, none, .mov (.t 3)⟩, ⟨some 14, none, .iad 6 (.t 12) (.t 13)⟩, ⟨some 15, none, .load (some 6) (.t 14)⟩, ⟨some 16, none, .callf 52 [(.t 15)]⟩]) (.cond (.t 16) (.seq (.reg [⟨some 2, none, .mov (.c (.pv (.bool true)))⟩]) (.ret)) (.skip)))) (.reg [⟨some 9, none, .mov (.t 3)⟩, ⟨some 10, none, .bin .add (.t 9) (.c (.pv (.int .i64 1)))⟩, ⟨some 3, none, .mov (.t 10)⟩])))))) (.seq (.reg [⟨some 17, none, .fad 3 (.t 1)⟩, ⟨some 18, none, .load none (.t 17)⟩, ⟨some 19, none, .lens (.t 18)⟩, ⟨some 20, none, .bin .gtr (.t 19) (.c (.pv (.int .i64 200)))⟩, ⟨some 2, none, .mov (.t 20)⟩]) (.ret)))
theorem k_retargetref02_long : FnOk Tryd.prog 52 21 c_retargetref02_long [.tmp 2] := .mk' (fn := Tryd.f52) rfl rfl (by kernel_rfl) rfl (by kernel_rfl) (by kernel_rfl)
/- "retarget/retargetref02.Size" -/
def c_retargetref02_Size : C :=
.seq (.reg [⟨some 1, none, .box 6 (.t 0)⟩, ⟨some 2, none, .mov (.c (.pv (.int .i64 0)))⟩]) (.seq (.reg [⟨some 3, none, .mov (.c (.pv (.int .i64 1)))⟩]) (.seq (.seq (.reg [⟨some 4, none, .mov (.c (.pv (.int .i64 0)))⟩]) (.blk 0 (.loop ⟨[1, 3, 4], [0], 1⟩ (.seq (.seq (.reg [⟨some 5, none, .mov (.t 4)⟩, ⟨some 6, none, .fad 5 (.t 1)⟩, ⟨some 7, none, .load none (.t 6)⟩, ⟨some 8, none, .len (.t 7)⟩, ⟨some 9, none, .bin .lss (.t 5) (.t 8)⟩]) (.cond (.t 9) (.skip) (.ext 0))) (.seq (.blk 1 (.reg [⟨some 12, none, .mov (.t 3)⟩, ⟨some 13, none, .fad 5 (.t 1)⟩, ⟨some 14, none, .load none (.t 13)⟩, ⟨some 15, none, .mov (.t 4)⟩, ⟨some 16, none, .iad 6 (.t 14) (.t 15)⟩, ⟨some 17, none, .load (some 6) (.t 16)⟩, ⟨some 18, none, .callf 53 [(.t 17)]⟩, ⟨some 19, none, .bin .add (.t 12) (.t 18)⟩, ⟨some 3, none, .mov (.t 19)⟩])) (.reg [⟨some 10, none, .mov (.t 4)⟩, ⟨some 11, none, .bin .add (.t 10) (.c (.pv (.int .i64 1)))⟩, ⟨some 4, none, .mov (.t 11)⟩])))))) (.seq (.reg [⟨some 20, none, .mov (.t 3)⟩, ⟨some 2, none, .mov (.t 20)⟩]) (.ret))))
theorem k_retargetref02_Size : FnOk Tryd.prog 53 21 c_retargetref02_Size [.tmp 2] := .mk' (fn := Tryd.f53) rfl rfl (by kernel_rfl) rfl (by kernel_rfl) (by kernel_rfl)
/- "retarget/term.Check" -/
def c_term_Check : C :=
.seq (.reg [⟨some 1, none, .box 6 (.t 0)⟩, ⟨some 2, none, .alloc [.pv (.int .i64 0)]⟩]) (.seq (.seq (.reg [⟨some 6, none, .load (some 6) (.t 1)⟩, ⟨some 7, none, .callf 101 [(.t 6)]⟩, ⟨some 8, none, .bin .gtr (.t 7) (.c (.pv (.int .i64 400)))⟩, ⟨some 9, none, .mov (.t 8)⟩, ⟨some 10, some (9, false), .load (some 6) (.t 1)⟩, ⟨some 11, some (9, false), .callf 102 [(.t 10)]⟩, ⟨some 12, some (9, false), .bin .gtr (.t 11) (.c (.pv (.int .i64 60)))⟩, ⟨some 13, none, .lor (.t 9) (.t 12)⟩]) (.cond (.t 13) (.seq (.reg [⟨none, none, .store 1 (.t 2) (.c (.pv (.int .i64 4)))⟩]) (.ret)) (.skip))) (.seq (.seq (.reg [⟨some 14, none, .load (some 6) (.t 1)⟩, ⟨some 15, none, .callf 103 [(.t 14)]⟩]) (.blk 0 (.rf ⟨[1, 2], [0, 1, 2], 3⟩ (.t 15) [16] (.reg [⟨some 3, none, .alloc [.pv (.int .u8 0), .pv (.int .i64 0), .pv (.int .u64 0), .pv (.str ⟨#[]⟩), .pv (.int .i64 0), .nilS 6]⟩, ⟨none, none, .store 6 (.t 3) (.t 16)⟩]) (.blk 1 (.seq (.reg [⟨some 17, none, .load (some 6) (.t 3)⟩, ⟨some 18, none, .callf 104 [(.t 17)]⟩, ⟨some 19, none, .un .not (.t 18)⟩]) (.cond (.t 19) (.seq (.reg [⟨none, none, .store 1 (.t 2) (.c (.pv (.int .i64 8)))⟩]) (.ret)) (.skip))))))) (.seq (.seq (.reg [⟨some 21, none, .load (some 6) (.t 1)⟩, ⟨some 22, none, .callf 105 [(.t 21)]⟩, ⟨some 20, none, .mov (.t 22)⟩, ⟨some 23, none, .ext (.t 20) 0⟩, ⟨some 24, none, .ext (.t 20) 1⟩, ⟨some 4, none, .mov (.t 23)⟩, ⟨some 5, none, .mov (.t 24)⟩]) (.seq (.reg [⟨some 25, none, .mov (.t 5)⟩, ⟨some 26, none, .un .not (.t 25)⟩]) (.cond (.t 26) (.seq (.reg [⟨none, none, .store 1 (.t 2) (.c (.pv (.int .i64 14)))⟩]) (.ret)) (.skip)))) (.seq (.reg [⟨none, none, .store 1 (.t 2) (.c (.pv (.int .i64 0)))⟩]) (.ret)))))
theorem k_term_Check : FnOk Tryd.prog 93 27 c_term_Check [.cell 2 none] := .mk' (fn := Tryd.f93) rfl rfl (by kernel_rfl) rfl (by kernel_rfl) (by kernel_rfl)
/- "retarget/term.Size" -/
def c_term_Size : C :=
.seq (.reg [⟨some 1, none, .box 6 (.t 0)⟩, ⟨some 2, none, .mov (.c (.pv (.int .i64 0)))⟩]) (.seq (.reg [⟨some 3, none, .alloc [.pv (.int .i64 0)]⟩, ⟨none, none, .store 1 (.t 3) (.c (.pv (.int .i64 0)))⟩]) (.seq (.seq (.reg [⟨some 4, none, .load (some 6) (.t 1)⟩, ⟨some 5, none, .callf 103 [(.t 4)]⟩]) (.blk 0 (.rf ⟨[2, 3], [0, 1, 2], 3⟩ (.t 5) [6] (.skip) (.blk 1 (.reg [⟨some 7, none, .load none (.t 3)⟩, ⟨some 8, none, .bin .add (.t 7) (.c (.pv (.int .i64 1)))⟩, ⟨none, none, .store 1 (.t 3) (.t 8)⟩]))))) (.seq (.reg [⟨some 9, none, .load none (.t 3)⟩, ⟨some 2, none, .mov (.t 9)⟩]) (.ret))))
theorem k_term_Size : FnOk Tryd.prog 101 10 c_term_Size [.tmp 2] := .mk' (fn := Tryd.f101) rfl rfl (by kernel_rfl) rfl (by kernel_rfl) (by kernel_rfl)
/- "retarget/term.Depth" -/
def c_term_Depth : C :=
.seq (.reg [⟨some 1, none, .box 6 (.t 0)⟩, ⟨some 2, none, .mov (.c (.pv (.int .i64 0)))⟩]) (.seq (.reg [⟨some 3, none, .mov (.c (.pv (.int .i64 0)))⟩]) (.seq (.seq (.reg [⟨some 6, none, .fad 5 (.t 1)⟩, ⟨some 7, none, .load none (.t 6)⟩, ⟨some 8, none, .len (.t 7)⟩, ⟨some 9, none, .mov (.c (.pv (.int .i64 0)))⟩]) (.blk 0 (.loop ⟨[3, 7, 8, 9], [0], 1⟩ (.seq (.reg [⟨some 10, none, .bin .lss (.t 9) (.t 8)⟩]) (.seq (.cond (.t 10) (.skip) (.ext 0)) (.seq (.blk 1 (.seq (.reg [⟨some 11, none, .iad 6 (.t 7) (.t 9)⟩, ⟨some 12, none, .load (some 6) (.t 11)⟩, ⟨some 5, none, .alloc [.pv (.int .u8 0), .pv (.int .i64 0), .pv (.int .u64 0), .pv (.str ⟨#[]⟩), .pv (.int .i64 0), .nilS 6]⟩, ⟨none, none, .store 6 (.t 5) (.t 12)⟩]) (.reg [⟨some 13, none, .mov (.t 3)⟩, ⟨some 14, none, .load (some 6) (.t 5)⟩, ⟨some 15, none, .callf 102 [(.t 14)]⟩, ⟨some 16, none, .mx (.t 13) (.t 15)⟩, ⟨some 3, none, .mov (.t 16)⟩]))) (.reg [⟨some 17, none, .bin .add (.t 9) (.c (.pv (.int .i64 1)))⟩, ⟨some 9, none, .mov (.t 17)⟩]))))))) (.seq (.reg [⟨some 18, none, .mov (.t 3)⟩, ⟨some 19, none, .bin .add (.t 18) (.c (.pv (.int .i64 1)))⟩, ⟨some 2, none, .mov (.t 19)⟩]) (.ret))))
theorem k_term_Depth : FnOk Tryd.prog 102 20 c_term_Depth [.tmp 2] := .mk' (fn := Tryd.f102) rfl rfl (by kernel_rfl) rfl (by kernel_rfl) (by kernel_rfl)
/- "retarget/term.nodes" -/
def c_term_nodes : C :=
.seq (.reg [⟨some 1, none, .box 6 (.t 0)⟩, ⟨some 2, none, .mov (.c (.nilF))⟩]) (.seq (.reg [⟨some 3, none, .mkf (.func 108) [] [(.t 1)]⟩, ⟨some 2, none, .mov (.t 3)⟩]) (.ret))
theorem k_term_nodes : FnOk Tryd.prog 103 4 c_term_nodes [.tmp 2] := .mk' (fn := Tryd.f103) rfl rfl (by kernel_rfl) rfl (by kernel_rfl) (by kernel_rfl)
/- "retarget/term.node" -/
def c_term_node : C :=
.seq (.reg [⟨some 1, none, .box 6 (.t 0)⟩, ⟨some 2, none, .mov (.c (.pv (.bool false)))⟩]) (.seq (.seq (.reg [⟨some 6, none, .fad 1 (.t 1)⟩, ⟨some 7, none, .load none (.t 6)⟩, ⟨some 8, none, .callf 110 [(.t 7)]⟩, ⟨some 9, none, .un .not (.t 8)⟩]) (.cond (.t 9) (.seq (.reg [⟨some 2, none, .mov (.c (.pv (.bool false)))⟩]) (.ret)) (.skip))) (.seq (.reg [⟨some 11, none, .fad 0 (.t 1)⟩, ⟨some 12, none, .load none (.t 11)⟩, ⟨some 13, none, .callf 111 [(.t 12)]⟩, ⟨some 10, none, .mov (.t 13)⟩, ⟨some 14, none, .ext (.t 10) 0⟩, ⟨some 15, none, .ext (.t 10) 1⟩, ⟨some 3, none, .alloc [.pv (.str ⟨#[]⟩), .pv (.int .i64 0), .pv (.int .i64 0)]⟩, ⟨none, none, .store 3 (.t 3) (.t 14)⟩, ⟨some 4, none, .mov (.t 15)⟩]) (.seq (.seq (.reg [⟨some 16, none, .mov (.t 4)⟩, ⟨some 17, none, .un .not (.t 16)⟩]) (.cond (.t 17) (.seq (.reg [⟨some 18, none, .fad 5 (.t 1)⟩, ⟨some 19, none, .load none (.t 18)⟩, ⟨some 20, none, .len (.t 19)⟩, ⟨some 21, none, .bin .eql (.t 20) (.c (.pv (.int .i64 0)))⟩, ⟨some 22, none, .mov (.t 21)⟩, ⟨some 23, some (22, true), .fad 4 (.t 1)⟩, ⟨some 24, some (22, true), .load none (.t 23)⟩, ⟨some 25, some (22, true), .bin .eql (.t 24) (.c (.pv (.int .i64 0)))⟩, ⟨some 26, none, .land (.t 22) (.t 25)⟩, ⟨some 5, none, .mov (.t 26)⟩]) (.seq (.reg [⟨some 27, none, .mov (.t 5)⟩, ⟨some 28, none, .mov (.t 27)⟩, ⟨some 29, some (28, true), .fad 0 (.t 1)⟩, ⟨some 30, some (28, true), .load none (.t 29)⟩, ⟨some 31, some (28, true), .bin .eql (.t 30) (.c (.pv (.int .u8 1)))⟩, ⟨some 32, some (28, true), .mov (.t 31)⟩, ⟨some 33, some (32, true), .fad 3 (.t 1)⟩, ⟨some 34, some (32, true), .load none (.t 33)⟩, ⟨some 35, some (32, true), .bin .eql (.t 34) (.c (.pv (.str ⟨#[]⟩)))⟩, ⟨some 36, some (28, true), .land (.t 32) (.t 35)⟩, ⟨some 37, some (28, true), .mov (.t 36)⟩, ⟨some 38, some (37, true), .fad 1 (.t 1)⟩, ⟨some 39, some (37, true), .load none (.t 38)⟩, ⟨some 40, some (37, true), .fad 2 (.t 1)⟩, ⟨some 41, some (37, true), .load none (.t 40)⟩, ⟨some 42, some (37, true), .callf 112 [(.t 39), (.t 41)]⟩, ⟨some 43, some (28, true), .land (.t 37) (.t 42)⟩, ⟨some 44, some (28, true), .mov (.t 43)⟩, ⟨some 45, some (44, false), .fad 0 (.t 1)⟩, ⟨some 46, some (44, false), .load none (.t 45)⟩, ⟨some 47, some (44, false), .bin .eql (.t 46) (.c (.pv (.int .u8 2)))⟩, ⟨some 48, some (44, false), .mov (.t 47)⟩, ⟨some 49, some (48, true), .fad 2 (.t 1)⟩, ⟨some 50, some (48, true), .load none (.t 49)⟩, ⟨some 51, some (48, true), .bin .eql (.t 50) (.c (.pv (.int .u64 0)))⟩, ⟨some 52, some (44, false), .land (.t 48) (.t 51)⟩, ⟨some 53, some (44, false), .mov (.t 52)⟩, ⟨some 54, some (53, true), .fad 3 (.t 1)⟩, ⟨some 55, some (53, true), .load none (.t 54)⟩, ⟨some 56, some (53, true), .callf 113 [(.t 55)]⟩, ⟨some 57, some (44, false), .land (.t 53) (.t 56)⟩, ⟨some 58, some (28, true), .lor (.t 44) (.t 57)⟩, ⟨some 59, none, .land (.t 28) (.t 58)⟩, ⟨some 2, none, .mov (.t 59)⟩]) (.ret))) (.skip))) (.seq (.reg [⟨some 60, none, .fad 2 (.t 1)⟩, ⟨some 61, none, .load none (.t 60)⟩, ⟨some 62, none, .bin .eql (.t 61) (.c (.pv (.int .u64 0)))⟩, ⟨some 63, none, .mov (.t 62)⟩, ⟨some 64, some (63, true), .fad 3 (.t 1)⟩, ⟨some 65, some (63, true), .load none (.t 64)⟩, ⟨some 66, some (63, true), .bin .eql (.t 65) (.c (.pv (.str ⟨#[]⟩)))⟩, ⟨some 67, none, .land (.t 63) (.t 66)⟩, ⟨some 68, none, .mov (.t 67)⟩, ⟨some 69, some (68, true), .fad 4 (.t 1)⟩, ⟨some 70, some (68, true), .load none (.t 69)⟩, ⟨some 71, some (68, true), .bin .eql (.t 70) (.c (.pv (.int .i64 0)))⟩, ⟨some 72, some (68, true), .mov (.t 71)⟩, ⟨some 73, some (72, false), .fad 2 (.t 3)⟩, ⟨some 74, some (72, false), .load none (.t 73)⟩, ⟨some 75, some (72, false), .bin .eql (.t 74) (.c (.pv (.int .i64 5)))⟩, ⟨some 76, some (68, true), .lor (.t 72) (.t 75)⟩, ⟨some 77, none, .land (.t 68) (.t 76)⟩, ⟨some 78, none, .mov (.t 77)⟩, ⟨some 79, some (78, true), .fad 5 (.t 1)⟩, ⟨some 80, some (78, true), .load none (.t 79)⟩, ⟨some 81, some (78, true), .len (.t 80)⟩, ⟨some 82, some (78, true), .fad 1 (.t 3)⟩, ⟨some 83, some (78, true), .load none (.t 82)⟩, ⟨some 84, some (78, true), .bin .eql (.t 81) (.t 83)⟩, ⟨some 85, none, .land (.t 78) (.t 84)⟩, ⟨some 86, none, .mov (.t 85)⟩, ⟨some 87, some (86, true), .load (some 6) (.t 1)⟩, ⟨some 88, some (86, true), .fad 2 (.t 3)⟩, ⟨some 89, some (86, true), .load none (.t 88)⟩, ⟨some 90, some (86, true), .callf 114 [(.t 87), (.t 89)]⟩, ⟨some 91, none, .land (.t 86) (.t 90)⟩, ⟨some 2, none, .mov (.t 91)⟩]) (.ret)))))
theorem k_term_node : FnOk Tryd.prog 104 92 c_term_node [.tmp 2] := .mk' (fn := Tryd.f104) rfl rfl (by kernel_rfl) rfl (by kernel_rfl) (by kernel_rfl)
/- "retarget/term.variables" -/
def c_term_variables : C :=
.seq (.reg [⟨some 1, none, .box 6 (.t 0)⟩, ⟨some 2, none, .alloc [.nilM]⟩, ⟨some 3, none, .alloc [.pv (.bool false)]⟩]) (.seq (.reg [⟨some 8, none, .mkm⟩, ⟨some 4, none, .alloc [.nilM]⟩, ⟨none, none, .store 1 (.t 4) (.t 8)⟩]) (.seq (.seq (.reg [⟨some 9, none, .load (some 6) (.t 1)⟩, ⟨some 10, none, .callf 103 [(.t 9)]⟩]) (.blk 0 (.rf ⟨[2, 3, 4], [0, 1, 2, 3, 4, 5], 6⟩ (.t 10) [11] (.reg [⟨some 5, none, .alloc [.pv (.int .u8 0), .pv (.int .i64 0), .pv (.int .u64 0), .pv (.str ⟨#[]⟩), .pv (.int .i64 0), .nilS 6]⟩, ⟨none, none, .store 6 (.t 5) (.t 11)⟩]) (.blk 1 (.seq (.seq (.reg [⟨some 12, none, .fad 0 (.t 5)⟩, ⟨some 13, none, .load none (.t 12)⟩, ⟨some 14, none, .bin .neq (.t 13) (.c (.pv (.int .u8 2)))⟩]) (.cond (.t 14) (.ext 1) (.skip))) (.seq (.seq (.reg [⟨some 16, none, .load none (.t 4)⟩, ⟨some 17, none, .fad 3 (.t 5)⟩, ⟨some 18, none, .load none (.t 17)⟩, ⟨some 19, none, .look 2 (.pv (.int .i64 0)) (.t 16) (.t 18) true⟩, ⟨some 15, none, .mov (.t 19)⟩, ⟨some 20, none, .ext (.t 15) 0⟩, ⟨some 21, none, .ext (.t 15) 1⟩, ⟨some 6, none, .mov (.t 20)⟩, ⟨some 7, none, .mov (.t 21)⟩]) (.seq (.reg [⟨some 22, none, .mov (.t 7)⟩, ⟨some 23, none, .mov (.t 22)⟩, ⟨some 24, some (23, true), .mov (.t 6)⟩, ⟨some 25, some (23, true), .fad 1 (.t 5)⟩, ⟨some 26, some (23, true), .load none (.t 25)⟩, ⟨some 27, some (23, true), .bin .neq (.t 24) (.t 26)⟩, ⟨some 28, none, .land (.t 23) (.t 27)⟩]) (.cond (.t 28) (.seq (.reg [⟨none, none, .store 1 (.t 2) (.c (.nilM))⟩, ⟨none, none, .store 1 (.t 3) (.c (.pv (.bool false)))⟩]) (.ret)) (.skip)))) (.reg [⟨some 29, none, .load none (.t 4)⟩, ⟨some 30, none, .fad 3 (.t 5)⟩, ⟨some 31, none, .load none (.t 30)⟩, ⟨some 32, none, .fad 1 (.t 5)⟩, ⟨some 33, none, .load none (.t 32)⟩, ⟨none, none, .mup 2 (.t 29) (.t 31) (.t 33)⟩]))))))) (.seq (.reg [⟨some 34, none, .load none (.t 4)⟩, ⟨none, none, .store 1 (.t 2) (.t 34)⟩, ⟨none, none, .store 1 (.t 3) (.c (.pv (.bool true)))⟩]) (.ret))))
theorem k_term_variables : FnOk Tryd.prog 105 35 c_term_variables [.cell 2 none, .cell 3 none] := .mk' (fn := Tryd.f105) rfl rfl (by kernel_rfl) rfl (by kernel_rfl) (by kernel_rfl)
/- "retarget/retargetref02.Check" -/
def c_retargetref02_Check : C :=
.seq (.reg [⟨some 1, none, .box 6 (.t 0)⟩, ⟨some 2, none, .mov (.c (.pv (.int .i64 0)))⟩]) (.seq (.seq (.reg [⟨some 6, none, .load (some 6) (.t 1)⟩, ⟨some 7, none, .callf 53 [(.t 6)]⟩, ⟨some 8, none, .bin .gtr (.t 7) (.c (.pv (.int .i64 400)))⟩, ⟨some 9, none, .mov (.t 8)⟩, ⟨some 10, some (9, false), .load (some 6) (.t 1)⟩, ⟨some 11, some (9, false), .callf 115 [(.t 10)]⟩, ⟨some 12, some (9, false), .bin .gtr (.t 11) (.c (.pv (.int .i64 60)))⟩, ⟨some 13, none, .lor (.t 9) (.t 12)⟩]) (.cond (.t 13) (.seq (.reg [⟨some 2, none, .mov (.c (.pv (.int .i64 4)))⟩]) (.ret)) (.skip))) (.seq (.seq (.reg [⟨some 14, none, .load (some 6) (.t 1)⟩, ⟨some 15, none, .callf 116 [(.t 14)]⟩, ⟨some 16, none, .un .not (.t 15)⟩]) (.cond (.t 16) (.seq (.reg [⟨some 2, none, .mov (.c (.pv (.int .i64 8)))⟩]) (.ret)) (.skip))) (.seq (.reg [⟨some 17, none, .load (some 6) (.t 1)⟩, ⟨some 18, none, .callf 117 [(.t 17)]⟩, ⟨some 3, none, .mov (.t 18)⟩]) (.seq (.seq (.reg [⟨some 4, none, .mov (.c (.pv (.int .i64 0)))⟩]) (.blk 0 (.loop ⟨[3, 4], [0], 1⟩ (.seq (.seq (.reg [⟨some 19, none, .mov (.t 4)⟩, ⟨some 20, none, .mov (.t 3)⟩, ⟨some 21, none, .len (.t 20)⟩, ⟨some 22, none, .bin .lss (.t 19) (.t 21)⟩]) (.cond (.t 22) (.skip) (.ext 0))) (.seq (.blk 1 (.seq (.reg [⟨some 5, none, .mov (.c (.pv (.int .i64 0)))⟩]) (.blk 2 (.loop ⟨[3, 4, 5], [0], 1⟩ (.seq (.seq (.reg [⟨some 25, none, .mov (.t 5)⟩, ⟨some 26, none, .mov (.t 4)⟩, ⟨some 27, none, .bin .lss (.t 25) (.t 26)⟩]) (.cond (.t 27) (.skip) (.ext 2))) (.seq (.blk 3 (.seq (.dreg [⟨some 30, none, .mov (.t 3)⟩, ⟨some 31, none, .mov (.t 5)⟩, ⟨some 32, none, .iad 3 (.t 30) (.t 31)⟩, ⟨some 33, none, .fad 0 (.t 32)⟩, ⟨some 34, none, .load none (.t 33)⟩, ⟨some 35, none, .mov (.t 3)⟩, ⟨some 36, none, .mov (.t 4)⟩, ⟨some 37, none, .iad 3 (.t 35) (.t 36)⟩, ⟨some 38, none, .fad 0 (.t 37)⟩, ⟨some 39, none, .load none (.t 38)⟩, ⟨some 40, none, .bin .eql (.t 34) (.t 39)⟩, ⟨some 41, none, .mov (.t 40)⟩, ⟨some 42, some (41, true), .mov (.t 3)⟩, ⟨some 43, some (41, true), .mov (.t 5)⟩, ⟨some 44, some (41, true), .iad 3 (.t 42) (.t 43)⟩, ⟨some 45, some (41, true), .fad 1 (.t 44)⟩, ⟨some 46, some (41, true), .load none (.t 45)⟩, ⟨some 47, some (41, true), .mov (.t 3)⟩, ⟨some 48, some (41, true), .mov (.t 4)⟩, ⟨some 49, some (41, true), .iad 3 (.t 47) (.t 48)⟩, ⟨some 50, some (41, true), .fad 1 (.t 49)⟩, ⟨some 51, some (41, true), .load none (.t 50)⟩, ⟨some 52, some (41, true), .bin .neq (.t 46) (.t 51)⟩, ⟨some 53, none, .land (.t 41) (.t 52)⟩] [[], [], [0, 1], [0, 1, 2], [0, 1, 2, 3], [], [], [5, 6], [5, 6, 7], [5, 6, 7, 8], [0, 1, 2, 3, 4, 5, 6, 7, 8, 9], [0, 1, 2, 3, 4, 5, 6, 7, 8, 9, 10], [0, 1, 2, 3, 4, 5, 6, 7, 8, 9, 10, 11], [0, 1, 2, 3, 4, 5, 6, 7, 8, 9, 10, 11], [0, 1, 2, 3, 4, 5, 6, 7, 8, 9, 10, 11, 12, 13], [0, 1, 2, 3, 4, 5, 6, 7, 8, 9, 10, 11, 12, 13, 14], [0, 1, 2, 3, 4, 5, 6, 7, 8, 9, 10, 11, 12, 13, 14, 15], [0, 1, 2, 3, 4, 5, 6, 7, 8, 9, 10, 11], [0, 1, 2, 3, 4, 5, 6, 7, 8, 9, 10, 11], [0, 1, 2, 3, 4, 5, 6, 7, 8, 9, 10, 11, 17, 18], [0, 1, 2, 3, 4, 5, 6, 7, 8, 9, 10, 11, 17, 18, 19], [0, 1, 2, 3, 4, 5, 6, 7, 8, 9, 10, 11, 17, 18, 19, 20], [0, 1, 2, 3, 4, 5, 6, 7, 8, 9, 10, 11, 12, 13, 14, 15, 16, 17, 18, 19, 20, 21], [0, 1, 2, 3, 4, 5, 6, 7, 8, 9, 10, 11, 12, 13, 14, 15, 16, 17, 18, 19, 20, 21, 22]]) (.cond (.t 53) (.seq (.reg [⟨some 2, none, .mov (.c (.pv (.int .i64 14)))⟩]) (.ret)) (.skip)))) (.reg [⟨some 28, none, .mov (.t 5)⟩, ⟨some 29, none, .bin .add (.t 28) (.c (.pv (.int .i64 1)))⟩, ⟨some 5, none, .mov (.t 29)⟩]))))))) (.reg [⟨some 23, none, .mov (.t 4)⟩, ⟨some 24, none, .bin .add (.t 23) (.c (.pv (.int .i64 1)))⟩, ⟨some 4, none, .mov (.t 24)⟩])))))) (.seq (.reg [⟨some 2, none, .mov (.c (.pv (.int .i64 0)))⟩]) (.ret))))))
theorem k_retargetref02_Check : FnOk Tryd.prog 106 54 c_retargetref02_Check [.tmp 2] := .mk' (fn := Tryd.f106) rfl rfl (by kernel_rfl) rfl (by kernel_rfl) (by kernel_rfl)
/- "retarget/term.nodes$1" -/
def c_term_nodes_1 : C :=
.reg [⟨some 3, none, .load (some 6) (.t 1)⟩, ⟨some 4, none, .mov (.t 0)⟩, ⟨some 5, none, .callf 109 [(.t 3), (.t 4)]⟩]
theorem k_term_nodes_1 : FnOk Tryd.prog 108 6 c_term_nodes_1 [] := .mk' (fn := Tryd.f108) rfl rfl (by kernel_rfl) rfl (by kernel_rfl) (by kernel_rfl)
/- "retarget/term.visit" -/
def c_term_visit : C :=
.seq (.reg [⟨some 2, none, .box 6 (.t 0)⟩, ⟨some 4, none, .mov (.c (.pv (.bool false)))⟩]) (.seq (.seq (.reg [⟨some 7, none, .mov (.t 1)⟩, ⟨some 8, none, .load (some 6) (.t 2)⟩, ⟨some 9, none, .callv (.t 7) [(.t 8)]⟩, ⟨some 10, none, .un .not (.t 9)⟩]) (.cond (.t 10) (.seq (.reg [⟨some 4, none, .mov (.c (.pv (.bool false)))⟩]) (.ret)) (.skip))) (.seq (.seq (.reg [⟨some 11, none, .fad 5 (.t 2)⟩, ⟨some 12, none, .load none (.t 11)⟩, ⟨some 13, none, .len (.t 12)⟩, ⟨some 14, none, .mov (.c (.pv (.int .i64 0)))⟩]) (.blk 0 (.loop ⟨[1, 12, 13, 14], [0, 1, 2, 3, 4], 5⟩ (.seq (.reg [⟨some 15, none, .bin .lss (.t 14) (.t 13)⟩]) (.seq (.cond (.t 15) (.skip) (.ext 0)) (.seq (.blk 1 (.seq (.reg [⟨some 16, none, .iad 6 (.t 12) (.t 14)⟩, ⟨some 17, none, .load (some 6) (.t 16)⟩, ⟨some 6, none, .alloc [.pv (.int .u8 0), .pv (.int .i64 0), .pv (.int .u64 0), .pv (.str ⟨#[]⟩), .pv (.int .i64 0), .nilS 6]⟩, ⟨none, none, .store 6 (.t 6) (.t 17)⟩]) (.seq (.reg [⟨some 18, none, .load (some 6) (.t 6)⟩, ⟨some 19, none, .mov (.t 1)⟩, ⟨some 20, none, .callf 109 [(.t 18), (.t 19)]⟩, ⟨some 21, none, .un .not (.t 20)⟩]) (.cond (.t 21) (.seq (.reg [⟨some 4, none, .mov (.c (.pv (.bool false)))⟩]) (.ret)) (.skip))))) (.reg [⟨some 22, none, .bin .add (.t 14) (.c (.pv (.int .i64 1)))⟩, ⟨some 14, none, .mov (.t 22)⟩]))))))) (.seq (.reg [⟨some 4, none, .mov (.c (.pv (.bool true)))⟩]) (.ret))))
theorem k_term_visit : FnOk Tryd.prog 109 23 c_term_visit [.tmp 4] := .mk' (fn := Tryd.f109) rfl rfl (by kernel_rfl) rfl (by kernel_rfl) (by kernel_rfl)
/- "retarget/term.visit" -/
def c_term_visit_B : C :=
.seq (.reg [⟨some 2, none, .box 6 (.t 0)⟩, ⟨some 4, none, .mov (.c (.pv (.bool false)))⟩]) (.seq (.seq (.reg [⟨some 7, none, .mov (.t 1)⟩, ⟨some 8, none, .load (some 6) (.t 2)⟩, ⟨some 9, none, .callv (.t 7) [(.t 8)]⟩, ⟨some 10, none, .un .not (.t 9)⟩]) (.cond (.t 10) (.seq (.reg [⟨some 4, none, .mov (.c (.pv (.bool false)))⟩]) (.ret)) (.skip))) (.seq (.seq (.reg [⟨some 11, none, .fad 5 (.t 2)⟩, ⟨some 12, none, .load none (.t 11)⟩, ⟨some 13, none, .len (.t 12)⟩, ⟨some 14, none, .mov (.c (.pv (.int .i64 0)))⟩]) (.blk 0 (.loop ⟨[1, 12, 13, 14], [0, 1, 2, 3, 4, 5, 6, 7], 8⟩ (.seq (.reg [⟨some 15, none, .bin .lss (.t 14) (.t 13)⟩]) (.seq (.cond (.t 15) (.skip) (.ext 0)) (.seq (.blk 1 (.seq (.reg [⟨some 16, none, .iad 6 (.t 12) (.t 14)⟩, ⟨some 17, none, .load (some 6) (.t 16)⟩, ⟨some 6, none, .alloc [.pv (.int .u8 0), .pv (.int .i64 0), .pv (.int .u64 0), .pv (.str ⟨#[]⟩), .pv (.int .i64 0), .nilS 6]⟩, ⟨none, none, .store 6 (.t 6) (.t 17)⟩]) (.seq (.reg [⟨some 18, none, .load (some 6) (.t 6)⟩, ⟨some 19, none, .mov (.t 1)⟩, ⟨some 20, none, .callf 109 [(.t 18), (.t 19)]⟩, ⟨some 21, none, .un .not (.t 20)⟩]) (.cond (.t 21) (.seq (.reg [⟨some 4, none, .mov (.c (.pv (.bool false)))⟩]) (.ret)) (.skip))))) (.reg [⟨some 22, none, .bin .add (.t 14) (.c (.pv (.int .i64 1)))⟩, ⟨some 14, none, .mov (.t 22)⟩]))))))) (.seq (.reg [⟨some 4, none, .mov (.c (.pv (.bool true)))⟩]) (.ret))))
theorem k_term_visit_B : FnOk Tryd.prog 109 23 c_term_visit_B [.tmp 4] := .mk' (fn := Tryd.f109) rfl rfl (by kernel_rfl) rfl (by kernel_rfl) (by kernel_rfl)
/- "retarget/term.wide" -/
def c_term_wide : C :=
.seq (.reg [⟨some 2, none, .mov (.c (.pv (.bool false)))⟩]) (.seq (.reg [⟨some 3, none, .mov (.t 0)⟩, ⟨some 4, none, .bin .geq (.t 3) (.c (.pv (.int .i64 1)))⟩, ⟨some 5, none, .mov (.t 4)⟩, ⟨some 6, some (5, true), .mov (.t 0)⟩, ⟨some 7, some (5, true), .bin .leq (.t 6) (.c (.pv (.int .i64 64)))⟩, ⟨some 8, none, .land (.t 5) (.t 7)⟩, ⟨some 2, none, .mov (.t 8)⟩]) (.ret))
theorem k_term_wide : FnOk Tryd.prog 110 9 c_term_wide [.tmp 2] := .mk' (fn := Tryd.f110) rfl rfl (by kernel_rfl) rfl (by kernel_rfl) (by kernel_rfl)
/- "retarget/term.shaped" -/
def c_term_shaped : C :=
.seq (.reg [⟨some 2, none, .alloc [.pv (.str ⟨#[]⟩), .pv (.int .i64 0), .pv (.int .i64 0)]⟩, ⟨some 3, none, .mov (.c (.pv (.bool false)))⟩]) (.seq (.seq (.reg [⟨some 4, none, .mov (.t 0)⟩, ⟨some 5, none, .bin .gtr (.t 4) (.c (.pv (.int .u8 24)))⟩]) (.cond (.t 5) (.seq (.reg [⟨some 6, none, .build [.pv (.str ⟨#[]⟩), .pv (.int .i64 0), .pv (.int .i64 0)] []⟩, ⟨none, none, .store 3 (.t 2) (.t 6)⟩, ⟨some 3, none, .mov (.c (.pv (.bool false)))⟩]) (.ret)) (.skip))) (.seq (.dreg [⟨some 7, none, .mov (.t 0)⟩, ⟨some 8, none, .iada 25 3 (.g 0) (.t 7)⟩, ⟨some 9, none, .load (some 3) (.t 8)⟩, ⟨some 10, none, .mov (.t 0)⟩, ⟨some 11, none, .iada 25 3 (.g 0) (.t 10)⟩, ⟨some 12, none, .fad 1 (.t 11)⟩, ⟨some 13, none, .load none (.t 12)⟩, ⟨some 14, none, .bin .gtr (.t 13) (.c (.pv (.int .i64 0)))⟩, ⟨none, none, .store 3 (.t 2) (.t 9)⟩, ⟨some 3, none, .mov (.t 14)⟩] [[], [0], [0, 1], [], [3], [3, 4], [3, 4, 5], [3, 4, 5, 6], [0, 1, 2], [0, 1, 2, 3, 4, 5, 6, 7, 8]]) (.ret)))
theorem k_term_shaped : FnOk Tryd.prog 111 15 c_term_shaped [.cell 2 (some 3), .tmp 3] := .mk' (fn := Tryd.f111) rfl rfl (by kernel_rfl) rfl (by kernel_rfl) (by kernel_rfl)
/- "retarget/term.variable" -/
def c_term_variable : C :=
.seq (.reg [⟨some 2, none, .mov (.c (.pv (.bool false)))⟩]) (.seq (.reg [⟨some 3, none, .mov (.t 0)⟩, ⟨some 4, none, .callf 119 [(.t 3), (.c (.pv (.str ⟨#[114, 46]⟩)))]⟩, ⟨some 5, none, .callf 35 [(.t 4)]⟩, ⟨some 2, none, .mov (.t 5)⟩]) (.ret))
theorem k_term_variable : FnOk Tryd.prog 113 6 c_term_variable [.tmp 2] := .mk' (fn := Tryd.f113) rfl rfl (by kernel_rfl) rfl (by kernel_rfl) (by kernel_rfl)
/- "retarget/term.widths" -/
def c_term_widths : C :=
.seq (.reg [⟨some 2, none, .box 6 (.t 0)⟩, ⟨some 4, none, .mov (.c (.pv (.bool false)))⟩]) (.seq (.reg [⟨some 7, none, .fad 1 (.t 2)⟩, ⟨some 8, none, .load none (.t 7)⟩, ⟨some 5, none, .alloc [.pv (.int .i64 0)]⟩, ⟨none, none, .store 1 (.t 5) (.t 8)⟩]) (.seq (.reg [⟨some 9, none, .fad 5 (.t 2)⟩, ⟨some 10, none, .load none (.t 9)⟩, ⟨some 11, none, .iad 6 (.t 10) (.c (.pv (.int .i64 0)))⟩, ⟨some 12, none, .fad 1 (.t 11)⟩, ⟨some 13, none, .load none (.t 12)⟩, ⟨some 6, none, .mov (.t 13)⟩]) (.seq (.seq (.reg [⟨some 14, none, .mov (.t 1)⟩]) (.blk 0 (.seq (.reg [⟨some 16, none, .bin .eql (.t 14) (.c (.pv (.int .i64 1)))⟩, ⟨some 15, none, .mov (.t 16)⟩]) (.cond (.t 15) (.seq (.reg [⟨some 17, none, .fad 5 (.t 2)⟩, ⟨some 18, none, .load none (.t 17)⟩, ⟨some 19, none, .mkf (.func 121) [] [(.t 5)]⟩, ⟨some 20, none, .callf 120 [(.t 18), (.t 19)]⟩, ⟨some 21, none, .un .not (.t 20)⟩, ⟨some 4, none, .mov (.t 21)⟩]) (.ret)) (.seq (.reg [⟨some 23, none, .bin .eql (.t 14) (.c (.pv (.int .i64 2)))⟩, ⟨some 22, none, .mov (.t 23)⟩]) (.cond (.t 22) (.seq (.reg [⟨some 24, none, .load none (.t 5)⟩, ⟨some 25, none, .bin .eql (.t 24) (.c (.pv (.int .i64 1)))⟩, ⟨some 26, none, .mov (.t 25)⟩, ⟨some 27, some (26, true), .fad 5 (.t 2)⟩, ⟨some 28, some (26, true), .load none (.t 27)⟩, ⟨some 29, some (26, true), .iad 6 (.t 28) (.c (.pv (.int .i64 1)))⟩, ⟨some 30, some (26, true), .fad 1 (.t 29)⟩, ⟨some 31, some (26, true), .load none (.t 30)⟩, ⟨some 32, some (26, true), .mov (.t 6)⟩, ⟨some 33, some (26, true), .bin .eql (.t 31) (.t 32)⟩, ⟨some 34, none, .land (.t 26) (.t 33)⟩, ⟨some 4, none, .mov (.t 34)⟩]) (.ret)) (.seq (.reg [⟨some 36, none, .bin .eql (.t 14) (.c (.pv (.int .i64 3)))⟩, ⟨some 35, none, .mov (.t 36)⟩]) (.cond (.t 35) (.seq (.dreg [⟨some 37, none, .mov (.t 6)⟩, ⟨some 38, none, .bin .eql (.t 37) (.c (.pv (.int .i64 1)))⟩, ⟨some 39, none, .mov (.t 38)⟩, ⟨some 40, some (39, true), .fad 5 (.t 2)⟩, ⟨some 41, some (39, true), .load none (.t 40)⟩, ⟨some 42, some (39, true), .iad 6 (.t 41) (.c (.pv (.int .i64 1)))⟩, ⟨some 43, some (39, true), .fad 1 (.t 42)⟩, ⟨some 44, some (39, true), .load none (.t 43)⟩, ⟨some 45, some (39, true), .load none (.t 5)⟩, ⟨some 46, some (39, true), .bin .eql (.t 44) (.t 45)⟩, ⟨some 47, none, .land (.t 39) (.t 46)⟩, ⟨some 48, none, .mov (.t 47)⟩, ⟨some 49, some (48, true), .fad 5 (.t 2)⟩, ⟨some 50, some (48, true), .load none (.t 49)⟩, ⟨some 51, some (48, true), .iad 6 (.t 50) (.c (.pv (.int .i64 2)))⟩, ⟨some 52, some (48, true), .fad 1 (.t 51)⟩, ⟨some 53, some (48, true), .load none (.t 52)⟩, ⟨some 54, some (48, true), .load none (.t 5)⟩, ⟨some 55, some (48, true), .bin .eql (.t 53) (.t 54)⟩, ⟨some 56, none, .land (.t 48) (.t 55)⟩, ⟨some 4, none, .mov (.t 56)⟩] [[], [0], [0, 1], [0, 1, 2], [0, 1, 2, 3], [0, 1, 2, 3, 4], [0, 1, 2, 3, 4, 5], [0, 1, 2, 3, 4, 5, 6], [0, 1, 2], [0, 1, 2, 3, 4, 5, 6, 7, 8], [0, 1, 2, 3, 4, 5, 6, 7, 8, 9], [0, 1, 2, 3, 4, 5, 6, 7, 8, 9, 10], [0, 1, 2, 3, 4, 5, 6, 7, 8, 9, 10, 11], [0, 1, 2, 3, 4, 5, 6, 7, 8, 9, 10, 11, 12], [0, 1, 2, 3, 4, 5, 6, 7, 8, 9, 10, 11, 12, 13], [0, 1, 2, 3, 4, 5, 6, 7, 8, 9, 10, 11, 12, 13, 14], [0, 1, 2, 3, 4, 5, 6, 7, 8, 9, 10, 11, 12, 13, 14, 15], [0, 1, 2, 3, 4, 5, 6, 7, 8, 9, 10, 11], [0, 1, 2, 3, 4, 5, 6, 7, 8, 9, 10, 11, 12, 13, 14, 15, 16, 17], [0, 1, 2, 3, 4, 5, 6, 7, 8, 9, 10, 11, 12, 13, 14, 15, 16, 17, 18], [0, 1, 2, 3, 4, 5, 6, 7, 8, 9, 10, 11, 12, 13, 14, 15, 16, 17, 18, 19]]) (.ret)) (.seq (.reg [⟨some 58, none, .bin .eql (.t 14) (.c (.pv (.int .i64 4)))⟩, ⟨some 57, none, .mov (.t 58)⟩]) (.cond (.t 57) (.seq (.dreg [⟨some 59, none, .mov (.t 6)⟩, ⟨some 60, none, .callf 110 [(.t 59)]⟩, ⟨some 61, none, .mov (.t 60)⟩, ⟨some 62, some (61, true), .fad 5 (.t 2)⟩, ⟨some 63, some (61, true), .load none (.t 62)⟩, ⟨some 64, some (61, true), .iad 6 (.t 63) (.c (.pv (.int .i64 1)))⟩, ⟨some 65, some (61, true), .fad 1 (.t 64)⟩, ⟨some 66, some (61, true), .load none (.t 65)⟩, ⟨some 67, some (61, true), .callf 110 [(.t 66)]⟩, ⟨some 68, none, .land (.t 61) (.t 67)⟩, ⟨some 69, none, .mov (.t 68)⟩, ⟨some 70, some (69, true), .mov (.t 6)⟩, ⟨some 71, some (69, true), .fad 5 (.t 2)⟩, ⟨some 72, some (69, true), .load none (.t 71)⟩, ⟨some 73, some (69, true), .iad 6 (.t 72) (.c (.pv (.int .i64 1)))⟩, ⟨some 74, some (69, true), .fad 1 (.t 73)⟩, ⟨some 75, some (69, true), .load none (.t 74)⟩, ⟨some 76, some (69, true), .bin .add (.t 70) (.t 75)⟩, ⟨some 77, some (69, true), .load none (.t 5)⟩, ⟨some 78, some (69, true), .bin .eql (.t 76) (.t 77)⟩, ⟨some 79, none, .land (.t 69) (.t 78)⟩, ⟨some 4, none, .mov (.t 79)⟩] [[], [0], [0, 1], [0, 1, 2], [0, 1, 2, 3], [0, 1, 2, 3, 4], [0, 1, 2, 3, 4, 5], [0, 1, 2, 3, 4, 5, 6], [0, 1, 2, 3, 4, 5, 6, 7], [0, 1, 2, 3, 4, 5, 6, 7, 8], [0, 1, 2, 3, 4, 5, 6, 7, 8, 9], [0, 1, 2, 3, 4, 5, 6, 7, 8, 9, 10], [0, 1, 2, 3, 4, 5, 6, 7, 8, 9, 10], [0, 1, 2, 3, 4, 5, 6, 7, 8, 9, 10, 12], [0, 1, 2, 3, 4, 5, 6, 7, 8, 9, 10, 12, 13], [0, 1, 2, 3, 4, 5, 6, 7, 8, 9, 10, 12, 13, 14], [0, 1, 2, 3, 4, 5, 6, 7, 8, 9, 10, 12, 13, 14, 15], [0, 1, 2, 3, 4, 5, 6, 7, 8, 9, 10, 11, 12, 13, 14, 15, 16], [0, 1, 2, 3, 4, 5, 6, 7, 8, 9, 10], [0, 1, 2, 3, 4, 5, 6, 7, 8, 9, 10, 11, 12, 13, 14, 15, 16, 17, 18], [0, 1, 2, 3, 4, 5, 6, 7, 8, 9, 10, 11, 12, 13, 14, 15, 16, 17, 18, 19], [0, 1, 2, 3, 4, 5, 6, 7, 8, 9, 10, 11, 12, 13, 14, 15, 16, 17, 18, 19, 20]]) (.ret)) (.seq (.reg [⟨some 81, none, .bin .eql (.t 14) (.c (.pv (.int .i64 5)))⟩, ⟨some 80, none, .mov (.t 81)⟩]) (.cond (.t 80) (.seq (.reg [⟨some 82, none, .fad 4 (.t 2)⟩, ⟨some 83, none, .load none (.t 82)⟩, ⟨some 84, none, .bin .geq (.t 83) (.c (.pv (.int .i64 0)))⟩, ⟨some 85, none, .mov (.t 84)⟩, ⟨some 86, some (85, true), .mov (.t 6)⟩, ⟨some 87, some (85, true), .callf 110 [(.t 86)]⟩, ⟨some 88, none, .land (.t 85) (.t 87)⟩, ⟨some 89, none, .mov (.t 88)⟩, ⟨some 90, some (89, true), .load none (.t 5)⟩, ⟨some 91, some (89, true), .mov (.t 6)⟩, ⟨some 92, some (89, true), .bin .leq (.t 90) (.t 91)⟩, ⟨some 93, none, .land (.t 89) (.t 92)⟩, ⟨some 94, none, .mov (.t 93)⟩, ⟨some 95, some (94, true), .fad 4 (.t 2)⟩, ⟨some 96, some (94, true), .load none (.t 95)⟩, ⟨some 97, some (94, true), .mov (.t 6)⟩, ⟨some 98, some (94, true), .load none (.t 5)⟩, ⟨some 99, some (94, true), .bin .sub (.t 97) (.t 98)⟩, ⟨some 100, some (94, true), .bin .leq (.t 96) (.t 99)⟩, ⟨some 101, none, .land (.t 94) (.t 100)⟩, ⟨some 4, none, .mov (.t 101)⟩]) (.ret)) (.seq (.reg [⟨some 103, none, .bin .eql (.t 14) (.c (.pv (.int .i64 6)))⟩, ⟨some 102, none, .mov (.t 103)⟩]) (.cond (.t 102) (.seq (.reg [⟨some 104, none, .mov (.t 6)⟩, ⟨some 105, none, .load none (.t 5)⟩, ⟨some 106, none, .bin .leq (.t 104) (.t 105)⟩, ⟨some 4, none, .mov (.t 106)⟩]) (.ret)) (.skip))))))))))))))) (.seq (.reg [⟨some 107, none, .load none (.t 5)⟩, ⟨some 108, none, .callf 122 [(.t 107)]⟩, ⟨some 4, none, .mov (.t 108)⟩]) (.ret)))))
theorem k_term_widths : FnOk Tryd.prog 114 109 c_term_widths [.tmp 4] := .mk' (fn := Tryd.f114) rfl rfl (by kernel_rfl) rfl (by kernel_rfl) (by kernel_rfl)
/- "retarget/retargetref02.Depth" -/
def c_retargetref02_Depth : C :=
.seq (.reg [⟨some 1, none, .box 6 (.t 0)⟩, ⟨some 2, none, .mov (.c (.pv (.int .i64 0)))⟩]) (.seq (.reg [⟨some 3, none, .mov (.c (.pv (.int .i64 0)))⟩]) (.seq (.seq (.reg [⟨some 4, none, .mov (.c (.pv (.int .i64 0)))⟩]) (.blk 0 (.loop ⟨[1, 3, 4], [0], 1⟩ (.seq (.seq (.reg [⟨some 5, none, .mov (.t 4)⟩, ⟨some 6, none, .fad 5 (.t 1)⟩, ⟨some 7, none, .load none (.t 6)⟩, ⟨some 8, none, .len (.t 7)⟩, ⟨some 9, none, .bin .lss (.t 5) (.t 8)⟩]) (.cond (.t 9) (.skip) (.ext 0))) (.seq (.blk 1 (.reg [⟨some 12, none, .mov (.t 3)⟩, ⟨some 13, none, .fad 5 (.t 1)⟩, ⟨some 14, none, .load none (.t 13)⟩, ⟨some 15, none, .mov (.t 4)⟩, ⟨some 16, none, .iad 6 (.t 14) (.t 15)⟩, ⟨some 17, none, .load (some 6) (.t 16)⟩, ⟨some 18, none, .callf 115 [(.t 17)]⟩, ⟨some 19, none, .mx (.t 12) (.t 18)⟩, ⟨some 3, none, .mov (.t 19)⟩])) (.reg [⟨some 10, none, .mov (.t 4)⟩, ⟨some 11, none, .bin .add (.t 10) (.c (.pv (.int .i64 1)))⟩, ⟨some 4, none, .mov (.t 11)⟩])))))) (.seq (.reg [⟨some 20, none, .mov (.t 3)⟩, ⟨some 21, none, .bin .add (.t 20) (.c (.pv (.int .i64 1)))⟩, ⟨some 2, none, .mov (.t 21)⟩]) (.ret))))
theorem k_retargetref02_Depth : FnOk Tryd.prog 115 22 c_retargetref02_Depth [.tmp 2] := .mk' (fn := Tryd.f115) rfl rfl (by kernel_rfl) rfl (by kernel_rfl) (by kernel_rfl)
/- "retarget/retargetref02.Formed" -/
def c_retargetref02_Formed : C :=
.seq (.reg [⟨some 1, none, .box 6 (.t 0)⟩, ⟨some 2, none, .mov (.c (.pv (.bool false)))⟩]) (.seq (.seq (.reg [⟨some 3, none, .mov (.c (.pv (.int .i64 0)))⟩]) (.blk 0 (.loop ⟨[1, 3], [0], 1⟩ (.seq (.seq (.reg [⟨some 7, none, .mov (.t 3)⟩, ⟨some 8, none, .fad 5 (.t 1)⟩, ⟨some 9, none, .load none (.t 8)⟩, ⟨some 10, none, .len (.t 9)⟩, ⟨some 11, none, .bin .lss (.t 7) (.t 10)⟩]) (.cond (.t 11) (.skip) (.ext 0))) (.seq (.blk 1 (.seq (.reg [⟨some 14, none, .fad 5 (.t 1)⟩, ⟨some 15, none, .load none (.t 14)⟩, ⟨some 16, none, .mov (.t 3)⟩, ⟨some 17, none, .iad 6 (.t 15) (.t 16)⟩, ⟨some 18, none, .load (some 6) (.t 17)⟩, ⟨some 19, none, .callf 116 [(.t 18)]⟩, ⟨some 20, none, .un .not (.t 19)⟩]) (.cond (.t 20) (.seq (.reg [⟨some 2, none, .mov (.c (.pv (.bool false)))⟩]) (.ret)) (.skip)))) (.reg [⟨some 12, none, .mov (.t 3)⟩, ⟨some 13, none, .bin .add (.t 12) (.c (.pv (.int .i64 1)))⟩, ⟨some 3, none, .mov (.t 13)⟩])))))) (.seq (.dreg [⟨some 21, none, .fad 1 (.t 1)⟩, ⟨some 22, none, .load none (.t 21)⟩, ⟨some 23, none, .fad 5 (.t 1)⟩, ⟨some 24, none, .load none (.t 23)⟩, ⟨some 25, none, .len (.t 24)⟩, ⟨some 4, none, .mov (.t 22)⟩, ⟨some 5, none, .mov (.t 25)⟩] [[], [0], [], [2], [2, 3], [0, 1], [0, 1, 2, 3, 4, 5]]) (.seq (.seq (.reg [⟨some 26, none, .mov (.t 4)⟩, ⟨some 27, none, .callf 123 [(.t 26)]⟩, ⟨some 28, none, .un .not (.t 27)⟩]) (.cond (.t 28) (.seq (.reg [⟨some 2, none, .mov (.c (.pv (.bool false)))⟩]) (.ret)) (.skip))) (.seq (.seq (.reg [⟨some 29, none, .fad 0 (.t 1)⟩, ⟨some 30, none, .load none (.t 29)⟩]) (.blk 2 (.seq (.reg [⟨some 32, none, .bin .eql (.t 30) (.c (.pv (.int .u8 1)))⟩, ⟨some 31, none, .mov (.t 32)⟩]) (.cond (.t 31) (.seq (.reg [⟨some 33, none, .mov (.t 5)⟩, ⟨some 34, none, .bin .eql (.t 33) (.c (.pv (.int .i64 0)))⟩, ⟨some 35, none, .mov (.t 34)⟩, ⟨some 36, some (35, true), .fad 3 (.t 1)⟩, ⟨some 37, some (35, true), .load none (.t 36)⟩, ⟨some 38, some (35, true), .bin .eql (.t 37) (.c (.pv (.str ⟨#[]⟩)))⟩, ⟨some 39, none, .land (.t 35) (.t 38)⟩, ⟨some 40, none, .mov (.t 39)⟩, ⟨some 41, some (40, true), .fad 4 (.t 1)⟩, ⟨some 42, some (40, true), .load none (.t 41)⟩, ⟨some 43, some (40, true), .bin .eql (.t 42) (.c (.pv (.int .i64 0)))⟩, ⟨some 44, none, .land (.t 40) (.t 43)⟩, ⟨some 45, none, .mov (.t 44)⟩, ⟨some 46, some (45, true), .mov (.t 4)⟩, ⟨some 47, some (45, true), .fad 2 (.t 1)⟩, ⟨some 48, some (45, true), .load none (.t 47)⟩, ⟨some 49, some (45, true), .callf 124 [(.t 46), (.t 48)]⟩, ⟨some 50, none, .land (.t 45) (.t 49)⟩, ⟨some 2, none, .mov (.t 50)⟩]) (.ret)) (.seq (.reg [⟨some 52, none, .bin .eql (.t 30) (.c (.pv (.int .u8 2)))⟩, ⟨some 51, none, .mov (.t 52)⟩]) (.cond (.t 51) (.seq (.reg [⟨some 53, none, .mov (.t 5)⟩, ⟨some 54, none, .bin .eql (.t 53) (.c (.pv (.int .i64 0)))⟩, ⟨some 55, none, .mov (.t 54)⟩, ⟨some 56, some (55, true), .fad 2 (.t 1)⟩, ⟨some 57, some (55, true), .load none (.t 56)⟩, ⟨some 58, some (55, true), .bin .eql (.t 57) (.c (.pv (.int .u64 0)))⟩, ⟨some 59, none, .land (.t 55) (.t 58)⟩, ⟨some 60, none, .mov (.t 59)⟩, ⟨some 61, some (60, true), .fad 4 (.t 1)⟩, ⟨some 62, some (60, true), .load none (.t 61)⟩, ⟨some 63, some (60, true), .bin .eql (.t 62) (.c (.pv (.int .i64 0)))⟩, ⟨some 64, none, .land (.t 60) (.t 63)⟩, ⟨some 65, none, .mov (.t 64)⟩, ⟨some 66, some (65, true), .fad 3 (.t 1)⟩, ⟨some 67, some (65, true), .load none (.t 66)⟩, ⟨some 68, some (65, true), .callf 125 [(.t 67)]⟩, ⟨some 69, none, .land (.t 65) (.t 68)⟩, ⟨some 2, none, .mov (.t 69)⟩]) (.ret)) (.skip))))))) (.seq (.seq (.reg [⟨some 70, none, .fad 0 (.t 1)⟩, ⟨some 71, none, .load none (.t 70)⟩, ⟨some 72, none, .bin .lss (.t 71) (.c (.pv (.int .u8 3)))⟩, ⟨some 73, none, .mov (.t 72)⟩, ⟨some 74, some (73, false), .fad 0 (.t 1)⟩, ⟨some 75, some (73, false), .load none (.t 74)⟩, ⟨some 76, some (73, false), .bin .gtr (.t 75) (.c (.pv (.int .u8 24)))⟩, ⟨some 77, none, .lor (.t 73) (.t 76)⟩, ⟨some 78, none, .mov (.t 77)⟩, ⟨some 79, some (78, false), .fad 2 (.t 1)⟩, ⟨some 80, some (78, false), .load none (.t 79)⟩, ⟨some 81, some (78, false), .bin .neq (.t 80) (.c (.pv (.int .u64 0)))⟩, ⟨some 82, none, .lor (.t 78) (.t 81)⟩, ⟨some 83, none, .mov (.t 82)⟩, ⟨some 84, some (83, false), .fad 3 (.t 1)⟩, ⟨some 85, some (83, false), .load none (.t 84)⟩, ⟨some 86, some (83, false), .bin .neq (.t 85) (.c (.pv (.str ⟨#[]⟩)))⟩, ⟨some 87, none, .lor (.t 83) (.t 86)⟩, ⟨some 88, none, .mov (.t 87)⟩, ⟨some 89, some (88, false), .fad 4 (.t 1)⟩, ⟨some 90, some (88, false), .load none (.t 89)⟩, ⟨some 91, some (88, false), .bin .neq (.t 90) (.c (.pv (.int .i64 0)))⟩, ⟨some 92, some (88, false), .mov (.t 91)⟩, ⟨some 93, some (92, true), .fad 0 (.t 1)⟩, ⟨some 94, some (92, true), .load none (.t 93)⟩, ⟨some 95, some (92, true), .bin .neq (.t 94) (.c (.pv (.int .u8 21)))⟩, ⟨some 96, some (88, false), .land (.t 92) (.t 95)⟩, ⟨some 97, none, .lor (.t 88) (.t 96)⟩, ⟨some 98, none, .mov (.t 97)⟩, ⟨some 99, some (98, false), .mov (.t 5)⟩, ⟨some 100, some (98, false), .bin .eql (.t 99) (.c (.pv (.int .i64 0)))⟩, ⟨some 101, none, .lor (.t 98) (.t 100)⟩]) (.cond (.t 101) (.seq (.reg [⟨some 2, none, .mov (.c (.pv (.bool false)))⟩]) (.ret)) (.skip))) (.seq (.reg [⟨some 102, none, .fad 5 (.t 1)⟩, ⟨some 103, none, .load none (.t 102)⟩, ⟨some 104, none, .iad 6 (.t 103) (.c (.pv (.int .i64 0)))⟩, ⟨some 105, none, .fad 1 (.t 104)⟩, ⟨some 106, none, .load none (.t 105)⟩, ⟨some 6, none, .mov (.t 106)⟩]) (.seq (.seq (.reg [⟨some 107, none, .fad 0 (.t 1)⟩, ⟨some 108, none, .load none (.t 107)⟩]) (.blk 3 (.seq (.seq (.reg [⟨some 110, none, .bin .eql (.t 108) (.c (.pv (.int .u8 3)))⟩, ⟨some 109, none, .mov (.t 110)⟩]) (.cond (.t 109) (.skip) (.reg [⟨some 111, none, .bin .eql (.t 108) (.c (.pv (.int .u8 4)))⟩, ⟨some 109, none, .mov (.t 111)⟩]))) (.cond (.t 109) (.seq (.reg [⟨some 112, none, .mov (.t 5)⟩, ⟨some 113, none, .bin .eql (.t 112) (.c (.pv (.int .i64 1)))⟩, ⟨some 114, none, .mov (.t 113)⟩, ⟨some 115, some (114, true), .mov (.t 6)⟩, ⟨some 116, some (114, true), .mov (.t 4)⟩, ⟨some 117, some (114, true), .bin .eql (.t 115) (.t 116)⟩, ⟨some 118, none, .land (.t 114) (.t 117)⟩, ⟨some 2, none, .mov (.t 118)⟩]) (.ret)) (.seq (.seq (.reg [⟨some 120, none, .bin .eql (.t 108) (.c (.pv (.int .u8 16)))⟩, ⟨some 119, none, .mov (.t 120)⟩]) (.cond (.t 119) (.skip) (.seq (.reg [⟨some 121, none, .bin .eql (.t 108) (.c (.pv (.int .u8 17)))⟩, ⟨some 119, none, .mov (.t 121)⟩]) (.cond (.t 119) (.skip) (.reg [⟨some 122, none, .bin .eql (.t 108) (.c (.pv (.int .u8 18)))⟩, ⟨some 119, none, .mov (.t 122)⟩]))))) (.cond (.t 119) (.seq (.reg [⟨some 123, none, .mov (.t 5)⟩, ⟨some 124, none, .bin .eql (.t 123) (.c (.pv (.int .i64 2)))⟩, ⟨some 125, none, .mov (.t 124)⟩, ⟨some 126, some (125, true), .mov (.t 4)⟩, ⟨some 127, some (125, true), .bin .eql (.t 126) (.c (.pv (.int .i64 1)))⟩, ⟨some 128, none, .land (.t 125) (.t 127)⟩, ⟨some 129, none, .mov (.t 128)⟩, ⟨some 130, some (129, true), .fad 5 (.t 1)⟩, ⟨some 131, some (129, true), .load none (.t 130)⟩, ⟨some 132, some (129, true), .iad 6 (.t 131) (.c (.pv (.int .i64 1)))⟩, ⟨some 133, some (129, true), .fad 1 (.t 132)⟩, ⟨some 134, some (129, true), .load none (.t 133)⟩, ⟨some 135, some (129, true), .mov (.t 6)⟩, ⟨some 136, some (129, true), .bin .eql (.t 134) (.t 135)⟩, ⟨some 137, none, .land (.t 129) (.t 136)⟩, ⟨some 2, none, .mov (.t 137)⟩]) (.ret)) (.seq (.reg [⟨some 139, none, .bin .eql (.t 108) (.c (.pv (.int .u8 19)))⟩, ⟨some 138, none, .mov (.t 139)⟩]) (.cond (.t 138) (.seq (.reg [⟨some 140, none, .mov (.t 5)⟩, ⟨some 141, none, .bin .eql (.t 140) (.c (.pv (.int .i64 3)))⟩, ⟨some 142, none, .mov (.t 141)⟩, ⟨some 143, some (142, true), .mov (.t 6)⟩, ⟨some 144, some (142, true), .bin .eql (.t 143) (.c (.pv (.int .i64 1)))⟩, ⟨some 145, none, .land (.t 142) (.t 144)⟩, ⟨some 146, none, .mov (.t 145)⟩, ⟨some 147, some (146, true), .fad 5 (.t 1)⟩, ⟨some 148, some (146, true), .load none (.t 147)⟩, ⟨some 149, some (146, true), .iad 6 (.t 148) (.c (.pv (.int .i64 1)))⟩, ⟨some 150, some (146, true), .fad 1 (.t 149)⟩, ⟨some 151, some (146, true), .load none (.t 150)⟩, ⟨some 152, some (146, true), .mov (.t 4)⟩, ⟨some 153, some (146, true), .bin .eql (.t 151) (.t 152)⟩, ⟨some 154, none, .land (.t 146) (.t 153)⟩, ⟨some 155, none, .mov (.t 154)⟩, ⟨some 156, some (155, true), .fad 5 (.t 1)⟩, ⟨some 157, some (155, true), .load none (.t 156)⟩, ⟨some 158, some (155, true), .iad 6 (.t 157) (.c (.pv (.int .i64 2)))⟩, ⟨some 159, some (155, true), .fad 1 (.t 158)⟩, ⟨some 160, some (155, true), .load none (.t 159)⟩, ⟨some 161, some (155, true), .mov (.t 4)⟩, ⟨some 162, some (155, true), .bin .eql (.t 160) (.t 161)⟩, ⟨some 163, none, .land (.t 155) (.t 162)⟩, ⟨some 2, none, .mov (.t 163)⟩]) (.ret)) (.seq (.reg [⟨some 165, none, .bin .eql (.t 108) (.c (.pv (.int .u8 20)))⟩, ⟨some 164, none, .mov (.t 165)⟩]) (.cond (.t 164) (.seq (.reg [⟨some 166, none, .mov (.t 5)⟩, ⟨some 167, none, .bin .eql (.t 166) (.c (.pv (.int .i64 2)))⟩, ⟨some 168, none, .mov (.t 167)⟩, ⟨some 169, some (168, true), .mov (.t 6)⟩, ⟨some 170, some (168, true), .fad 5 (.t 1)⟩, ⟨some 171, some (168, true), .load none (.t 170)⟩, ⟨some 172, some (168, true), .iad 6 (.t 171) (.c (.pv (.int .i64 1)))⟩, ⟨some 173, some (168, true), .fad 1 (.t 172)⟩, ⟨some 174, some (168, true), .load none (.t 173)⟩, ⟨some 175, some (168, true), .bin .add (.t 169) (.t 174)⟩, ⟨some 176, some (168, true), .mov (.t 4)⟩, ⟨some 177, some (168, true), .bin .eql (.t 175) (.t 176)⟩, ⟨some 178, none, .land (.t 168) (.t 177)⟩, ⟨some 2, none, .mov (.t 178)⟩]) (.ret)) (.seq (.reg [⟨some 180, none, .bin .eql (.t 108) (.c (.pv (.int .u8 21)))⟩, ⟨some 179, none, .mov (.t 180)⟩]) (.cond (.t 179) (.seq (.reg [⟨some 181, none, .mov (.t 5)⟩, ⟨some 182, none, .bin .eql (.t 181) (.c (.pv (.int .i64 1)))⟩, ⟨some 183, none, .mov (.t 182)⟩, ⟨some 184, some (183, true), .fad 4 (.t 1)⟩, ⟨some 185, some (183, true), .load none (.t 184)⟩, ⟨some 186, some (183, true), .bin .geq (.t 185) (.c (.pv (.int .i64 0)))⟩, ⟨some 187, none, .land (.t 183) (.t 186)⟩, ⟨some 188, none, .mov (.t 187)⟩, ⟨some 189, some (188, true), .fad 4 (.t 1)⟩, ⟨some 190, some (188, true), .load none (.t 189)⟩, ⟨some 191, some (188, true), .mov (.t 6)⟩, ⟨some 192, some (188, true), .bin .leq (.t 190) (.t 191)⟩, ⟨some 193, none, .land (.t 188) (.t 192)⟩, ⟨some 194, none, .mov (.t 193)⟩, ⟨some 195, some (194, true), .fad 4 (.t 1)⟩, ⟨some 196, some (194, true), .load none (.t 195)⟩, ⟨some 197, some (194, true), .mov (.t 4)⟩, ⟨some 198, some (194, true), .bin .add (.t 196) (.t 197)⟩, ⟨some 199, some (194, true), .mov (.t 6)⟩, ⟨some 200, some (194, true), .bin .leq (.t 198) (.t 199)⟩, ⟨some 201, none, .land (.t 194) (.t 200)⟩, ⟨some 2, none, .mov (.t 201)⟩]) (.ret)) (.seq (.seq (.reg [⟨some 203, none, .bin .eql (.t 108) (.c (.pv (.int .u8 22)))⟩, ⟨some 202, none, .mov (.t 203)⟩]) (.cond (.t 202) (.skip) (.reg [⟨some 204, none, .bin .eql (.t 108) (.c (.pv (.int .u8 23)))⟩, ⟨some 202, none, .mov (.t 204)⟩]))) (.cond (.t 202) (.seq (.reg [⟨some 205, none, .mov (.t 5)⟩, ⟨some 206, none, .bin .eql (.t 205) (.c (.pv (.int .i64 1)))⟩, ⟨some 207, none, .mov (.t 206)⟩, ⟨some 208, some (207, true), .mov (.t 6)⟩, ⟨some 209, some (207, true), .mov (.t 4)⟩, ⟨some 210, some (207, true), .bin .leq (.t 208) (.t 209)⟩, ⟨some 211, none, .land (.t 207) (.t 210)⟩, ⟨some 2, none, .mov (.t 211)⟩]) (.ret)) (.seq (.reg [⟨some 213, none, .bin .eql (.t 108) (.c (.pv (.int .u8 24)))⟩, ⟨some 212, none, .mov (.t 213)⟩]) (.cond (.t 212) (.seq (.reg [⟨some 214, none, .mov (.t 5)⟩, ⟨some 215, none, .bin .eql (.t 214) (.c (.pv (.int .i64 1)))⟩, ⟨some 216, none, .mov (.t 215)⟩, ⟨some 217, some (216, true), .mov (.t 4)⟩, ⟨some 218, some (216, true), .callf 126 [(.t 217)]⟩, ⟨some 219, none, .land (.t 216) (.t 218)⟩, ⟨some 2, none, .mov (.t 219)⟩]) (.ret)) (.skip))))))))))))))))) (.seq (.reg [⟨some 220, none, .mov (.t 5)⟩, ⟨some 221, none, .bin .eql (.t 220) (.c (.pv (.int .i64 2)))⟩, ⟨some 222, none, .mov (.t 221)⟩, ⟨some 223, some (222, true), .mov (.t 6)⟩, ⟨some 224, some (222, true), .mov (.t 4)⟩, ⟨some 225, some (222, true), .bin .eql (.t 223) (.t 224)⟩, ⟨some 226, none, .land (.t 222) (.t 225)⟩, ⟨some 227, none, .mov (.t 226)⟩, ⟨some 228, some (227, true), .fad 5 (.t 1)⟩, ⟨some 229, some (227, true), .load none (.t 228)⟩, ⟨some 230, some (227, true), .iad 6 (.t 229) (.c (.pv (.int .i64 1)))⟩, ⟨some 231, some (227, true), .fad 1 (.t 230)⟩, ⟨some 232, some (227, true), .load none (.t 231)⟩, ⟨some 233, some (227, true), .mov (.t 4)⟩, ⟨some 234, some (227, true), .bin .eql (.t 232) (.t 233)⟩, ⟨some 235, none, .land (.t 227) (.t 234)⟩, ⟨some 2, none, .mov (.t 235)⟩]) (.ret)))))))))
theorem k_retargetref02_Formed : FnOk Tryd.prog 116 236 c_retargetref02_Formed [.tmp 2] := .mk' (fn := Tryd.f116) rfl rfl (by kernel_rfl) rfl (by kernel_rfl) (by kernel_rfl)
/- "retarget/retargetref02.list" -/
def c_retargetref02_list : C :=
.seq (.reg [⟨some 1, none, .box 6 (.t 0)⟩, ⟨some 2, none, .mov (.c (.nilS 3))⟩]) (.seq (.reg [⟨some 3, none, .mov (.c (.nilS 3))⟩]) (.gh (.own 3 3) (.seq (.seq (.reg [⟨some 5, none, .fad 0 (.t 1)⟩, ⟨some 6, none, .load none (.t 5)⟩, ⟨some 7, none, .bin .eql (.t 6) (.c (.pv (.int .u8 2)))⟩]) (.cond (.t 7) (.reg [⟨some 8, none, .mov (.t 3)⟩, ⟨some 9, none, .fad 3 (.t 1)⟩, ⟨some 10, none, .load none (.t 9)⟩, ⟨some 11, none, .fad 1 (.t 1)⟩, ⟨some 12, none, .load none (.t 11)⟩, ⟨some 13, none, .build [.pv (.str ⟨#[]⟩), .pv (.int .i64 0), .pv (.int .u64 0)] [((0, 1), (.t 10)), ((1, 1), (.t 12))]⟩, ⟨some 14, none, .lit 3 [(.t 13)]⟩, ⟨some 15, none, .app 3 32 (.t 8) (.t 14)⟩, ⟨some 3, none, .mov (.t 15)⟩]) (.skip))) (.seq (.seq (.reg [⟨some 4, none, .mov (.c (.pv (.int .i64 0)))⟩]) (.blk 0 (.loop ⟨[1, 3, 4], [0, 1], 2⟩ (.seq (.seq (.reg [⟨some 16, none, .mov (.t 4)⟩, ⟨some 17, none, .fad 5 (.t 1)⟩, ⟨some 18, none, .load none (.t 17)⟩, ⟨some 19, none, .len (.t 18)⟩, ⟨some 20, none, .bin .lss (.t 16) (.t 19)⟩]) (.cond (.t 20) (.skip) (.ext 0))) (.seq (.blk 1 (.reg [⟨some 23, none, .mov (.t 3)⟩, ⟨some 24, none, .fad 5 (.t 1)⟩, ⟨some 25, none, .load none (.t 24)⟩, ⟨some 26, none, .mov (.t 4)⟩, ⟨some 27, none, .iad 6 (.t 25) (.t 26)⟩, ⟨some 28, none, .load (some 6) (.t 27)⟩, ⟨some 29, none, .callf 117 [(.t 28)]⟩, ⟨some 30, none, .app 3 32 (.t 23) (.t 29)⟩, ⟨some 3, none, .mov (.t 30)⟩])) (.reg [⟨some 21, none, .mov (.t 4)⟩, ⟨some 22, none, .bin .add (.t 21) (.c (.pv (.int .i64 1)))⟩, ⟨some 4, none, .mov (.t 22)⟩])))))) (.seq (.reg [⟨some 31, none, .mov (.t 3)⟩, ⟨some 2, none, .mov (.t 31)⟩]) (.ret))))))
theorem k_retargetref02_list : FnOk Tryd.prog 117 32 c_retargetref02_list [.tmp 2] := .mk' (fn := Tryd.f117) rfl rfl (by kernel_rfl) rfl (by kernel_rfl) (by kernel_rfl)
/- "retarget/term.widths$1" -/
def c_term_widths_1 : C :=
.seq (.reg [⟨some 2, none, .box 6 (.t 0)⟩, ⟨some 3, none, .mov (.c (.pv (.bool false)))⟩]) (.seq (.reg [⟨some 4, none, .fad 1 (.t 2)⟩, ⟨some 5, none, .load none (.t 4)⟩, ⟨some 6, none, .load none (.t 1)⟩, ⟨some 7, none, .bin .neq (.t 5) (.t 6)⟩, ⟨some 3, none, .mov (.t 7)⟩]) (.ret))
theorem k_term_widths_1 : FnOk Tryd.prog 121 8 c_term_widths_1 [.tmp 3] := .mk' (fn := Tryd.f121) rfl rfl (by kernel_rfl) rfl (by kernel_rfl) (by kernel_rfl)
/- "retarget/term.loadable" -/
def c_term_loadable : C :=
.seq (.reg [⟨some 2, none, .mov (.c (.pv (.bool false)))⟩]) (.seq (.reg [⟨some 3, none, .mov (.t 0)⟩, ⟨some 4, none, .bin .eql (.t 3) (.c (.pv (.int .i64 8)))⟩, ⟨some 5, none, .mov (.t 4)⟩, ⟨some 6, some (5, false), .mov (.t 0)⟩, ⟨some 7, some (5, false), .bin .eql (.t 6) (.c (.pv (.int .i64 16)))⟩, ⟨some 8, none, .lor (.t 5) (.t 7)⟩, ⟨some 9, none, .mov (.t 8)⟩, ⟨some 10, some (9, false), .mov (.t 0)⟩, ⟨some 11, some (9, false), .bin .eql (.t 10) (.c (.pv (.int .i64 32)))⟩, ⟨some 12, none, .lor (.t 9) (.t 11)⟩, ⟨some 13, none, .mov (.t 12)⟩, ⟨some 14, some (13, false), .mov (.t 0)⟩, ⟨some 15, some (13, false), .bin .eql (.t 14) (.c (.pv (.int .i64 64)))⟩, ⟨some 16, none, .lor (.t 13) (.t 15)⟩, ⟨some 2, none, .mov (.t 16)⟩]) (.ret))
theorem k_term_loadable : FnOk Tryd.prog 122 17 c_term_loadable [.tmp 2] := .mk' (fn := Tryd.f122) rfl rfl (by kernel_rfl) rfl (by kernel_rfl) (by kernel_rfl)
/- "retarget/retargetref02.Variable" -/
def c_retargetref02_Variable : C :=
.seq (.reg [⟨some 2, none, .mov (.c (.pv (.bool false)))⟩]) (.seq (.seq (.reg [⟨some 3, none, .mov (.t 0)⟩, ⟨some 4, none, .lens (.t 3)⟩, ⟨some 5, none, .bin .gtr (.t 4) (.c (.pv (.int .i64 2)))⟩, ⟨some 6, none, .mov (.t 5)⟩, ⟨some 7, some (6, true), .mov (.t 0)⟩, ⟨some 8, some (6, true), .cuts (.t 7) none (some (.c (.pv (.int .i64 2))))⟩, ⟨some 9, some (6, true), .bin .eql (.t 8) (.c (.pv (.str ⟨#[114, 46]⟩)))⟩, ⟨some 10, none, .land (.t 6) (.t 9)⟩]) (.cond (.t 10) (.seq (.reg [⟨some 11, none, .mov (.t 0)⟩, ⟨some 12, none, .cuts (.t 11) (some (.c (.pv (.int .i64 2)))) none⟩, ⟨some 13, none, .callf 65 [(.t 12)]⟩, ⟨some 2, none, .mov (.t 13)⟩]) (.ret)) (.skip))) (.seq (.reg [⟨some 14, none, .mov (.t 0)⟩, ⟨some 15, none, .callf 65 [(.t 14)]⟩, ⟨some 2, none, .mov (.t 15)⟩]) (.ret)))
theorem k_retargetref02_Variable : FnOk Tryd.prog 125 16 c_retargetref02_Variable [.tmp 2] := .mk' (fn := Tryd.f125) rfl rfl (by kernel_rfl) rfl (by kernel_rfl) (by kernel_rfl)
/- "retarget/retargetref02.loads" -/
def c_retargetref02_loads : C :=
.seq (.reg [⟨some 2, none, .mov (.c (.pv (.bool false)))⟩]) (.seq (.reg [⟨some 3, none, .mov (.t 0)⟩, ⟨some 4, none, .bin .eql (.t 3) (.c (.pv (.int .i64 8)))⟩, ⟨some 5, none, .mov (.t 4)⟩, ⟨some 6, some (5, false), .mov (.t 0)⟩, ⟨some 7, some (5, false), .bin .eql (.t 6) (.c (.pv (.int .i64 16)))⟩, ⟨some 8, none, .lor (.t 5) (.t 7)⟩, ⟨some 9, none, .mov (.t 8)⟩, ⟨some 10, some (9, false), .mov (.t 0)⟩, ⟨some 11, some (9, false), .bin .eql (.t 10) (.c (.pv (.int .i64 32)))⟩, ⟨some 12, none, .lor (.t 9) (.t 11)⟩, ⟨some 13, none, .mov (.t 12)⟩, ⟨some 14, some (13, false), .mov (.t 0)⟩, ⟨some 15, some (13, false), .bin .eql (.t 14) (.c (.pv (.int .i64 64)))⟩, ⟨some 16, none, .lor (.t 13) (.t 15)⟩, ⟨some 2, none, .mov (.t 16)⟩]) (.ret))
theorem k_retargetref02_loads : FnOk Tryd.prog 126 17 c_retargetref02_loads [.tmp 2] := .mk' (fn := Tryd.f126) rfl rfl (by kernel_rfl) rfl (by kernel_rfl) (by kernel_rfl)
end Go.Proofs.YthocoandbiaoiaaDoorV

namespace Go.Proofs.YthocoandbiaoiaaDoorV
open Go
set_option maxRecDepth 100000
set_option maxHeartbeats 4000000
theorem Tm.wf_sub {t : Tm} (h : t.pv.wf) : t.sub.length ≤ 9223372036854775807 := by
  rw [Tm.wf_pv] at h; simp [maxLen, -Tm.fold] at h; exact h.2.2.2.2.2.1
theorem Tm.wf_val {t : Tm} (h : t.pv.wf) : 0 ≤ t.val ∧ t.val ≤ 18446744073709551615 := by
  rw [Tm.wf_pv] at h; simp [maxLen, -Tm.fold] at h; exact ⟨h.2.2.1.1, h.2.2.1.2⟩
theorem p_retargetref02_Size (gl : Glob) (n : Nat) : ∀ t : Tm, SizeOf.sizeOf t < n → t.nodes < 2 ^ 40 → PCall Tryd.prog gl 53 [.pv t.pv] (.pv (.int .i64 t.nodes)) := by
  induction n with
  | zero => intro t h; omega
  | succ n ih =>
  intro t hn hs
  refine k_retargetref02_Size.pcall (by simp) (by simp) (by simp) fun hwf => ?_
  have hb := Tm.wf_sub (by simpa using hwf)
  have hnd := t.nodes_eq
  simp [c_retargetref02_Size]
  refine Loop.nat (fun i => { e := [(1, .ptr 0 0), (3, .pv (.int .i64 (1 + Tm.nodesL (t.sub.take i) : Nat))), (4, .pv (.int .i64 i))], h := [(0, t.bx)], nx := 1 }) t.sub.length (fun _ => True) (by simp) (by simp) (by simp [Tm.bx, Tm.nodesL]) fun i hi hinv => ?_
  by_cases hlt : i < t.sub.length
  · have h1 := Tm.nodesL_take hlt
    have h2 := @Tm.nodesL_le t.sub (i + 1)
    simp [Tm.bx, hlt]
    refine CallNext.pure (ih (gt t.sub i) (by have := Tm.size_gt hlt; omega) (by omega)) fun _ => ?_
    simp [hlt, wrap_nat (show (0:Int) ≤ i + 1 by omega) (by omega)]
    rw [wrap_nat (by omega) (by omega)]; omega
  · obtain rfl : i = t.sub.length := by omega
    simp [Tm.bx, hnd]
theorem p_retargetref02_Depth (gl : Glob) (n : Nat) : ∀ t : Tm, SizeOf.sizeOf t < n → t.depth < 2 ^ 40 → PCall Tryd.prog gl 115 [.pv t.pv] (.pv (.int .i64 t.depth)) := by
  induction n with
  | zero => intro t h; omega
  | succ n ih =>
  intro t hn hs
  refine k_retargetref02_Depth.pcall (by simp) (by simp) (by simp) fun hwf => ?_
  have hb := Tm.wf_sub (by simpa using hwf)
  have hnd := t.depth_eq
  simp [c_retargetref02_Depth]
  refine Loop.nat (fun i => { e := [(1, .ptr 0 0), (3, .pv (.int .i64 (Tm.depthL (t.sub.take i) : Nat))), (4, .pv (.int .i64 i))], h := [(0, t.bx)], nx := 1 }) t.sub.length (fun _ => True) (by simp) (by simp) (by simp [Tm.bx, Tm.depthL]) fun i hi hinv => ?_
  by_cases hlt : i < t.sub.length
  · have h1 := Tm.depthL_take hlt
    have h2 := @Tm.depthL_le t.sub (i + 1)
    simp [Tm.bx, hlt]
    refine CallNext.pure (ih (gt t.sub i) (by have := Tm.size_gt hlt; omega) (by omega)) fun _ => ?_
    simp [hlt, wrap_nat (show (0:Int) ≤ i + 1 by omega) (by omega)]
    omega
  · obtain rfl : i = t.sub.length := by omega
    simp [Tm.bx, hnd]
    rw [wrap_nat (by omega) (by omega)]
def bnds (l : List (ByteArray × Int)) : List Bnd := l.map fun x => ⟨x.1, x.2, 0⟩
theorem p_retargetref02_list (gl : Glob) (n : Nat) : ∀ t : Tm, SizeOf.sizeOf t < n → t.nodes < 2 ^ 40 → PCall Tryd.prog gl 117 [.pv t.pv] (.pv (.lst 3 ((bnds t.vars).map Bnd.pv))) := by
  induction n with
  | zero => intro t h; omega
  | succ n ih =>
  intro t hn hs
  refine k_retargetref02_list.pcall (by simp) (by simp) (by simp) fun hwf => ?_
  have hb := Tm.wf_sub (by simpa using hwf)
  have hnd := t.nodes_eq
  simp [c_retargetref02_list]
  constructor <;> intro hop
  all_goals
    refine Loop.nat (fun i => { e := [(1, .ptr 0 0), (3, .own 1 3 ((bnds ((if t.op = 2 then [(t.name, t.width)] else []) ++ Tm.varsL (t.sub.take i))).map Bnd.pv)), (4, .pv (.int .i64 i))], h := [(0, t.bx), (1, .tip 3 ((if t.op = 2 then [(t.name, t.width)] else []) ++ Tm.varsL (t.sub.take i)).length)], nx := 2 }) t.sub.length (fun _ => True) (by simp) (by simp) (by simp [Tm.bx, Tm.varsL, hop, bnds, Bnd.pv]) fun i hi hinv => ?_
    by_cases hlt : i < t.sub.length
    · have h1 := Tm.varsL_take hlt
      have h2 := @Tm.nodesL_le t.sub (i + 1)
      have h3 := Tm.nodesL_take hlt
      have h4 := Tm.varsL_le (t.sub.take i)
      have h5 := Tm.vars_le (gt t.sub i)
      simp [Tm.bx, hlt, hop]
      refine CallNext.pure (ih (gt t.sub i) (by have := Tm.size_gt hlt; omega) (by omega)) fun _ => ?_
      simp [hlt, wrap_nat (show (0:Int) ≤ i + 1 by omega) (by omega), bnds, h1]
      omega
    · obtain rfl : i = t.sub.length := by omega
      simp [Tm.bx, t.vars_eq, hop]
theorem p_retargetref02_Variable (gl : Glob) (s : ByteArray) : PCall Tryd.prog gl 125 [.pv (.str s)] (.pv (.bool (isVar s))) := by
  refine k_retargetref02_Variable.pcall (by simp) (by simp) (by simp) fun hwf => ?_
  simp [c_retargetref02_Variable]
  refine ⟨fun h => by omega, fun h1 h2 => ⟨by omega, CallNext.pure (p_retargetref01_Name gl _) fun _ => ?_⟩, fun h => CallNext.pure (p_retargetref01_Name gl _) fun _ => ?_⟩
  · simp [isVar, rdot, h2]; omega
  · have : isVar s = isName s := by unfold isVar; rw [if_neg fun h' => h (by have := h'.1; omega) h'.2]
    simp [this]
theorem p_retargetref02_long (gl : Glob) (n : Nat) : ∀ t : Tm, SizeOf.sizeOf t < n → PCall Tryd.prog gl 52 [.pv t.pv] (.pv (.bool t.long)) := by
  induction n with
  | zero => intro t h; omega
  | succ n ih =>
  intro t hn
  refine k_retargetref02_long.pcall (by simp) (by simp) (by simp) fun hwf => ?_
  have hb := Tm.wf_sub (by simpa using hwf)
  simp [c_retargetref02_long]
  refine Loop.nat (fun i => { e := [(1, .ptr 0 0), (3, .pv (.int .i64 i))], h := [(0, t.bx)], nx := 1 }) t.sub.length (fun i => ∀ j, j < i → (gt t.sub (j : Nat)).long = false) (by simp) (by simp) (by simp [Tm.bx]) fun i hi hinv => ?_
  by_cases hlt : i < t.sub.length
  · simp [Tm.bx, hlt]
    refine CallNext.pure (ih (gt t.sub i) (by have := Tm.size_gt hlt; omega)) fun _ => ?_
    simp [hlt, wrap_nat (show (0:Int) ≤ i + 1 by omega) (by omega)]
    refine ⟨fun h => ?_, fun h j hj => ?_⟩
    · rw [t.long_eq, Tm.longL_eq]; simp; left; exact ⟨_, gt_mem (by omega) (by omega), h⟩
    · rcases Nat.lt_or_eq_of_le (Nat.le_of_lt_succ hj) with hj | rfl
      · exact hinv j hj
      · exact h
  · obtain rfl : i = t.sub.length := by omega
    have : Tm.longL t.sub = false := by
      rw [Tm.longL_eq, List.any_eq_false]
      intro x hx
      obtain ⟨j, hj, rfl⟩ := List.getElem_of_mem hx
      have := hinv j hj
      rw [gt_nat hj] at this; simp [this]
    simp [Tm.bx, t.long_eq, this]; omega
theorem p_retargetref02_count (gl : Glob) (n : Nat) : ∀ (t : Tm) (lim : Int) (deep : Nat), SizeOf.sizeOf t < n → 0 ≤ lim → lim ≤ 500 → deep ≤ 80 → PCall Tryd.prog gl 51 [.pv t.pv, .pv (.int .i64 lim), .pv (.int .i64 deep)] (.tup [.pv (.int .i64 (t.count lim deep).1), .pv (.bool (t.count lim deep).2)]) := by
  induction n with
  | zero => intro t _ _ h; omega
  | succ n ih =>
  intro t lim deep hn hl0 hl hd
  refine k_retargetref02_count.pcall (by simp) (by simp) (by simp) fun hwf => ?_
  have hb := Tm.wf_sub (by simpa using (hwf (.pv t.pv) (by simp)))
  simp [c_retargetref02_count]
  have hc : ∀ d, deep = d + 1 → t.count lim deep = Tm.countL t.sub lim d 1 := fun d h => by subst h; cases t; rw [Tm.count]
  refine ⟨fun h => by subst h; cases t; simp [Tm.count], fun h => ?_⟩
  obtain ⟨d, rfl⟩ : ∃ d, deep = d + 1 := ⟨deep - 1, by omega⟩
  rw [hc d rfl]
  refine Loop.intro (fun x : Nat × Int => { e := [(1, .pv (.int .i64 lim)), (2, .pv (.int .i64 (d + 1 : Nat))), (3, .ptr 0 0), (8, .pv (.int .i64 x.2)), (9, .pv (.int .i64 x.1))], h := [(0, t.bx)], nx := 1 }) (fun x => t.sub.length - x.1)
    (fun x => x.1 ≤ t.sub.length ∧ 0 ≤ x.2 ∧ x.2 ≤ lim + 1 ∧ Tm.countL (t.sub.drop x.1) lim d x.2 = Tm.countL t.sub lim d 1) (0, 1) (by simp) (by simp; omega) (by simp [Tm.bx]) fun x hx => ?_
  obtain ⟨i, m⟩ := x
  obtain ⟨hi, hm0, hm1, hinv⟩ := hx
  simp only at hi hm0 hm1 hinv
  by_cases hlt : i < t.sub.length
  · have hdr : t.sub.drop i = gt t.sub i :: t.sub.drop (i + 1) := by rw [gt_nat hlt]; exact List.drop_eq_getElem_cons hlt
    rw [hdr, Tm.countL] at hinv
    by_cases hml : m ≤ lim
    · simp [Tm.bx, hlt, hml]
      rw [wrap_i64 (by omega) (by omega), wrap_i64 (by omega) (by omega)]
      refine CallNext.pure (ih (gt t.sub i) (lim - m) d (by have := Tm.size_gt hlt; omega) (by omega) (by omega) (by omega)) fun _ => ?_
      rw [if_pos hml] at hinv
      have hc0 := Tm.count_le (gt t.sub i) (lim - m) d (by omega)
      have hw : IntKind.i64.wrap (m + ((gt t.sub i).count (lim - m) d).1) = m + ((gt t.sub i).count (lim - m) d).1 := wrap_i64 (by omega) (by omega)
      simp [hlt, hw, wrap_nat (show (0:Int) ≤ i + 1 by omega) (by omega)]
      refine ⟨fun h => ?_, fun h => ⟨i + 1, m + ((gt t.sub i).count (lim - m) d).1, ⟨by omega, ?_, ?_, ?_⟩, by omega, by omega, rfl⟩⟩
      · rw [if_neg (by simp [h])] at hinv
        simp [← hinv]
      · omega
      · omega
      · rw [← hinv, if_pos h]
    · rw [if_neg hml] at hinv
      simp [Tm.bx, hlt, hml, ← hinv]
  · obtain rfl : i = t.sub.length := by omega
    rw [List.drop_length, Tm.countL] at hinv
    simp [Tm.bx, hlt, ← hinv]
theorem p_retargetref02_loads (gl : Glob) (w : Int) : PCall Tryd.prog gl 126 [.pv (.int .i64 w)] (.pv (.bool (decide (w = 8) || decide (w = 16) || decide (w = 32) || decide (w = 64)))) := by
  refine k_retargetref02_loads.pcall (by simp) (by simp) (by simp) fun hwf => ?_
  simp [c_retargetref02_loads]
end Go.Proofs.YthocoandbiaoiaaDoorV

namespace Go.Proofs.YthocoandbiaoiaaDoorV
open Go
set_option maxHeartbeats 4000000
def shapesL : List (ByteArray × Int × Int) :=
  let e : ByteArray := ⟨#[]⟩
  [(e,0,0),(e,0,0),(e,0,0),(⟨#[110,111,116]⟩,1,1),(⟨#[110,101,103]⟩,1,1),(⟨#[97,100,100]⟩,2,1),(⟨#[115,117,98]⟩,2,1),(⟨#[109,117,108]⟩,2,1),(⟨#[97,110,100]⟩,2,1),(⟨#[111,114]⟩,2,1),(⟨#[120,111,114]⟩,2,1),(⟨#[115,104,108]⟩,2,1),(⟨#[115,104,114]⟩,2,1),(⟨#[115,97,114]⟩,2,1),(⟨#[117,100,105,118]⟩,2,1),(⟨#[117,114,101,109]⟩,2,1),(⟨#[101,113]⟩,2,2),(⟨#[117,108,116]⟩,2,2),(⟨#[115,108,116]⟩,2,2),(⟨#[105,116,101]⟩,3,3),(⟨#[99,111,110,99,97,116]⟩,2,4),(⟨#[101,120,116,114,97,99,116]⟩,1,5),(⟨#[122,101,120,116]⟩,1,6),(⟨#[115,101,120,116]⟩,1,6),(⟨#[108,111,97,100]⟩,1,7)]
def shp (k : Int) : ByteArray × Int × Int := if k ≤ 24 then shapesL.getD k.toNat (⟨#[]⟩, 0, 0) else (⟨#[]⟩, 0, 0)
def loadB (w : Int) : Bool := decide (w = 8) || decide (w = 16) || decide (w = 32) || decide (w = 64)
def Tm.widthsP (t : Tm) (how : Int) : Bool :=
  let w := t.width; let x := (gt t.sub 0).width; let y := (gt t.sub 1).width; let z := (gt t.sub 2).width
  if how = 1 then t.sub.all fun u => decide (u.width = w)
  else if how = 2 then decide (w = 1) && decide (y = x)
  else if how = 3 then decide (x = 1) && decide (y = w) && decide (z = w)
  else if how = 4 then wideB x && wideB y && decide (x + y = w)
  else if how = 5 then decide (0 ≤ t.low) && wideB x && decide (w ≤ x) && decide (t.low ≤ x - w)
  else if how = 6 then decide (x ≤ w)
  else loadB w
def Tm.nodeP (t : Tm) : Bool :=
  wideB t.width &&
  if 0 < (shp t.op).2.1 then decide (t.val = 0) && decide (t.name = ⟨#[]⟩) && (decide (t.low = 0) || decide ((shp t.op).2.2 = 5)) && decide ((t.sub.length : Int) = (shp t.op).2.1) && t.widthsP (shp t.op).2.2
  else (decide ((t.sub.length : Int) = 0) && decide (t.low = 0)) && ((decide (t.op = 1) && decide (t.name = ⟨#[]⟩) && okVal t.width t.val) || (decide (t.op = 2) && decide (t.val = 0) && isVar t.name))
theorem shp_out {k : Int} (h : k < 3 ∨ 24 < k) : (shp k).2.1 = 0 := by
  unfold shp
  split
  · have : k.toNat = 0 ∨ k.toNat = 1 ∨ k.toNat = 2 := by omega
    rcases this with h | h | h <;> rw [h] <;> rfl
  · rfl
theorem Tm.node_eq (t : Tm) (hs : ∀ u ∈ t.sub, 1 ≤ u.width ∧ u.width ≤ 64) : t.nodeP = t.okNode := by
  unfold Tm.nodeP Tm.okNode
  by_cases hw : wideB t.width = true
  · simp only [hw, Bool.true_and]
    have hw' : 1 ≤ t.width ∧ t.width ≤ 64 := by simpa [wideB, inR] using hw
    by_cases hr : t.op < 3 ∨ 24 < t.op
    · rw [if_neg (by rw [shp_out hr]; omega)]
      by_cases h1 : t.op = 1
      · simp [h1]; grind
      · by_cases h2 : t.op = 2
        · simp [h2]; grind
        · simp [h1, h2]; grind
    · have hc : t.op = 3 ∨ t.op = 4 ∨ t.op = 5 ∨ t.op = 6 ∨ t.op = 7 ∨ t.op = 8 ∨ t.op = 9 ∨ t.op = 10 ∨ t.op = 11 ∨ t.op = 12 ∨ t.op = 13 ∨ t.op = 14 ∨ t.op = 15 ∨ t.op = 16 ∨ t.op = 17 ∨ t.op = 18 ∨ t.op = 19 ∨ t.op = 20 ∨ t.op = 21 ∨ t.op = 22 ∨ t.op = 23 ∨ t.op = 24 := by omega
      obtain ⟨o, w, v, nm, lo, sub⟩ := t
      simp only at hw' hc hs hw hr ⊢
      match sub, hs with
      | [], _ => rcases hc with rfl | rfl | rfl | rfl | rfl | rfl | rfl | rfl | rfl | rfl | rfl | rfl | rfl | rfl | rfl | rfl | rfl | rfl | rfl | rfl | rfl | rfl <;> simp [shp, shapesL]
      | [a], hs =>
        have ha := hs a (by simp)
        rcases hc with rfl | rfl | rfl | rfl | rfl | rfl | rfl | rfl | rfl | rfl | rfl | rfl | rfl | rfl | rfl | rfl | rfl | rfl | rfl | rfl | rfl | rfl <;> simp [shp, shapesL, Tm.widthsP, gt, wideB, inR, loadB] <;> clear hs <;> grind
      | [a, b], hs =>
        have ha := hs a (by simp)
        have hb := hs b (by simp)
        rcases hc with rfl | rfl | rfl | rfl | rfl | rfl | rfl | rfl | rfl | rfl | rfl | rfl | rfl | rfl | rfl | rfl | rfl | rfl | rfl | rfl | rfl | rfl <;> simp [shp, shapesL, Tm.widthsP, gt, wideB, inR, loadB] <;> clear hs <;> grind
      | [a, b, c], hs => rcases hc with rfl | rfl | rfl | rfl | rfl | rfl | rfl | rfl | rfl | rfl | rfl | rfl | rfl | rfl | rfl | rfl | rfl | rfl | rfl | rfl | rfl | rfl <;> simp [shp, shapesL, Tm.widthsP, gt, wideB, inR, loadB] <;> clear hs <;> grind
      | a :: b :: c :: d :: r, hs => rcases hc with rfl | rfl | rfl | rfl | rfl | rfl | rfl | rfl | rfl | rfl | rfl | rfl | rfl | rfl | rfl | rfl | rfl | rfl | rfl | rfl | rfl | rfl <;> simp [shp, shapesL] <;> clear hs <;> grind
  · simp [hw]
mutual
theorem Tm.pre_nodeP : ∀ t : Tm, t.pre.all Tm.nodeP = t.formed
  | ⟨o, w, v, n, l, s⟩ => by
    rw [Tm.pre, List.all_cons, Tm.preL_nodeP s, Tm.formed]
    by_cases h : Tm.formedL s = true
    · rw [h, Tm.node_eq _ fun u hu => Tm.formed_width (by rw [Tm.formedL_eq, List.all_eq_true] at h; exact h u hu)]; simp
    · simp [h]
theorem Tm.preL_nodeP : ∀ l : List Tm, (Tm.preL l).all Tm.nodeP = Tm.formedL l
  | [] => rfl
  | t :: r => by rw [Tm.preL, List.all_append, Tm.pre_nodeP t, Tm.preL_nodeP r, Tm.formedL]
end
end Go.Proofs.YthocoandbiaoiaaDoorV

namespace Go.Proofs.YthocoandbiaoiaaDoorV
open Go
set_option maxRecDepth 100000
set_option maxHeartbeats 4000000
theorem p_term_wide (gl : Glob) (w : Int) : PCall Tryd.prog gl 110 [.pv (.int .i64 w)] (.pv (.bool (wideB w))) := by
  refine k_term_wide.pcall (by simp) (by simp) (by simp) fun hwf => ?_
  simp [c_term_wide, wideB, inR]
theorem p_term_loadable (gl : Glob) (w : Int) : PCall Tryd.prog gl 122 [.pv (.int .i64 w)] (.pv (.bool (decide (w = 8) || decide (w = 16) || decide (w = 32) || decide (w = 64)))) := by
  refine k_term_loadable.pcall (by simp) (by simp) (by simp) fun hwf => ?_
  simp [c_term_loadable]
theorem p_HasPrefix (gl : Glob) (s p : ByteArray) : PCall Tryd.prog gl 130 [.pv (.str s), .pv (.str p)] (.pv (.bool (decide (p.size ≤ s.size) && decide (s.extract 0 p.size = p)))) := by
  refine k_internal_stringslite_HasPrefix.pcall (by simp) (by simp) (by simp) fun hwf => ?_
  simp [c_internal_stringslite_HasPrefix]
theorem p_TrimPrefix0 (gl : Glob) (s p : ByteArray) : PCall Tryd.prog gl 127 [.pv (.str s), .pv (.str p)] (.pv (.str (if p.size ≤ s.size ∧ s.extract 0 p.size = p then s.extract p.size s.size else s))) := by
  refine k_internal_stringslite_TrimPrefix.pcall (by simp) (by simp) (by simp) fun hwf => ?_
  simp [c_internal_stringslite_TrimPrefix]
  refine CallNext.pure (p_HasPrefix gl s p) fun _ => ?_
  simp
  refine ⟨fun h1 h2 => ?_, fun h => ?_⟩
  · simp [h1, h2]
  · exact fun h1 h2 => absurd h2 (h h1)
theorem p_TrimPrefix (gl : Glob) (s p : ByteArray) : PCall Tryd.prog gl 119 [.pv (.str s), .pv (.str p)] (.pv (.str (if p.size ≤ s.size ∧ s.extract 0 p.size = p then s.extract p.size s.size else s))) := by
  refine k_strings_TrimPrefix.pcall (by simp) (by simp) (by simp) fun hwf => ?_
  simp [c_strings_TrimPrefix]
  refine CallNext.pure (p_TrimPrefix0 gl s p) fun _ => ?_
  simp
theorem isVar_trim (s : ByteArray) : isName (if rdot.size ≤ s.size ∧ s.extract 0 rdot.size = rdot then s.extract rdot.size s.size else s) = isVar s := by
  have hr : rdot.size = 2 := rfl
  unfold isVar
  rw [hr]
  by_cases h : 2 < s.size
  · simp [h, Nat.le_of_lt h]
    by_cases h2 : s.extract 0 2 = rdot
    · simp [h2]
    · simp [h2]
  · by_cases h2 : s.size = 2
    · by_cases h3 : s.extract 0 2 = rdot
      · simp [h2, h3]
        have hs : s.extract 0 2 = s := by rw [← h2]; exact ByteArray.extract_zero_size
        rw [hs] at h3; subst h3; rfl
      · simp [h2, h3]
    · rw [if_neg (by omega), if_neg (by omega)]
theorem p_term_variable (gl : Glob) (s : ByteArray) : PCall Tryd.prog gl 113 [.pv (.str s)] (.pv (.bool (isVar s))) := by
  refine k_term_variable.pcall (by simp) (by simp) (by simp) fun hwf => ?_
  simp [c_term_variable]
  refine CallNext.pure (p_TrimPrefix gl s _) fun _ => ?_
  simp
  refine CallNext.pure (p_bits_Name gl _) fun _ => ?_
  simp
  exact isVar_trim s
def shapesC : List PV := shapesL.flatMap fun x => [.str x.1, .int .i64 x.2.1, .int .i64 x.2.2]
def glob : Glob := [(0, shapesC)]
theorem shapes_drop (k : Nat) (hk : k < 25) : ∃ r, shapesC.drop (k * 3) = .str (shapesL.getD k (⟨#[]⟩, 0, 0)).1 :: .int .i64 (shapesL.getD k (⟨#[]⟩, 0, 0)).2.1 :: .int .i64 (shapesL.getD k (⟨#[]⟩, 0, 0)).2.2 :: r := by
  have h : k = 0 ∨ k = 1 ∨ k = 2 ∨ k = 3 ∨ k = 4 ∨ k = 5 ∨ k = 6 ∨ k = 7 ∨ k = 8 ∨ k = 9 ∨ k = 10 ∨ k = 11 ∨ k = 12 ∨ k = 13 ∨ k = 14 ∨ k = 15 ∨ k = 16 ∨ k = 17 ∨ k = 18 ∨ k = 19 ∨ k = 20 ∨ k = 21 ∨ k = 22 ∨ k = 23 ∨ k = 24 := by omega
  rcases h with rfl | rfl | rfl | rfl | rfl | rfl | rfl | rfl | rfl | rfl | rfl | rfl | rfl | rfl | rfl | rfl | rfl | rfl | rfl | rfl | rfl | rfl | rfl | rfl | rfl <;> exact ⟨_, rfl⟩
theorem p_term_shaped (k : Int) (h0 : 0 ≤ k) : PCall Tryd.prog glob 111 [.pv (.int .u8 k)] (.tup [.pv (.agg [.str (shp k).1, .int .i64 (shp k).2.1, .int .i64 (shp k).2.2]), .pv (.bool (decide (0 < (shp k).2.1)))]) := by
  refine k_term_shaped.pcall (by simp) (by simp) (by simp) fun hwf => ?_
  by_cases hk : k ≤ 24
  · obtain ⟨r, hr⟩ := shapes_drop k.toNat (by omega)
    have hk' : ¬ 24 < k := by omega
    have hs : shp k = shapesL.getD k.toNat (⟨#[]⟩, 0, 0) := by simp [shp, hk]
    simp [c_term_shaped, hk', glob, hr, hs]
    omega
  · have hk' : 24 < k := by omega
    simp [c_term_shaped, hk', shp, hk]
theorem p_term_widths_1 (gl : Glob) (w : Int) (t : Tm) : ACall Tryd.prog gl (.func 121) 1 [.pv t.pv, .ptr 0 0] [(0, .box [.pv (.int .i64 w)])] (.pv (.bool (!decide (t.width = w)))) [(0, .box [.pv (.int .i64 w)])] 1 := by
  refine k_term_widths_1.acall (by simp) (by simp) (by simp) (by simp) (by simp) (by simp) fun hwf => ?_
  simp [c_term_widths_1]
  exact ⟨[0], by simp⟩
theorem p_slices_IndexFunc_tm (gl : Glob) (w : Int) (l : List Tm) : ACall Tryd.prog gl (.func 128) 1 [.pv (.lst 6 (l.map Tm.pv)), .fn (.func 121) [] [.ptr 0 0]] [(0, .box [.pv (.int .i64 w)])] (.pv (.int .i64 (fstI (fun x => !decide (x.width = w)) l))) [(0, .box [.pv (.int .i64 w)])] 1 := by
  refine k_slices_IndexFunc_api_Term_api_Term.acall (by simp) (by simp) (by simp) (by simp) (by simp) (by simp) fun hwf => ?_
  have hb : l.length ≤ 9223372036854775807 := by have := hwf (.pv (.lst 6 (l.map Tm.pv))) (by simp); simp [maxLen] at this; exact this.1
  simp [c_slices_IndexFunc_api_Term_api_Term]
  refine Loop.nat (fun i => { e := [(0, .pv (.lst 6 (l.map Tm.pv))), (1, .fn (.func 121) [] [.ptr 0 0]), (7, .pv (.int .i64 l.length)), (8, .pv (.int .i64 i))], h := [(0, .box [.pv (.int .i64 w)])], nx := 1 }) l.length (fun i => ∀ j, j < i → (!decide ((gt l (j : Nat)).width = w)) = false) (by simp [DV.nm_fn]) (by simp) (by simp) fun i hi hinv => ?_
  by_cases hlt : i < l.length
  · simp [hlt, evFn]
    refine CallNext.obs [0] (p_term_widths_1 gl w (gt l i)) (by simp) (by simp) (by simp) (by simp) fun _ => ?_
    simp [hlt, DV.nm_fn]
    refine ⟨fun h => ⟨(fstI_some hlt (by simpa using h) hinv).symm, [0], by simp⟩, fun h => ⟨fun j hj => ?_, wrap_nat (by omega) (by omega)⟩⟩
    rcases Nat.lt_or_eq_of_le (Nat.le_of_lt_succ hj) with hj | rfl
    · simpa using hinv j hj
    · exact h
  · simp [hlt]
    exact ⟨(fstI_none fun j hj => hinv j (by omega)).symm, [0], by simp⟩
theorem p_slices_ContainsFunc_tm (gl : Glob) (w : Int) (l : List Tm) : ACall Tryd.prog gl (.func 120) 1 [.pv (.lst 6 (l.map Tm.pv)), .fn (.func 121) [] [.ptr 0 0]] [(0, .box [.pv (.int .i64 w)])] (.pv (.bool (l.any fun x => !decide (x.width = w)))) [(0, .box [.pv (.int .i64 w)])] 1 := by
  refine k_slices_ContainsFunc_api_Term_api_Term.acall (by simp) (by simp) (by simp [DV.nm_fn]) (by simp) (by simp) (by simp) fun hwf => ?_
  simp [c_slices_ContainsFunc_api_Term_api_Term]
  refine CallNext.obs [0] (p_slices_IndexFunc_tm gl w l) (by simp) (by simp) (by simp) (by simp) fun _ => ?_
  simp [fstI_nonneg]
  exact ⟨[0], by simp⟩
theorem p_term_widths (gl : Glob) (t : Tm) (how : Int) (hne : t.sub ≠ []) (hw : 1 ≤ t.width ∧ t.width ≤ 64) (h24 : how = 2 ∨ how = 4 → t.sub.length = 2) (h3 : how = 3 → t.sub.length = 3) : PCall Tryd.prog gl 114 [.pv t.pv, .pv (.int .i64 how)] (.pv (.bool (t.widthsP how))) := by
  refine k_term_widths.pcall (by simp) (by simp) (by simp) fun hwf => ?_
  have hne0 : 0 < t.sub.length := by cases hs : t.sub <;> simp_all
  have hc : how = 1 ∨ how = 2 ∨ how = 3 ∨ how = 4 ∨ how = 5 ∨ how = 6 ∨ (how ≠ 1 ∧ how ≠ 2 ∧ how ≠ 3 ∧ how ≠ 4 ∧ how ≠ 5 ∧ how ≠ 6) := by omega
  rcases hc with h | h | h | h | h | h | ⟨g1, g2, g3, g4, g5, g6⟩
  · simp [c_term_widths, h, hne, hne0, Tm.widthsP]
    refine CallNext.obs [1] (p_slices_ContainsFunc_tm gl t.width t.sub) (by simp) (by simp) (by simp) (by simp) fun _ => ?_
    simp
    rw [Bool.eq_iff_iff]; simp
  · simp [c_term_widths, h, hne, hne0, h24 (.inl h), Tm.widthsP]
  · simp [c_term_widths, h, hne, hne0, h3 h, Tm.widthsP]
  · simp [c_term_widths, h, hne, hne0, h24 (.inr h), Tm.widthsP]
    refine DCallNext.pure (p_term_wide gl _) ?_
    simp [hne]
    refine ⟨by intros; have := h24 (.inr h); omega, _, fun _ => .of (p_term_wide gl _), by simp, ?_⟩
    simp [hne]
    refine ⟨by intros; have := h24 (.inr h); omega, ?_⟩
    by_cases hx : wideB (gt t.sub 0).width = true
    · by_cases hy : wideB (gt t.sub 1).width = true
      · rw [wrap_i64 (by simp [wideB, inR] at hx hy; omega) (by simp [wideB, inR] at hx hy; omega)]
      · simp [hy]
    · simp [hx]
  · simp [c_term_widths, h, hne, hne0, Tm.widthsP]
    refine ⟨_, fun _ => .of (p_term_wide gl _), by simp, ?_⟩
    simp
    by_cases hx : wideB (gt t.sub 0).width = true
    · rw [wrap_i64 (by simp [wideB, inR] at hx; omega) (by simp [wideB, inR] at hx; omega)]
    · simp [hx]
  · simp [c_term_widths, h, hne, hne0, Tm.widthsP]
  · simp [c_term_widths, g1, g2, g3, g4, g5, g6, hne, hne0, Tm.widthsP]
    refine CallNext.pure (p_term_loadable gl _) fun _ => ?_
    simp [loadB]
theorem shp_parts (k : Int) : ((shp k).2.2 = 2 ∨ (shp k).2.2 = 4 → (shp k).2.1 = 2) ∧ ((shp k).2.2 = 3 → (shp k).2.1 = 3) := by
  by_cases hr : k < 3 ∨ 24 < k
  · unfold shp
    split
    · have : k.toNat = 0 ∨ k.toNat = 1 ∨ k.toNat = 2 := by omega
      rcases this with h | h | h <;> rw [h] <;> decide
    · decide
  · have hc : k = 3 ∨ k = 4 ∨ k = 5 ∨ k = 6 ∨ k = 7 ∨ k = 8 ∨ k = 9 ∨ k = 10 ∨ k = 11 ∨ k = 12 ∨ k = 13 ∨ k = 14 ∨ k = 15 ∨ k = 16 ∨ k = 17 ∨ k = 18 ∨ k = 19 ∨ k = 20 ∨ k = 21 ∨ k = 22 ∨ k = 23 ∨ k = 24 := by omega
    rcases hc with rfl | rfl | rfl | rfl | rfl | rfl | rfl | rfl | rfl | rfl | rfl | rfl | rfl | rfl | rfl | rfl | rfl | rfl | rfl | rfl | rfl | rfl <;> decide
theorem p_term_node (t : Tm) : PCall Tryd.prog glob 104 [.pv t.pv] (.pv (.bool t.nodeP)) := by
  refine k_term_node.pcall (by simp) (by simp) (by simp) fun hwf => ?_
  have h0 : 0 ≤ t.op := by have := hwf (.pv t.pv) (by simp); simp only [DV.wf] at this; rw [Tm.wf_pv] at this; simp [-Tm.fold] at this; exact this.1.1
  simp [c_term_node]
  refine CallNext.pure (p_term_wide glob _) fun _ => ?_
  simp
  refine ⟨fun h => by simp [Tm.nodeP, h], fun hw => CallNext.pure (p_term_shaped t.op h0) fun _ => ?_⟩
  have hw' : 1 ≤ t.width ∧ t.width ≤ 64 := by simpa [wideB, inR] using hw
  simp
  refine ⟨fun hp => ⟨_, fun _ _ _ _ => .of (p_bits_Ok glob _ _), by simp, ?_⟩, fun hp => ⟨_, fun g1 g2 g3 g4 => .of (p_term_widths glob t _ ?_ hw' ?_ ?_), by simp, ?_⟩⟩
  · simp
    refine ⟨_, fun _ _ _ _ _ => .of (p_term_variable glob _), by simp, ?_⟩
    simp [Tm.nodeP, hw]
    intro h; omega
  · intro h; rw [h] at g4; simp at g4; omega
  · intro h; have := (shp_parts t.op).1 h; omega
  · intro h; have := (shp_parts t.op).2 h; omega
  · simp [Tm.nodeP, hw]
    intro h; omega
end Go.Proofs.YthocoandbiaoiaaDoorV

namespace Go.Proofs.YthocoandbiaoiaaDoorV
open Go
set_option maxRecDepth 100000
set_option maxHeartbeats 4000000
def ndC (c0 : Code) (go : Bool) : Option Code := if go then none else some c0
section
variable (gl : Glob) {σ : Type} (f : σ → Tm → σ × Bool) (l : Nat) (R : LRec) (e0 : Env) (c0 : Code) (o0 o1 o2 : σ → Ob)
  (h0 : ∀ s, (o0 s).bel 4) (h1 : ∀ s, (o1 s).bel 4) (h2 : ∀ s, (o2 s).bel 4) (he : ∀ x ∈ e0, x.2.nm fun i => i < 4)
  (k0 : ∀ s, (o0 s).nm fun i => i < 4) (k1 : ∀ s, (o1 s).nm fun i => i < 4) (k2 : ∀ s, (o2 s).nm fun i => i < 4) (he' : ∀ (i : Nat) (d : DV), eget e0 i = some d → d.nm fun i => i < 4)
  (hr : ∀ s t, ACall Tryd.prog gl (.yield l) 4 [.pv t.pv] [(3, .lrec l R none e0), (0, o0 s), (1, o1 s), (2, o2 s)] (.pv (.bool (f s t).2)) [(3, .lrec l R (ndC c0 (f s t).2) e0), (0, o0 (f s t).1), (1, o1 (f s t).1), (2, o2 (f s t).1)] 4)
include h0 h1 h2 he k0 k1 k2 he' hr
theorem p_term_visit (n : Nat) : ∀ (t : Tm) (s : σ), SizeOf.sizeOf t < n →
    ACall Tryd.prog gl (.func 109) 4 [.pv t.pv, .fn (.yield l) [] []] [(3, .lrec l R none e0), (0, o0 s), (1, o1 s), (2, o2 s)] (.pv (.bool (stopF f s t.pre).2)) [(3, .lrec l R (ndC c0 (stopF f s t.pre).2) e0), (0, o0 (stopF f s t.pre).1), (1, o1 (stopF f s t.pre).1), (2, o2 (stopF f s t.pre).1)] 4 := by
  induction n with
  | zero => intro t s h; omega
  | succ n ih =>
  intro t s hn
  have hnmH : ∀ (st : Option Code) (s : σ), heapNm 4 [(3, .lrec l R st e0), (0, o0 s), (1, o1 s), (2, o2 s)] := fun st s => ⟨by omega, he', by omega, k0 s, by omega, k1 s, by omega, k2 s, trivial⟩
  have hbH : ∀ (st : Option Code) (s : σ), heapBel 4 [(3, .lrec l R st e0), (0, o0 s), (1, o1 s), (2, o2 s)] := fun st s x hx => by
    simp at hx; rcases hx with rfl | rfl | rfl | rfl
    · exact ⟨by simp, he⟩
    · exact ⟨by simp, h0 s⟩
    · exact ⟨by simp, h1 s⟩
    · exact ⟨by simp, h2 s⟩
  refine k_term_visit.acall (by simp) (by omega) (by simp) (hnmH _ _) (by simp) (hnmH _ _) fun hwf => ?_
  have hb := Tm.wf_sub (t := t) (by have := hwf (.pv t.pv) (by simp); simpa using this)
  have hnd : t.pre = t :: Tm.preL t.sub := t.pre_eq
  simp [c_term_visit]
  refine CallNext.same 4 (hr s t) (by simp) (hbH _ _) (hbH _ _) (by simp) fun _ => ?_
  simp
  rw [hnd, stopF]
  refine ⟨fun h => ?_, fun h => ?_⟩
  · simp [h]
    exact ⟨[3, 0, 1, 2], by simp⟩
  · have g0 : ∀ s, (o0 s).nm fun i => i < 5 := fun s => Ob.nm_mono (fun _ h => by omega) (k0 s)
    have g1 : ∀ s, (o1 s).nm fun i => i < 5 := fun s => Ob.nm_mono (fun _ h => by omega) (k1 s)
    have g2 : ∀ s, (o2 s).nm fun i => i < 5 := fun s => Ob.nm_mono (fun _ h => by omega) (k2 s)
    have ge : ∀ (i : Nat) (d : DV), eget e0 i = some d → d.nm fun i => i < 5 := fun i d h => DV.nm_mono (fun _ h => by omega) d (he' i d h)
    simp [h, ndC]
    refine Loop.intro (fun x : Nat × σ => { e := [(1, .fn (.yield l) [] []), (12, .pv (.lst 6 (t.sub.map Tm.pv))), (13, .pv (.int .i64 t.sub.length)), (14, .pv (.int .i64 x.1))], h := [(0, o0 x.2), (1, o1 x.2), (2, o2 x.2), (3, .lrec l R none e0), (4, t.bx)], nx := 5 }) (fun x => t.sub.length - x.1)
      (fun x => x.1 ≤ t.sub.length ∧ stopF f x.2 (Tm.preL (t.sub.drop x.1)) = stopF f (f s t).1 (Tm.preL t.sub)) (0, (f s t).1) (by simp [g0, g1, g2]; exact ge) (by simp) (by simp [Tm.bx]) fun x hx => ?_
    obtain ⟨i, s'⟩ := x
    obtain ⟨hi, hinv⟩ := hx
    simp only at hi hinv
    by_cases hlt : i < t.sub.length
    · rw [Tm.preL_drop hlt, stopF_append] at hinv
      simp [hlt, Tm.bx]
      refine CallNext.same 4 (ih (gt t.sub i) s' (by have := Tm.size_gt hlt; omega)) (by simp) (hbH _ _) (hbH _ _) (by simp) fun _ => ?_
      simp [hlt, wrap_nat (show (0:Int) ≤ i + 1 by omega) (by omega)]
      refine ⟨fun hg => ?_, fun hg => ?_⟩
      · rw [if_neg (by simp [hg])] at hinv
        simp [← hinv, hg, ndC]
        exact ⟨[3, 0, 1, 2], by simp⟩
      · rw [if_pos hg] at hinv
        simp [hg, ndC, g0, g1, g2]
        exact ⟨ge, i + 1, _, ⟨by omega, hinv⟩, by omega, by omega, rfl, rfl, rfl⟩
    · obtain rfl : i = t.sub.length := by omega
      rw [List.drop_length, Tm.preL, stopF] at hinv
      simp [hlt, ← hinv, ndC]
      exact ⟨[3, 0, 1, 2], by simp⟩
end
section
variable (gl : Glob) {σ : Type} (f : σ → Tm → σ × Bool) (l : Nat) (R : LRec) (e0 : Env) (c0 : Code) (o0 o1 o2 o3 o4 o5 : σ → Ob)
  (h0 : ∀ s, (o0 s).bel 7) (h1 : ∀ s, (o1 s).bel 7) (h2 : ∀ s, (o2 s).bel 7) (h3 : ∀ s, (o3 s).bel 7) (h4 : ∀ s, (o4 s).bel 7) (h5 : ∀ s, (o5 s).bel 7) (he : ∀ x ∈ e0, x.2.nm fun i => i < 7)
  (k0 : ∀ s, (o0 s).nm fun i => i < 7) (k1 : ∀ s, (o1 s).nm fun i => i < 7) (k2 : ∀ s, (o2 s).nm fun i => i < 7) (k3 : ∀ s, (o3 s).nm fun i => i < 7) (k4 : ∀ s, (o4 s).nm fun i => i < 7) (k5 : ∀ s, (o5 s).nm fun i => i < 7) (he' : ∀ (i : Nat) (d : DV), eget e0 i = some d → d.nm fun i => i < 7)
  (hr : ∀ s t, ACall Tryd.prog gl (.yield l) 7 [.pv t.pv] [(6, .lrec l R none e0), (0, o0 s), (1, o1 s), (2, o2 s), (3, o3 s), (4, o4 s), (5, o5 s)] (.pv (.bool (f s t).2)) [(6, .lrec l R (ndC c0 (f s t).2) e0), (0, o0 (f s t).1), (1, o1 (f s t).1), (2, o2 (f s t).1), (3, o3 (f s t).1), (4, o4 (f s t).1), (5, o5 (f s t).1)] 7)
include h0 h1 h2 h3 h4 h5 he k0 k1 k2 k3 k4 k5 he' hr
theorem p_term_visitB (n : Nat) : ∀ (t : Tm) (s : σ), SizeOf.sizeOf t < n →
    ACall Tryd.prog gl (.func 109) 7 [.pv t.pv, .fn (.yield l) [] []] [(6, .lrec l R none e0), (0, o0 s), (1, o1 s), (2, o2 s), (3, o3 s), (4, o4 s), (5, o5 s)] (.pv (.bool (stopF f s t.pre).2)) [(6, .lrec l R (ndC c0 (stopF f s t.pre).2) e0), (0, o0 (stopF f s t.pre).1), (1, o1 (stopF f s t.pre).1), (2, o2 (stopF f s t.pre).1), (3, o3 (stopF f s t.pre).1), (4, o4 (stopF f s t.pre).1), (5, o5 (stopF f s t.pre).1)] 7 := by
  induction n with
  | zero => intro t s h; omega
  | succ n ih =>
  intro t s hn
  have hnmH : ∀ (st : Option Code) (s : σ), heapNm 7 [(6, .lrec l R st e0), (0, o0 s), (1, o1 s), (2, o2 s), (3, o3 s), (4, o4 s), (5, o5 s)] := fun st s => ⟨by omega, he', by omega, k0 s, by omega, k1 s, by omega, k2 s, by omega, k3 s, by omega, k4 s, by omega, k5 s, trivial⟩
  have hbH : ∀ (st : Option Code) (s : σ), heapBel 7 [(6, .lrec l R st e0), (0, o0 s), (1, o1 s), (2, o2 s), (3, o3 s), (4, o4 s), (5, o5 s)] := fun st s x hx => by
    simp at hx; rcases hx with rfl | rfl | rfl | rfl | rfl | rfl | rfl
    · exact ⟨by simp, he⟩
    · exact ⟨by simp, h0 s⟩
    · exact ⟨by simp, h1 s⟩
    · exact ⟨by simp, h2 s⟩
    · exact ⟨by simp, h3 s⟩
    · exact ⟨by simp, h4 s⟩
    · exact ⟨by simp, h5 s⟩
  refine k_term_visit_B.acall (by simp) (by omega) (by simp) (hnmH _ _) (by simp) (hnmH _ _) fun hwf => ?_
  have hb := Tm.wf_sub (t := t) (by have := hwf (.pv t.pv) (by simp); simpa using this)
  have hnd : t.pre = t :: Tm.preL t.sub := t.pre_eq
  simp [c_term_visit_B]
  refine CallNext.same 7 (hr s t) (by simp) (hbH _ _) (hbH _ _) (by simp) fun _ => ?_
  simp
  rw [hnd, stopF]
  refine ⟨fun h => ?_, fun h => ?_⟩
  · simp [h]
    exact ⟨[6, 0, 1, 2, 3, 4, 5], by simp⟩
  · have g0 : ∀ s, (o0 s).nm fun i => i < 8 := fun s => Ob.nm_mono (fun _ h => by omega) (k0 s)
    have g1 : ∀ s, (o1 s).nm fun i => i < 8 := fun s => Ob.nm_mono (fun _ h => by omega) (k1 s)
    have g2 : ∀ s, (o2 s).nm fun i => i < 8 := fun s => Ob.nm_mono (fun _ h => by omega) (k2 s)
    have g3 : ∀ s, (o3 s).nm fun i => i < 8 := fun s => Ob.nm_mono (fun _ h => by omega) (k3 s)
    have g4 : ∀ s, (o4 s).nm fun i => i < 8 := fun s => Ob.nm_mono (fun _ h => by omega) (k4 s)
    have g5 : ∀ s, (o5 s).nm fun i => i < 8 := fun s => Ob.nm_mono (fun _ h => by omega) (k5 s)
    have ge : ∀ (i : Nat) (d : DV), eget e0 i = some d → d.nm fun i => i < 8 := fun i d h => DV.nm_mono (fun _ h => by omega) d (he' i d h)
    simp [h, ndC]
    refine Loop.intro (fun x : Nat × σ => { e := [(1, .fn (.yield l) [] []), (12, .pv (.lst 6 (t.sub.map Tm.pv))), (13, .pv (.int .i64 t.sub.length)), (14, .pv (.int .i64 x.1))], h := [(0, o0 x.2), (1, o1 x.2), (2, o2 x.2), (3, o3 x.2), (4, o4 x.2), (5, o5 x.2), (6, .lrec l R none e0), (7, t.bx)], nx := 8 }) (fun x => t.sub.length - x.1)
      (fun x => x.1 ≤ t.sub.length ∧ stopF f x.2 (Tm.preL (t.sub.drop x.1)) = stopF f (f s t).1 (Tm.preL t.sub)) (0, (f s t).1) (by simp [g0, g1, g2, g3, g4, g5]; exact ge) (by simp) (by simp [Tm.bx]) fun x hx => ?_
    obtain ⟨i, s'⟩ := x
    obtain ⟨hi, hinv⟩ := hx
    simp only at hi hinv
    by_cases hlt : i < t.sub.length
    · rw [Tm.preL_drop hlt, stopF_append] at hinv
      simp [hlt, Tm.bx]
      refine CallNext.same 7 (ih (gt t.sub i) s' (by have := Tm.size_gt hlt; omega)) (by simp) (hbH _ _) (hbH _ _) (by simp) fun _ => ?_
      simp [hlt, wrap_nat (show (0:Int) ≤ i + 1 by omega) (by omega)]
      refine ⟨fun hg => ?_, fun hg => ?_⟩
      · rw [if_neg (by simp [hg])] at hinv
        simp [← hinv, hg, ndC]
        exact ⟨[6, 0, 1, 2, 3, 4, 5], by simp⟩
      · rw [if_pos hg] at hinv
        simp [hg, ndC, g0, g1, g2, g3, g4, g5]
        exact ⟨ge, i + 1, _, ⟨by omega, hinv⟩, by omega, by omega, rfl, rfl, rfl, rfl, rfl, rfl⟩
    · obtain rfl : i = t.sub.length := by omega
      rw [List.drop_length, Tm.preL, stopF] at hinv
      simp [hlt, ← hinv, ndC]
      exact ⟨[6, 0, 1, 2, 3, 4, 5], by simp⟩
end
theorem p_term_nodes (gl : Glob) (t : Tm) : ACall Tryd.prog gl (.func 103) 0 [.pv t.pv] [] (.fn (.func 108) [] [.ptr 0 0]) [(0, t.bx)] 1 := by
  refine k_term_nodes.acall (by simp) (by simp) (by simp) (by simp) (by simp) (by simp [Tm.bx]) fun hwf => ?_
  simp [c_term_nodes]
  exact ⟨[0], by simp [Tm.bx]⟩
end Go.Proofs.YthocoandbiaoiaaDoorV

namespace Go.Proofs.YthocoandbiaoiaaDoorV
open Go
set_option maxRecDepth 100000
set_option maxHeartbeats 4000000
theorem RfVC.nodes {P : Program} {gl : Glob} {n : Nat} {e0 : Env} {p : Nat} {vx vy : (Ex → St → Prop) → St → Prop} {gf : FuncId} {c : Nat} {Q : Ex → St → Prop} {σ : Type} (HS : σ → Heap) (f : σ → Tm → σ × Bool) (ex : Ex) (hex : ex ≠ .nrm) (s0 : σ) (t : Tm)
    (hc : c < n) (hnm : ∀ s, heapNm n (HS s))
    (hgf : ∀ l R, (∀ s x, ACall P gl (.yield l) (n + 1) [.pv x.pv] ((n, .lrec l R none e0) :: HS s) (.pv (.bool (f s x).2)) ((n, .lrec l R (ndC (exCode ex) (f s x).2) e0) :: HS (f s x).1) (n + 1)) →
      ACall P gl (.func gf) (n + 1) [.fn (.yield l) [] [], .ptr c 0] ((n, .lrec l R none e0) :: HS s0) (.tup []) ((n, .lrec l R (ndC (exCode ex) (stopF f s0 t.pre).2) e0) :: HS (stopF f s0 t.pre).1) (n + 1))
    (hround : ∀ s x, vx (fun e s' => match e with | .nrm => vy (fun e s'' => exJump e = (if (f s x).2 then none else some ex) ∧ ∃ ob, kobs s''.h ob = HS (f s x).1) s' | _ => False) { e := (p, .pv x.pv) :: e0, h := HS s, nx := n })
    (hQ : ((stopF f s0 t.pre).2 = true → Q .nrm { e := e0, h := HS (stopF f s0 t.pre).1, nx := n }) ∧ ((stopF f s0 t.pre).2 = false → Q ex { e := e0, h := HS (stopF f s0 t.pre).1, nx := n })) :
    RfVC P gl n e0 (HS s0) [p] vx vy gf [] [.ptr c 0] Q := by
  refine ⟨by simp [hc], if (stopF f s0 t.pre).2 then none else some ex, HS (stopF f s0 t.pre).1, n + 1, .tup [], hnm _, fun l R hr => ?_, ?_⟩
  · have h := hgf l R fun s x => by
      have := hr [.pv x.pv] (HS s) (if (f s x).2 then none else some ex) (HS (f s x).1) rfl (by simp) (hnm _) (hnm _) (hround s x)
      cases hb : (f s x).2 <;> simpa [hb, ndC] using this
    cases hb : (stopF f s0 t.pre).2 <;> simpa [hb, ndC, DV.norm, toPV, toPV1] using h
  · cases hb : (stopF f s0 t.pre).2
    · simp only [Bool.false_eq_true, if_false]
      cases ex with
      | nrm => exact absurd rfl hex
      | ext i => exact hQ.2 hb
      | ret => exact hQ.2 hb
    · simp only [if_true]
      exact hQ.1 hb
theorem env_nm {p : Nat → Prop} : ∀ {e : Env}, (∀ x ∈ e, x.2.nm p) → ∀ (i : Nat) (d : DV), eget e i = some d → d.nm p
  | [], _, _, _, h => by simp [eget] at h
  | (j, d') :: r, h, i, d, hd => by
    rw [eget] at hd
    split at hd
    · obtain rfl := Option.some.inj hd; exact h _ (.head _)
    · exact env_nm (fun x hx => h x (.tail _ hx)) i d hd
theorem p_term_nodes_1 (gl : Glob) {σ : Type} (f : σ → Tm → σ × Bool) (l : Nat) (R : LRec) (e0 : Env) (c0 : Code) (o0 o1 : σ → Ob) (t0 : Tm)
    (h0 : ∀ s, (o0 s).bel 4) (h1 : ∀ s, (o1 s).bel 4) (he : ∀ x ∈ e0, x.2.nm fun i => i < 4)
    (k0 : ∀ s, (o0 s).nm fun i => i < 4) (k1 : ∀ s, (o1 s).nm fun i => i < 4) (s : σ)
    (hr : ∀ s t, ACall Tryd.prog gl (.yield l) 4 [.pv t.pv] [(3, .lrec l R none e0), (0, o0 s), (1, o1 s), (2, t0.bx)] (.pv (.bool (f s t).2)) [(3, .lrec l R (ndC c0 (f s t).2) e0), (0, o0 ((f s t).1)), (1, o1 ((f s t).1)), (2, t0.bx)] 4) :
    ACall Tryd.prog gl (.func 108) 4 [.fn (.yield l) [] [], .ptr 2 0] [(3, .lrec l R none e0), (0, o0 s), (1, o1 s), (2, t0.bx)] (.tup []) [(3, .lrec l R (ndC c0 (stopF f s t0.pre).2) e0), (0, o0 ((stopF f s t0.pre).1)), (1, o1 ((stopF f s t0.pre).1)), (2, t0.bx)] 4 := by
  have he' : ∀ (i : Nat) (d : DV), eget e0 i = some d → d.nm fun i => i < 4 := env_nm he
  have hb0 : t0.bx.bel 4 := by simp [Tm.bx, Ob.bel]
  have hn0 : t0.bx.nm fun i => i < 4 := by simp [Tm.bx]
  have hv := p_term_visit gl f l R e0 c0 o0 o1 (fun _ => t0.bx) h0 h1 (fun _ => hb0) he k0 k1 (fun _ => hn0) he' hr _ t0 s (Nat.lt_succ_self _)
  have hnmH : ∀ (st : Option Code) (s : σ), heapNm 4 [(3, .lrec l R st e0), (0, o0 s), (1, o1 s), (2, t0.bx)] := fun st s => ⟨by omega, he', by omega, k0 s, by omega, k1 s, by omega, hn0, trivial⟩
  have hbH : ∀ (st : Option Code) (s : σ), heapBel 4 [(3, .lrec l R st e0), (0, o0 s), (1, o1 s), (2, t0.bx)] := fun st s x hx => by
    simp at hx; rcases hx with rfl | rfl | rfl | rfl
    · exact ⟨by simp, he⟩
    · exact ⟨by simp, h0 s⟩
    · exact ⟨by simp, h1 s⟩
    · exact ⟨by simp, hb0⟩
  refine k_term_nodes_1.acall (by simp) (by omega) (by simp) (hnmH _ _) (by simp) (hnmH _ _) fun hwf => ?_
  simp [c_term_nodes_1, Tm.bx]
  refine CallNext.same 4 hv (by simp) (hbH _ _) (hbH _ _) (by simp [Tm.bx]) fun _ => ?_
  simp [Tm.bx]
  exact ⟨[3, 0, 1, 2], by simp⟩
theorem p_term_nodes_1B (gl : Glob) {σ : Type} (f : σ → Tm → σ × Bool) (l : Nat) (R : LRec) (e0 : Env) (c0 : Code) (o0 o1 o2 o3 o4 : σ → Ob) (t0 : Tm)
    (h0 : ∀ s, (o0 s).bel 7) (h1 : ∀ s, (o1 s).bel 7) (h2 : ∀ s, (o2 s).bel 7) (h3 : ∀ s, (o3 s).bel 7) (h4 : ∀ s, (o4 s).bel 7) (he : ∀ x ∈ e0, x.2.nm fun i => i < 7)
    (k0 : ∀ s, (o0 s).nm fun i => i < 7) (k1 : ∀ s, (o1 s).nm fun i => i < 7) (k2 : ∀ s, (o2 s).nm fun i => i < 7) (k3 : ∀ s, (o3 s).nm fun i => i < 7) (k4 : ∀ s, (o4 s).nm fun i => i < 7) (s : σ)
    (hr : ∀ s t, ACall Tryd.prog gl (.yield l) 7 [.pv t.pv] [(6, .lrec l R none e0), (0, o0 s), (1, o1 s), (2, o2 s), (3, o3 s), (4, o4 s), (5, t0.bx)] (.pv (.bool (f s t).2)) [(6, .lrec l R (ndC c0 (f s t).2) e0), (0, o0 ((f s t).1)), (1, o1 ((f s t).1)), (2, o2 ((f s t).1)), (3, o3 ((f s t).1)), (4, o4 ((f s t).1)), (5, t0.bx)] 7) :
    ACall Tryd.prog gl (.func 108) 7 [.fn (.yield l) [] [], .ptr 5 0] [(6, .lrec l R none e0), (0, o0 s), (1, o1 s), (2, o2 s), (3, o3 s), (4, o4 s), (5, t0.bx)] (.tup []) [(6, .lrec l R (ndC c0 (stopF f s t0.pre).2) e0), (0, o0 ((stopF f s t0.pre).1)), (1, o1 ((stopF f s t0.pre).1)), (2, o2 ((stopF f s t0.pre).1)), (3, o3 ((stopF f s t0.pre).1)), (4, o4 ((stopF f s t0.pre).1)), (5, t0.bx)] 7 := by
  have he' : ∀ (i : Nat) (d : DV), eget e0 i = some d → d.nm fun i => i < 7 := env_nm he
  have hb0 : t0.bx.bel 7 := by simp [Tm.bx, Ob.bel]
  have hn0 : t0.bx.nm fun i => i < 7 := by simp [Tm.bx]
  have hv := p_term_visitB gl f l R e0 c0 o0 o1 o2 o3 o4 (fun _ => t0.bx) h0 h1 h2 h3 h4 (fun _ => hb0) he k0 k1 k2 k3 k4 (fun _ => hn0) he' hr _ t0 s (Nat.lt_succ_self _)
  have hnmH : ∀ (st : Option Code) (s : σ), heapNm 7 [(6, .lrec l R st e0), (0, o0 s), (1, o1 s), (2, o2 s), (3, o3 s), (4, o4 s), (5, t0.bx)] := fun st s => ⟨by omega, he', by omega, k0 s, by omega, k1 s, by omega, k2 s, by omega, k3 s, by omega, k4 s, by omega, hn0, trivial⟩
  have hbH : ∀ (st : Option Code) (s : σ), heapBel 7 [(6, .lrec l R st e0), (0, o0 s), (1, o1 s), (2, o2 s), (3, o3 s), (4, o4 s), (5, t0.bx)] := fun st s x hx => by
    simp at hx; rcases hx with rfl | rfl | rfl | rfl | rfl | rfl | rfl
    · exact ⟨by simp, he⟩
    · exact ⟨by simp, h0 s⟩
    · exact ⟨by simp, h1 s⟩
    · exact ⟨by simp, h2 s⟩
    · exact ⟨by simp, h3 s⟩
    · exact ⟨by simp, h4 s⟩
    · exact ⟨by simp, hb0⟩
  refine k_term_nodes_1.acall (by simp) (by omega) (by simp) (hnmH _ _) (by simp) (hnmH _ _) fun hwf => ?_
  simp [c_term_nodes_1, Tm.bx]
  refine CallNext.same 7 hv (by simp) (hbH _ _) (hbH _ _) (by simp [Tm.bx]) fun _ => ?_
  simp [Tm.bx]
  exact ⟨[6, 0, 1, 2, 3, 4, 5], by simp⟩
mutual
theorem Tm.pre_length : ∀ t : Tm, t.pre.length = t.nodes
  | ⟨_, _, _, _, _, s⟩ => by rw [Tm.pre, Tm.nodes, List.length_cons, Tm.preL_length s]; omega
theorem Tm.preL_length : ∀ l : List Tm, (Tm.preL l).length = Tm.nodesL l
  | [] => rfl
  | t :: r => by rw [Tm.preL, Tm.nodesL, List.length_append, Tm.pre_length t, Tm.preL_length r]
end
def cntF (s : Int) (_ : Tm) : Int × Bool := (IntKind.i64.wrap (s + 1), true)
theorem stopF_cnt : ∀ (l : List Tm) (s : Int), 0 ≤ s → s + l.length < 9223372036854775807 → stopF cntF s l = (s + l.length, true)
  | [], s, _, _ => by simp [stopF]
  | t :: r, s, h0, h => by
    simp only [List.length_cons] at h
    have := stopF_cnt r (s + 1) (by omega) (by omega)
    have e1 : cntF s t = (s + 1, true) := by unfold cntF; rw [wrap_i64 (by omega) (by omega)]
    rw [stopF, e1]
    simp only [if_true]
    rw [this]; simp; omega
theorem p_term_Size (gl : Glob) (t : Tm) (hs : t.nodes < 2 ^ 40) : PCall Tryd.prog gl 101 [.pv t.pv] (.pv (.int .i64 t.nodes)) := by
  refine k_term_Size.pcall (by simp) (by simp) (by simp) fun hwf => ?_
  simp [c_term_Size]
  refine CallNext.obs [] (p_term_nodes gl t) (by simp) (by simp) (by simp) (by simp) fun _ => ?_
  simp [vc_rf, Tm.bx]
  have hst := stopF_cnt t.pre 0 (by omega) (by rw [Tm.pre_length]; omega)
  refine RfVC.nodes (fun s : Int => [(0, t.bx), (1, .box [.pv (.int .i64 s)]), (2, t.bx)]) cntF .ret (by simp) 0 t (by omega) (fun s => by simp [Tm.bx]) (fun l R hr => ?_) (fun s x => ?_) ?_
  · exact p_term_nodes_1 gl cntF l R _ _ (fun _ => t.bx) (fun s => .box [.pv (.int .i64 s)]) t (by simp [Tm.bx, Ob.bel]) (by simp [Ob.bel]) (by simp) (by simp [Tm.bx]) (by simp) 0 hr
  · simp [cntF, Tm.bx, exJump]
    exact ⟨[0, 1, 2], by simp⟩
  · rw [hst]
    simp [Tm.bx, Tm.pre_length]
theorem p_term_Depth (gl : Glob) (n : Nat) : ∀ t : Tm, SizeOf.sizeOf t < n → t.depth < 2 ^ 40 → PCall Tryd.prog gl 102 [.pv t.pv] (.pv (.int .i64 t.depth)) := by
  induction n with
  | zero => intro t h; omega
  | succ n ih =>
  intro t hn hs
  refine k_term_Depth.pcall (by simp) (by simp) (by simp) fun hwf => ?_
  have hb := Tm.wf_sub (by simpa using hwf)
  have hnd := t.depth_eq
  simp [c_term_Depth]
  refine Loop.nat (fun i => { e := [(3, .pv (.int .i64 (Tm.depthL (t.sub.take i) : Nat))), (7, .pv (.lst 6 (t.sub.map Tm.pv))), (8, .pv (.int .i64 t.sub.length)), (9, .pv (.int .i64 i))], h := [(0, t.bx)], nx := 1 }) t.sub.length (fun _ => True) (by simp) (by simp) (by simp [Tm.bx, Tm.depthL]) fun i hi hinv => ?_
  by_cases hlt : i < t.sub.length
  · have h1 := Tm.depthL_take hlt
    have h2 := @Tm.depthL_le t.sub (i + 1)
    simp [Tm.bx, hlt]
    refine CallNext.pure (ih (gt t.sub i) (by have := Tm.size_gt hlt; omega) (by omega)) fun _ => ?_
    simp [hlt, wrap_nat (show (0:Int) ≤ i + 1 by omega) (by omega)]
    omega
  · obtain rfl : i = t.sub.length := by omega
    simp [Tm.bx, hnd]
    rw [wrap_nat (by omega) (by omega)]
end Go.Proofs.YthocoandbiaoiaaDoorV

namespace Go.Proofs.YthocoandbiaoiaaDoorV
open Go
set_option maxHeartbeats 1000000
theorem mfind_shift (k : PV) : ∀ (es : List (PV × DV)) (i : Nat), mfind k es (i + 1) = (mfind k es i).map fun x => (x.1 + 1, x.2)
  | [], _ => rfl
  | (q, d) :: r, i => by
    rw [mfind, mfind]
    split
    · rfl
    · exact mfind_shift k r (i + 1)
theorem mlook_cons {k q : PV} {e : DV} {r : List (PV × DV)} : mlook ((q, e) :: r) k = if keq k q then some e else mlook r k := by
  unfold mlook
  rw [mfind, mfind_shift]
  split
  · rfl
  · cases mfind k r 0 <;> rfl
theorem mput_cons {k q : PV} {e d : DV} {r : List (PV × DV)} : mput ((q, e) :: r) k d = if keq k q then (k, d) :: r else (q, e) :: mput r k d := by
  unfold mput
  rw [mfind, mfind_shift]
  split
  · rename_i h
    split at h
    · simp at h; obtain ⟨rfl, -⟩ := h; simp [*]
    · rename_i hq
      cases hm : mfind k r 0 with
      | none => simp [hm] at h
      | some x => simp [hm] at h; obtain ⟨rfl, -⟩ := h; simp [hq]
  · rename_i h
    split at h
    · simp at h
    · rename_i hq
      cases hm : mfind k r 0 with
      | none => simp [hq]
      | some x => simp [hm] at h
@[simp] theorem mlook_nil {k : PV} : mlook [] k = none := rfl
@[simp] theorem mput_nil {k : PV} {d : DV} : mput [] k d = [(k, d)] := rfl
@[simp] theorem keq_str {a b : ByteArray} : keq (.str a) (.str b) = decide (a = b) := by simp only [keq, ceq1]; by_cases h : a = b <;> simp [h]
@[simp] theorem keq_int {k : IntKind} {a b : Int} : keq (.int k a) (.int k b) = decide (a = b) := by simp only [keq, ceq1]; by_cases h : a = b <;> simp [h]
abbrev NV := List (ByteArray × Int)
def lookV : NV → ByteArray → Option Int
  | [], _ => none
  | (m, w) :: r, n => if n = m then some w else lookV r n
def putV : NV → ByteArray → Int → NV
  | [], n, w => [(n, w)]
  | (m, v) :: r, n, w => if n = m then (n, w) :: r else (m, v) :: putV r n w
def vmap (s : NV) : List (PV × DV) := s.map fun x => (.str x.1, .pv (.int .i64 x.2))
@[simp] theorem mlook_vmap {n : ByteArray} : ∀ {s : NV}, mlook (vmap s) (.str n) = (lookV s n).map fun w => .pv (.int .i64 w)
  | [] => rfl
  | (m, w) :: r => by
    have := mlook_vmap (n := n) (s := r)
    simp only [vmap, List.map_cons] at this ⊢
    rw [mlook_cons, lookV, this]; simp; split <;> rfl
@[simp] theorem mput_vmap {n : ByteArray} {w : Int} : ∀ {s : NV}, mput (vmap s) (.str n) (.pv (.int .i64 w)) = vmap (putV s n w)
  | [] => rfl
  | (m, v) :: r => by
    have := mput_vmap (n := n) (w := w) (s := r)
    simp only [vmap, List.map_cons] at this ⊢
    rw [mput_cons, putV, this]; simp; split <;> rfl
theorem keysOk_vmap {n : ByteArray} {s : NV} : keysOk 2 (.str n) (vmap s) := by
  refine ⟨rfl, by omega, fun x hx => ?_⟩
  simp only [vmap, List.mem_map] at hx
  obtain ⟨y, -, rfl⟩ := hx
  rfl
theorem lookV_putV {n m : ByteArray} {w : Int} : ∀ {s : NV}, lookV (putV s n w) m = if m = n then some w else lookV s m
  | [] => by simp [putV, lookV]
  | (a, v) :: r => by
    rw [putV]
    by_cases h : n = a
    · subst h; simp only [if_true, lookV]; split <;> rfl
    · simp only [h, if_false, lookV, lookV_putV (s := r)]
      by_cases h1 : m = a
      · subst h1; simp [Ne.symm h]
      · simp [h1]
def varF (s : NV) (x : Tm) : NV × Bool :=
  if x.op = 2 then (match lookV s x.name with
    | some w => if w = x.width then (putV s x.name x.width, true) else (s, false)
    | none => (putV s x.name x.width, true)) else (s, true)
def stopV : NV → NV → NV × Bool
  | s, [] => (s, true)
  | s, (n, w) :: r => match lookV s n with
    | some v => if v = w then stopV (putV s n w) r else (s, false)
    | none => stopV (putV s n w) r
theorem stopV_append (s : NV) : ∀ (a b : NV), stopV s (a ++ b) = if (stopV s a).2 then stopV (stopV s a).1 b else ((stopV s a).1, false)
  | [], b => by simp [stopV]
  | (n, w) :: r, b => by
    simp only [List.cons_append, stopV]
    obtain hl | ⟨v, hl⟩ : lookV s n = none ∨ ∃ v, lookV s n = some v := by cases lookV s n <;> simp
    · simp only [hl]; exact stopV_append _ r b
    · by_cases h : v = w
      · simp only [hl, h, if_true]; exact stopV_append _ r b
      · simp [hl, h]
mutual
theorem Tm.stop_vars : ∀ (t : Tm) (s : NV), stopF varF s t.pre = stopV s t.vars
  | ⟨o, w, v, n, l, ts⟩, s => by
    rw [Tm.pre, stopF, Tm.vars]
    by_cases h : o = 2
    · simp only [varF, h, if_true]
      simp only [List.cons_append, List.nil_append, stopV]
      obtain hl | ⟨u, hl⟩ : lookV s n = none ∨ ∃ u, lookV s n = some u := by cases lookV s n <;> simp
      · simp only [hl, if_true]; exact Tm.stop_varsL ts _
      · by_cases h : u = w
        · simp only [hl, h, if_true]; exact Tm.stop_varsL ts _
        · simp [hl, h]
    · simp only [varF, h, if_false, if_true, List.nil_append]; exact Tm.stop_varsL ts _
theorem Tm.stop_varsL : ∀ (l : List Tm) (s : NV), stopF varF s (Tm.preL l) = stopV s (Tm.varsL l)
  | [], s => rfl
  | t :: r, s => by
    rw [Tm.preL, stopF_append, Tm.varsL, stopV_append, Tm.stop_vars t s]
    split
    · exact Tm.stop_varsL r _
    · rfl
end
theorem stopV_ok : ∀ (l s : NV), (stopV s l).2 = true ↔ (∀ x ∈ l, ∀ w, lookV s x.1 = some w → w = x.2) ∧ ∀ x ∈ l, ∀ y ∈ l, x.1 = y.1 → x.2 = y.2
  | [], s => by simp [stopV]
  | (n, w) :: r, s => by
    have key : ((stopV (putV s n w) r).2 = true ∧ ∀ v, lookV s n = some v → v = w) ↔ (∀ x ∈ (n, w) :: r, ∀ w, lookV s x.1 = some w → w = x.2) ∧ ∀ x ∈ (n, w) :: r, ∀ y ∈ (n, w) :: r, x.1 = y.1 → x.2 = y.2 := by
      rw [stopV_ok r]
      constructor
      · rintro ⟨⟨h1, h2⟩, h3⟩
        have h4 : ∀ y ∈ r, y.1 = n → w = y.2 := fun y hy he => h1 y hy w (by rw [lookV_putV, if_pos he])
        refine ⟨fun x hx v hv => ?_, fun x hx y hy he => ?_⟩
        · rcases List.mem_cons.1 hx with rfl | hx
          · exact h3 v hv
          · by_cases he : x.1 = n
            · rw [← h4 x hx he]; exact h3 v (by rw [← he]; exact hv)
            · exact h1 x hx v (by rw [lookV_putV, if_neg he]; exact hv)
        · rcases List.mem_cons.1 hx with rfl | hx <;> rcases List.mem_cons.1 hy with rfl | hy
          · rfl
          · exact h4 y hy he.symm
          · exact (h4 x hx he).symm
          · exact h2 x hx y hy he
      · rintro ⟨h1, h2⟩
        refine ⟨⟨fun x hx v hv => ?_, fun x hx y hy => h2 x (.tail _ hx) y (.tail _ hy)⟩, fun v hv => h1 _ (.head _) v hv⟩
        rw [lookV_putV] at hv
        split at hv
        · rename_i he
          obtain rfl := Option.some.inj hv
          exact h2 _ (.head _) x (.tail _ hx) he.symm
        · exact h1 x (.tail _ hx) v hv
    rw [← key, stopV]
    cases hl : lookV s n with
    | none => simp
    | some v =>
      by_cases hv : v = w
      · simp [hv]
      · simp [hv]
theorem agree_iff (l : NV) : agree l = true ↔ ∀ x ∈ l, ∀ y ∈ l, x.1 = y.1 → x.2 = y.2 := by
  unfold agree
  rw [allB_true]
  simp only [allB_true, Bool.or_eq_true, Bool.not_eq_true', decide_eq_false_iff_not, decide_eq_true_eq]
  constructor
  · intro h x hx y hy he
    obtain ⟨i, hi, rfl⟩ := List.getElem_of_mem hx
    obtain ⟨k, hk, rfl⟩ := List.getElem_of_mem hy
    rcases Nat.lt_trichotomy i k with hik | rfl | hik
    · have := h k hk i hik
      rw [gt_nat hi, gt_nat hk] at this
      rcases this with h1 | h1
      · exact absurd he h1
      · exact h1
    · rfl
    · have := h i hi k hik
      rw [gt_nat hi, gt_nat hk] at this
      rcases this with h1 | h1
      · exact absurd he.symm h1
      · exact h1.symm
  · intro h i hi k hk
    rw [gt_nat hi, gt_nat (show k < l.length by omega)]
    by_cases he : l[k].1 = l[i].1
    · right; exact h _ (List.getElem_mem _) _ (List.getElem_mem _) he
    · left; exact he
theorem Tm.stop_agree (t : Tm) : (stopF varF [] t.pre).2 = agree t.vars := by
  rw [Tm.stop_vars, Bool.eq_iff_iff, stopV_ok, agree_iff]
  simp [lookV]
end Go.Proofs.YthocoandbiaoiaaDoorV

namespace Go.Proofs.YthocoandbiaoiaaDoorV
open Go
set_option maxRecDepth 100000
set_option maxHeartbeats 4000000
def varsDV (t : Tm) : DV := if agree t.vars then .tup [.mref 3, .pv (.bool true)] else .tup [.nilM, .pv (.bool false)]
theorem p_term_variables (gl : Glob) (t : Tm) : ACall Tryd.prog gl (.func 105) 0 [.pv t.pv] [] (varsDV t) [(3, .mp (vmap (stopF varF [] t.pre).1))] 6 := by
  have hnmv : ∀ (s : NV) (n : Nat), (Ob.mp (vmap s)).nm fun i => i < n := fun s n x hx => by simp only [vmap, List.mem_map] at hx; obtain ⟨y, -, rfl⟩ := hx; simp
  have hbv : ∀ (s : NV) (n : Nat), (Ob.mp (vmap s)).bel n := fun s n x hx => by simp only [vmap, List.mem_map] at hx; obtain ⟨y, -, rfl⟩ := hx; simp
  refine k_term_variables.acall (by simp) (by simp) (by simp) (by simp) (by unfold varsDV; split <;> simp) ⟨by omega, hnmv _ _, trivial⟩ fun hwf => ?_
  simp [c_term_variables]
  refine CallNext.obs [] (p_term_nodes gl t) (by simp) (by simp) (by simp) (by simp) fun _ => ?_
  simp [vc_rf, Tm.bx]
  have hst := t.stop_agree
  refine RfVC.nodes (fun s : NV => [(0, t.bx), (1, .box [.nilM]), (2, .box [.pv (.bool false)]), (3, .mp (vmap s)), (4, .box [.mref 3]), (5, t.bx)]) varF .ret (by simp) [] t (by omega) (fun s => by simp [Tm.bx]; exact fun a b h => hnmv s 6 (a, b) h) (fun l R hr => ?_) (fun s x => ?_) ?_
  · exact p_term_nodes_1B gl varF l R _ _ (fun _ => t.bx) (fun _ => .box [.nilM]) (fun _ => .box [.pv (.bool false)]) (fun s => .mp (vmap s)) (fun _ => .box [.mref 3]) t (by simp [Tm.bx, Ob.bel]) (by simp [Ob.bel]) (by simp [Ob.bel]) (fun s => hbv s 7) (by simp [Ob.bel]) (by simp) (by simp [Tm.bx]) (by simp) (by simp) (fun s => hnmv s 7) (by simp) [] hr
  · have hk : keysOk 2 (.str x.name) (vmap s) := keysOk_vmap
    by_cases hx : x.op = 2
    · obtain hl | ⟨v, hl⟩ : lookV s x.name = none ∨ ∃ v, lookV s x.name = some v := by cases lookV s x.name <;> simp
      · simp [varF, Tm.bx, exJump, hx, hl, hk]
        exact ⟨[0, 1, 2, 3, 4, 5], by simp⟩
      · by_cases hv : v = x.width
        · simp [varF, Tm.bx, exJump, hx, hl, hk, hv]
          exact ⟨[0, 1, 2, 3, 4, 5], by simp⟩
        · simp [varF, Tm.bx, exJump, hx, hl, hk, hv]
          exact ⟨[0, 1, 2, 3, 4, 5], by simp⟩
    · simp [varF, Tm.bx, exJump, hx]
      exact ⟨[0, 1, 2, 3, 4, 5], by simp⟩
  · rw [hst]
    simp [Tm.bx, varsDV]
    refine ⟨fun h => ?_, fun h => ?_⟩
    · simp [h]; exact ⟨[3], by simp⟩
    · simp [h]; exact ⟨[3], by simp⟩
def nodeF (s : Int) (x : Tm) : Int × Bool := if x.nodeP then (s, true) else (8, false)
theorem stopF_node : ∀ (l : List Tm) (s : Int), stopF nodeF s l = if l.all Tm.nodeP then (s, true) else (8, false)
  | [], s => rfl
  | t :: r, s => by
    rw [stopF, nodeF]
    by_cases h : t.nodeP = true
    · simp only [h, if_true, List.all_cons, Bool.true_and]; exact stopF_node r s
    · simp [h]
theorem p_term_Check (t : Tm) (hs : t.nodes < 2 ^ 40) (hd : t.depth < 2 ^ 40) : PCall Tryd.prog glob 93 [.pv t.pv] (.pv (.int .i64 t.check)) := by
  refine k_term_Check.pcall (by simp) (by simp) (by simp) fun hwf => ?_
  simp [c_term_Check]
  refine CallNext.pure (p_term_Size glob t hs) fun _ => ?_
  simp
  refine ⟨_, fun _ => .of (p_term_Depth glob _ t (Nat.lt_succ_self _) hd), by simp, ?_⟩
  simp
  refine ⟨fun h => ?_, fun h1 h2 => CallNext.obs [] (p_term_nodes glob t) (by simp) (by simp) (by simp) (by simp) fun _ => ?_⟩
  · rw [t.check_eq, if_pos (by omega)]
  have hck : t.check = if t.formed then (if agree t.vars then 0 else 14) else 8 := by rw [t.check_eq, if_neg (by omega)]
  simp [vc_rf, Tm.bx]
  have hst : stopF nodeF 0 t.pre = if t.formed then (0, true) else (8, false) := by rw [stopF_node, t.pre_nodeP]
  refine RfVC.nodes (fun s : Int => [(0, t.bx), (1, .box [.pv (.int .i64 s)]), (2, t.bx)]) nodeF .ret (by simp) 0 t (by omega) (fun s => by simp [Tm.bx]) (fun l R hr => ?_) (fun s x => ?_) ?_
  · exact p_term_nodes_1 glob nodeF l R _ _ (fun _ => t.bx) (fun s => .box [.pv (.int .i64 s)]) t (by simp [Tm.bx, Ob.bel]) (by simp [Ob.bel]) (by simp) (by simp [Tm.bx]) (by simp) 0 hr
  · simp [Tm.bx]
    refine CallNext.pure (p_term_node x) fun _ => ?_
    by_cases hx : x.nodeP = true
    · simp [nodeF, exJump, hx]
      exact ⟨[0, 1, 2], by simp⟩
    · simp [nodeF, exJump, hx]
      exact ⟨[0, 1, 2], by simp⟩
  · rw [hst]
    by_cases hf : t.formed = true
    · simp [hf, Tm.bx]
      refine CallNext.obs [] (p_term_variables glob t) (by simp) (by simp) (by simp) (by simp) fun _ => ?_
      by_cases ha : agree t.vars = true
      · simp [varsDV, ha, hck, hf]
      · simp [varsDV, ha, hck, hf]
    · simp [hf, Tm.bx, hck]
end Go.Proofs.YthocoandbiaoiaaDoorV

namespace Go.Proofs.YthocoandbiaoiaaDoorV
open Go
set_option maxRecDepth 100000
set_option maxHeartbeats 4000000
theorem p_machine_within (gl : Glob) (n a b : Int) : PCall Tryd.prog gl 36 [.pv (.int .i64 n), .pv (.int .i64 a), .pv (.int .i64 b)] (.pv (.bool (inR n a b))) := by
  refine k_machine_within.pcall (by simp) (by simp) (by simp) fun hwf => ?_
  simp [c_machine_within, inR]
theorem p_slices_Max2 (gl : Glob) (a b : Int) : PCall Tryd.prog gl 77 [.pv (.lst 1 [.int .i64 a, .int .i64 b])] (.pv (.int .i64 (max a b))) := by
  refine k_slices_Max_int_int.pcall (by simp) (by simp) (by simp) fun hwf => ?_
  simp [c_slices_Max_int_int, nth]
  refine Loop.nat (fun i => { e := [(0, .pv (.lst 1 [.int .i64 a, .int .i64 b])), (3, .pv (.int .i64 (if i = 0 then a else max a b))), (4, .pv (.int .i64 (i + 1 : Nat)))], h := [], nx := 0 }) 1 (fun _ => True) (by simp) (by simp) (by simp) fun i hi hinv => ?_
  have hc : i = 0 ∨ i = 1 := by omega
  rcases hc with rfl | rfl
  · simp [nth, wrap_nat]
  · simp
theorem p_machine_fewer (gl : Glob) (a n : Int) : PCall Tryd.prog gl 56 [.pv (.int .i64 a), .flit 1 [.int .i64 n]] (.pv (.bool (decide (max n 0 ≤ a)))) := by
  refine k_machine_fewer.pcall (by simp) (by simp) (by simp) fun hwf => ?_
  simp [c_machine_fewer]
  refine CallNext.pure (p_slices_Max2 gl n 0) fun _ => ?_
  simp
theorem p_slices_Index_string (gl : Glob) (l : List ByteArray) (x : ByteArray) : PCall Tryd.prog gl 79 [.pv (.lst 1 (strs l)), .pv (.str x)] (.pv (.int .i64 (fstI (fun y => decide (x = y)) l))) := by
  refine k_slices_Index_string_string.pcall (by simp) (by simp) (by simp) fun hwf => ?_
  have hb : l.length ≤ 9223372036854775807 := by have := hwf (.pv (.lst 1 (strs l))) (by simp); simp [strs, maxLen] at this; exact this.1
  simp [c_slices_Index_string_string]
  refine Loop.nat (fun i => { e := [(0, .pv (.lst 1 (strs l))), (1, .pv (.str x)), (7, .pv (.int .i64 l.length)), (8, .pv (.int .i64 i))], h := [], nx := 0 }) l.length (fun i => ∀ j, j < i → decide (x = gt l (j : Nat)) = false) (by simp) (by simp) (by simp) fun i hi hinv => ?_
  by_cases hlt : i < l.length
  · simp [hlt]
    refine ⟨fun h => (fstI_some (by omega) (by simp [h]) hinv).symm, fun h => ⟨fun j hj => ?_, wrap_nat (by omega) (by omega)⟩⟩
    rcases Nat.lt_or_eq_of_le (Nat.le_of_lt_succ hj) with hj | rfl
    · simpa using hinv j hj
    · exact h
  · simp [hlt]
    exact (fstI_none fun j hj => hinv j (by omega)).symm
theorem p_slices_Contains_string (gl : Glob) (l : List ByteArray) (x : ByteArray) : PCall Tryd.prog gl 58 [.pv (.lst 1 (strs l)), .pv (.str x)] (.pv (.bool (l.any fun y => decide (x = y)))) := by
  refine k_slices_Contains_string_string.pcall (by simp) (by simp) (by simp) fun hwf => ?_
  simp [c_slices_Contains_string_string]
  refine CallNext.pure (p_slices_Index_string gl l x) fun _ => ?_
  simp [fstI_nonneg]
def nbox (j : Nat) (l : List ByteArray) : Ob := .box [.own j 1 (strs l)]
def freshB (l : List ByteArray) (s : ByteArray) : Bool := isName s && !l.any fun y => decide (s = y)
theorem p_names_fresh (gl : Glob) (l : List ByteArray) (s : ByteArray) (hl : l.length ≤ 1000) :
    ACall Tryd.prog gl (.func 40) 2 [.ptr 0 0, .pv (.str s)] [(0, nbox 1 l), (1, .tip 1 l.length)] (.pv (.bool (freshB l s))) [(0, nbox 1 (l ++ [s])), (1, .tip 1 (l.length + 1))] 2 := by
  refine k_machine_names_fresh.acall (by simp) (by simp) (by simp) (by simp [nbox]) (by simp) (by simp [nbox]) fun hwf => ?_
  simp [c_machine_names_fresh, nbox]
  refine CallNext.pure (p_bits_Name gl s) fun _ => ?_
  simp
  refine ⟨_, fun _ => .of (p_slices_Contains_string gl l s), by simp, ?_⟩
  simp [freshB]
  refine ⟨by omega, [0, 1], ?_⟩
  simp [strs]
theorem all_take {l : List Bool} {i : Nat} (h : i < l.length) : (l.take (i + 1)).all id = ((l.take i).all id && gt l (i : Nat)) := by
  rw [gt_nat h, List.take_succ_eq_append_getElem h, List.all_append]; simp
def cbox (m : Mach) (ok : Bool) : Ob := .box [.pv (.str m.name), .pv (.int .i64 m.word), .pv (.int .i64 m.address), .pv (.lst 4 (m.regs.map Reg.pv)), .pv (.lst 2 (m.banks.map Bank.pv)), .pv (.lst 2 (m.units.map Unt.pv)), .pv (.lst 9 (m.instrs.map Ins_.pv)), .pv (.bool ok)]
def bools (l : List Bool) : List PV := l.map .bool
theorem p_checker_must (gl : Glob) (m : Mach) (ok : Bool) (l : List Bool) :
    ACall Tryd.prog gl (.func 34) 1 [.ptr 0 0, .pv (.lst 1 (bools l))] [(0, cbox m ok)] (.tup []) [(0, cbox m (ok && l.all id))] 1 := by
  refine k_machine_checker_must.acall (by simp) (by simp) (by simp) (by simp [cbox]) (by simp) (by simp [cbox]) fun hwf => ?_
  have hb : l.length ≤ 9223372036854775807 := by have := hwf (.pv (.lst 1 (bools l))) (by simp); simp [bools, maxLen] at this; exact this.1
  simp [c_machine_checker_must, cbox, bools]
  refine Loop.nat (fun i => { e := [(0, .ptr 0 0), (6, .pv (.lst 1 (l.map .bool))), (7, .pv (.int .i64 l.length)), (8, .pv (.int .i64 i))], h := [(0, cbox m (ok && (l.take i).all id))], nx := 1 }) l.length (fun _ => True) (by simp) (by simp) (by simp [cbox]) fun i hi hinv => ?_
  by_cases hlt : i < l.length
  · simp [hlt, cbox, wrap_nat (show (0:Int) ≤ i + 1 by omega) (by omega)]
    rw [all_take hlt, Bool.and_assoc]
  · obtain rfl : i = l.length := by omega
    simp [cbox]
    exact ⟨[0], by simp⟩
end Go.Proofs.YthocoandbiaoiaaDoorV

namespace Go.Proofs.YthocoandbiaoiaaDoorV
open Go
set_option maxRecDepth 100000
set_option maxHeartbeats 4000000
theorem any_take {α : Type} [Inhabited α] {l : List α} {i : Nat} (h : i ≤ l.length) (p : α → Bool) : (!(l.take i).any p) = allB i fun k => !p (gt l (k : Nat)) := by
  induction i with
  | zero => simp
  | succ i ih =>
    have hi : i < l.length := by omega
    rw [List.take_succ_eq_append_getElem hi, List.any_append, Bool.not_or, ih (by omega), allB_succ, gt_nat hi]; simp
theorem fresh_take {α : Type} [Inhabited α] {l : List α} (f : α → ByteArray) {i : Nat} (h : i < l.length) : freshB ((l.map f).take i) (f (gt l (i : Nat))) = (isName (f (gt l (i : Nat))) && allB i fun k => !decide (f (gt l (k : Nat)) = f (gt l (i : Nat)))) := by
  rw [freshB, any_take (by simp; omega)]
  congr 1
  refine allB_congr fun k hk => ?_
  rw [gt_nat (show k < (l.map f).length by simp; omega), gt_nat (show k < l.length by omega)]
  simp [eq_comm]
theorem take_names {α : Type} [Inhabited α] {l : List α} (f : α → ByteArray) {i : Nat} (h : i < l.length) : (l.map f).take (i + 1) = (l.map f).take i ++ [f (gt l (i : Nat))] := by
  rw [List.take_succ_eq_append_getElem (by simpa using h), gt_nat h]; simp
theorem p_checker_regs (gl : Glob) (m : Mach) (ok : Bool) (hl : m.regs.length ≤ 500) :
    ACall Tryd.prog gl (.func 37) 1 [.ptr 0 0] [(0, cbox m ok)] (.tup []) [(0, cbox m (ok && okRegs m))] 1 := by
  refine k_machine_checker_regs.acall (by simp) (by simp) (by simp) (by simp [cbox]) (by simp) (by simp [cbox]) fun hwf => ?_
  simp [c_machine_checker_regs, cbox]
  refine CallNext.obs [0] (p_checker_must gl m ok [decide (0 < m.regs.length)]) (by simp) (by simp) (by simp [bools]) (by simp [cbox]) fun _ => ?_
  simp [cbox]
  refine Loop.nat (fun i => { e := [(0, .ptr 0 0), (2, .ptr 1 0), (20, .pv (.lst 4 (m.regs.map Reg.pv))), (21, .pv (.int .i64 m.regs.length)), (22, .pv (.int .i64 i))], h := [(0, cbox m (ok && (decide (0 < m.regs.length) && allB i (rgOk m)))), (1, nbox 2 ((m.regs.map (·.name)).take i)), (2, .tip 1 i)], nx := 3 }) m.regs.length (fun _ => True) (by simp [cbox]) (by simp) (by simp [cbox, nbox, strs]) fun i hi hinv => ?_
  by_cases hlt : i < m.regs.length
  · simp [hlt, cbox, wrap_nat (show (0:Int) ≤ i + 1 by omega) (by omega)]
    have hlen : ((m.regs.map (·.name)).take i).length = i := by simp; omega
    refine DCallNext.obs' [1, 2] (p_names_fresh gl ((m.regs.map (·.name)).take i) (gt m.regs i).name (by rw [hlen]; omega)) rfl (by simp) (by simp) (by simp) (by simp) (by simp [nbox, hlen]) ?_
    simp [nbox, hlen]
    refine DCallNext.pure (p_machine_within gl _ _ _) ?_
    simp
    refine DCallNext.obs' [0] (p_checker_must gl m _ [_, _]) rfl (by simp) (by simp) (by simp [bools]; exact ⟨rfl, rfl⟩) (by simp) (by simp [cbox]; rfl) ?_
    simp [cbox]
    rw [fresh_take _ hlt, ← take_names _ hlt]
    have hw1 : IntKind.i64.wrap ((i : Int) + 1) = (i : Int) + 1 := wrap_nat (by omega) (by omega)
    have hne : m.regs ≠ [] := by intro h; simp [h] at hlt
    refine ⟨fun hof => ?_, fun hof => ?_⟩
    · refine CallNext.obs [0] (p_checker_must gl m _ [_]) (by simp) (by simp) (by simp [bools]; rfl) (by simp [cbox]; rfl) fun _ => ?_
      simp [cbox, hlt, hw1]
      rw [allB_succ]
      simp [rgOk, hof]
      ac_rfl
    · refine DCallNext.pure (p_machine_within gl _ _ _) ?_
      simp
      rw [wrap_i64 (by omega) (by omega)]
      refine ⟨fun hout => ?_, fun hin => ?_⟩
      · refine CallNext.obs [0] (p_checker_must gl m _ [_]) (by simp) (by simp) (by simp [bools]; rfl) (by simp [cbox]; rfl) fun _ => ?_
        simp [cbox]
        refine ⟨hlt, hw1, fun _ _ => ?_⟩
        rw [allB_succ]
        simp [rgOk, hof, hout]
      · have hin' : 0 ≤ (gt m.regs (i : Nat)).of ∧ (gt m.regs (i : Nat)).of ≤ (m.regs.length : Int) - 1 := by simpa [inR] using hin
        simp [hne]
        refine ⟨by omega, ?_⟩
        refine DCallNext.pure (p_machine_within gl _ _ _) ?_
        simp
        refine DCallNext.pure (p_machine_within gl _ _ _) ?_
        simp
        refine DCallNext.obs' [0] (p_checker_must gl m _ [_, _, _, _]) rfl (by simp) (by simp) (by simp [bools]; exact ⟨rfl, rfl, rfl, rfl⟩) (by simp) (by simp [cbox]; rfl) ?_
        simp [cbox]
        refine ⟨hlt, hw1, ?_⟩
        rw [allB_succ]
        simp only [rgOk, hof, if_false, hin]
        by_cases hA : inR (gt m.regs (gt m.regs (i : Nat)).of).width 1 64 = true
        · by_cases hB : inR (gt m.regs (i : Nat)).width 1 64 = true
          · rw [wrap_i64 (by simp [inR] at hA hB; omega) (by simp [inR] at hA hB; omega)]
            simp [hA, hB]
            ac_rfl
          · simp [hB]
        · simp [hA]
  · obtain rfl : i = m.regs.length := by omega
    simp [cbox, okRegs]
    exact ⟨[0], by simp [Bool.and_comm]⟩
theorem p_checker_units (gl : Glob) (m : Mach) (ok : Bool) (hl : m.units.length ≤ 500) :
    ACall Tryd.prog gl (.func 39) 1 [.ptr 0 0] [(0, cbox m ok)] (.tup []) [(0, cbox m (ok && okUnits m))] 1 := by
  refine k_machine_checker_units.acall (by simp) (by simp) (by simp) (by simp [cbox]) (by simp) (by simp [cbox]) fun hwf => ?_
  simp [c_machine_checker_units, cbox]
  refine CallNext.obs [0] (p_checker_must gl m ok [decide (0 < m.units.length)]) (by simp) (by simp) (by simp [bools]) (by simp [cbox]) fun _ => ?_
  simp [cbox]
  refine Loop.nat (fun i => { e := [(0, .ptr 0 0), (2, .ptr 1 0), (19, .pv (.lst 2 (m.units.map Unt.pv))), (20, .pv (.int .i64 m.units.length)), (21, .pv (.int .i64 i))], h := [(0, cbox m (ok && (decide (0 < m.units.length) && allB i (unitOk m)))), (1, nbox 2 ((m.units.map (·.name)).take i)), (2, .tip 1 i)], nx := 3 }) m.units.length (fun _ => True) (by simp [cbox]) (by simp) (by simp [cbox, nbox, strs]) fun i hi hinv => ?_
  by_cases hlt : i < m.units.length
  · have hw1 : IntKind.i64.wrap ((i : Int) + 1) = (i : Int) + 1 := wrap_nat (by omega) (by omega)
    have hlen : ((m.units.map (·.name)).take i).length = i := by simp; omega
    simp [hlt, cbox]
    refine DCallNext.obs' [1, 2] (p_names_fresh gl ((m.units.map (·.name)).take i) (gt m.units i).name (by rw [hlen]; omega)) rfl (by simp) (by simp) (by simp) (by simp) (by simp [nbox, hlen]) ?_
    simp [nbox, hlen]
    refine DCallNext.pure (p_machine_within gl _ _ _) ?_
    simp
    refine DCallNext.obs' [0] (p_checker_must gl m _ [_, _]) rfl (by simp) (by simp) (by simp [bools]; exact ⟨rfl, rfl⟩) (by simp) (by simp [cbox]; rfl) ?_
    simp [cbox, hlt, hw1]
    rw [fresh_take _ hlt, ← take_names _ hlt, allB_succ]
    simp [unitOk]
    ac_rfl
  · obtain rfl : i = m.units.length := by omega
    simp [cbox, okUnits]
    exact ⟨[0], by simp [Bool.and_comm]⟩
@[simp] theorem ints_take {l : List Int} {n : Nat} : (ints l).take n = ints (l.take n) := by simp [ints, List.map_take]
theorem p_checker_banks (gl : Glob) (m : Mach) (ok : Bool) (hl : m.banks.length ≤ 500) (hr : m.regs.length ≤ 500) (hbl : ∀ b ∈ m.banks, b.regs.length ≤ 500) :
    ACall Tryd.prog gl (.func 38) 1 [.ptr 0 0] [(0, cbox m ok)] (.tup []) [(0, cbox m (ok && okBanks m))] 1 := by
  refine k_machine_checker_banks.acall (by simp) (by simp) (by simp) (by simp [cbox]) (by simp) (by simp [cbox]) fun hwf => ?_
  simp [c_machine_checker_banks, cbox]
  refine Loop.nat (fun i => { e := [(0, .ptr 0 0), (2, .ptr 1 0), (11, .pv (.lst 2 (m.banks.map Bank.pv))), (12, .pv (.int .i64 m.banks.length)), (13, .pv (.int .i64 i))], h := [(0, cbox m (ok && allB i (bankOk m))), (1, nbox 2 ((m.banks.map (·.name)).take i)), (2, .tip 1 i)], nx := 3 }) m.banks.length (fun _ => True) (by simp [cbox]) (by simp) (by simp [cbox, nbox, strs]) fun i hi hinv => ?_
  by_cases hlt : i < m.banks.length
  · have hw1 : IntKind.i64.wrap ((i : Int) + 1) = (i : Int) + 1 := wrap_nat (by omega) (by omega)
    have hlen : ((m.banks.map (·.name)).take i).length = i := by simp; omega
    simp [hlt, cbox]
    refine DCallNext.obs' [1, 2] (p_names_fresh gl ((m.banks.map (·.name)).take i) (gt m.banks i).name (by rw [hlen]; omega)) rfl (by simp) (by simp) (by simp) (by simp) (by simp [nbox, hlen]) ?_
    simp [nbox, hlen]
    refine DCallNext.obs' [0] (p_checker_must gl m _ [_, _]) rfl (by simp) (by simp) (by simp [bools]; exact ⟨rfl, rfl⟩) (by simp) (by simp [cbox]; rfl) ?_
    simp [cbox]
    rw [fresh_take _ hlt, ← take_names _ hlt]
    have hbl' : (gt m.banks (i : Nat)).regs.length ≤ 500 := hbl _ (gt_mem (by omega) (by omega))
    generalize hb : gt m.banks (i : Nat) = b at *
    let q : Nat → Bool := fun k => inR (gt b.regs (k : Nat)) 0 (m.regs.length - 1) && allB k (fun j => !decide (gt b.regs (j : Nat) = gt b.regs (k : Nat))) && decide ((gt m.regs (gt b.regs (k : Nat))).width = (gt m.regs (gt b.regs 0)).width)
    let A : Bool := isName b.name && (allB i fun k => !decide ((gt m.banks (k : Nat)).name = b.name))
    have hq : bankOk m i = (A && decide (0 < b.regs.length) && allB b.regs.length q) := by
      simp only [bankOk, hb, A, q]; ac_rfl
    refine Loop.nat (fun k => { e := [(0, .ptr 0 0), (2, .ptr 1 0), (4, .ptr 3 0), (11, .pv (.lst 2 (m.banks.map Bank.pv))), (12, .pv (.int .i64 m.banks.length)), (13, .pv (.int .i64 i)), (28, .pv (.lst 1 (ints b.regs))), (29, .pv (.int .i64 b.regs.length)), (30, .pv (.int .i64 k))], h := [(0, cbox m (ok && allB i (bankOk m) && (A && decide (0 < b.regs.length)) && allB k q)), (1, nbox 2 ((m.banks.map (·.name)).take (i + 1))), (2, .tip 1 (i + 1)), (3, b.bx)], nx := 14 }) b.regs.length (fun _ => True) (by simp [cbox, Bank.bx]) (by simp) (by simp [cbox, nbox, Bank.bx, A]) fun k hk hinv => ?_
    by_cases hkt : k < b.regs.length
    · have hw2 : IntKind.i64.wrap ((k : Int) + 1) = (k : Int) + 1 := wrap_nat (by omega) (by omega)
      simp [hkt, cbox, Bank.bx]
      have hbne : b.regs ≠ [] := by intro h; simp [h] at hkt
      have hnc : (!(b.regs.take k).any fun y => decide (gt b.regs (k : Nat) = y)) = allB k (fun j => !decide (gt b.regs (j : Nat) = gt b.regs (k : Nat))) := by
        rw [any_take (by omega)]; exact allB_congr fun j hj => by simp [eq_comm]
      refine DCallNext.pure (p_machine_within gl _ _ _) ?_
      simp
      rw [wrap_i64 (by omega) (by omega)]
      refine ⟨by omega, DCallNext.pure (p_slices_Contains_int_int gl _ _) ?_⟩
      simp only [hnc, dvc_nil, d_un, dnext_some, stp_un, evs, ev, eget, eput, DV.strip, if_true]
      simp [hnc]
      refine DCallNext.obs' [0] (p_checker_must gl m _ [_, _]) rfl (by simp) (by simp) (by simp [bools]; exact ⟨rfl, rfl⟩) (by simp) (by simp [cbox]; rfl) ?_
      simp [cbox]
      refine ⟨fun h1 h2 h3 h4 h5 h6 h7 => ?_, fun hno => ?_⟩
      · have h6' : 0 ≤ gt b.regs (k : Nat) ∧ gt b.regs (k : Nat) ≤ (m.regs.length : Int) - 1 := by simpa [inR] using h6
        have hmne : m.regs ≠ [] := by intro h; simp [h] at h6'; omega
        have h0' : 0 ≤ gt b.regs 0 ∧ gt b.regs 0 ≤ (m.regs.length : Int) - 1 := by
          rcases Nat.eq_zero_or_pos k with rfl | hk0
          · simpa using h6'
          · have := allB_true.1 h5 0 hk0
            simp [q] at this
            simpa [inR] using this
        simp [hmne, hbne]
        refine ⟨by omega, by omega, by omega, ?_⟩
        refine DCallNext.obs' [0] (p_checker_must gl m _ [_]) rfl (by simp) (by simp) (by simp [bools]; rfl) (by simp) (by simp [cbox]; rfl) ?_
        simp [cbox, Bank.bx, hkt, hw2]
        refine ⟨by simp [nbox], ?_⟩
        rw [allB_succ]
        simp only [q]
        ac_rfl
      · simp [cbox, Bank.bx, hkt, hw2]
        refine ⟨by simp [nbox], ?_⟩
        have hX : ∀ w : Bool, (ok && allB i (bankOk m) && (A && decide (0 < b.regs.length)) && allB k q && (inR (gt b.regs (k : Nat)) 0 (m.regs.length - 1) && (allB k fun j => !decide (gt b.regs (j : Nat) = gt b.regs (k : Nat))) && w)) = false := fun w => by
          rw [Bool.eq_false_iff]; intro h
          simp only [Bool.and_eq_true, decide_eq_true_eq] at h
          obtain ⟨⟨⟨⟨h1, h2⟩, h3, h4⟩, h5⟩, ⟨h6, h7⟩, -⟩ := h
          have := hno h1 h2 h3 h4 h5 h6
          rw [h7] at this; simp at this
        have e1 := hX true
        rw [Bool.and_true] at e1
        rw [allB_succ, e1]
        have e2 := hX (decide ((gt m.regs (gt b.regs (k : Nat))).width = (gt m.regs (gt b.regs 0)).width))
        rw [← e2]; simp only [q]; ac_rfl
    · obtain rfl : k = b.regs.length := by omega
      simp [cbox, hlt, hw1, nbox]
      rw [allB_succ, hq]; simp [Bool.and_assoc]
  · obtain rfl : i = m.banks.length := by omega
    simp [cbox, okBanks]
    exact ⟨[0], by simp⟩
end Go.Proofs.YthocoandbiaoiaaDoorV

namespace Go.Proofs.YthocoandbiaoiaaDoorV
open Go
set_option maxHeartbeats 1000000
theorem wrap_u64 {n : Int} (h0 : 0 ≤ n) (h : n < 18446744073709551616) : IntKind.u64.wrap n = n := wrap_id (by simp [IntKind.min, IntKind.signed]; omega) (by simp [IntKind.max, IntKind.signed, IntKind.bits]; omega)
theorem u64_bits : IntKind.u64.bits = 64 := rfl
theorem bv_ofNat {a : Nat} (h : a < 2 ^ 64) : (BitVec.ofInt 64 (a : Int)).toNat = a := by
  rw [BitVec.toNat_ofInt]; omega
theorem and_u64 {a b : Nat} (ha : a < 2 ^ 64) (hb : b < 2 ^ 64) : bandI .u64 (a : Int) (b : Int) = ((a &&& b : Nat) : Int) := by
  rw [bandI, u64_bits, BitVec.toNat_and, bv_ofNat ha, bv_ofNat hb]
  have := Nat.and_lt_two_pow a hb
  exact wrap_u64 (by omega) (by omega)
theorem or_u64 {a b : Nat} (ha : a < 2 ^ 64) (hb : b < 2 ^ 64) : borI .u64 (a : Int) (b : Int) = ((a ||| b : Nat) : Int) := by
  rw [borI, u64_bits, BitVec.toNat_or, bv_ofNat ha, bv_ofNat hb]
  have := Nat.or_lt_two_pow ha hb
  exact wrap_u64 (by omega) (by omega)
theorem andNot_u64 {a b : Nat} (ha : a < 2 ^ 64) (hb : b < 2 ^ 64) : bandNotI .u64 (a : Int) (b : Int) = ((a &&& (2 ^ 64 - 1 - b) : Nat) : Int) := by
  rw [bandNotI, u64_bits, BitVec.toNat_and, BitVec.toNat_not, bv_ofNat ha, bv_ofNat hb]
  have := Nat.and_lt_two_pow a (show 2 ^ 64 - 1 - b < 2 ^ 64 by omega)
  exact wrap_u64 (by omega) (by omega)
def pmask (p : Piece) : Nat := (2 ^ p.len.toNat - 1) * 2 ^ p.at_.toNat
def takenN (ps : List Piece) : Nat → Nat
  | 0 => 0
  | n + 1 => takenN ps n ||| pmask (gt ps (n : Nat))
def rngOk (word : Int) (ps : List Piece) (j : Nat) : Bool := inR (gt ps (j : Nat)).len 1 (8 * word) && inR (gt ps (j : Nat)).at_ 0 (8 * word - (gt ps (j : Nat)).len)
def pcOk (word : Int) (ps : List Piece) (j : Nat) : Bool := rngOk word ps j && decide (takenN ps j &&& pmask (gt ps (j : Nat)) = 0)
theorem pmask_lt {word : Int} {ps : List Piece} {j : Nat} (hw : 1 ≤ word ∧ word ≤ 4) (h1 : inR (gt ps (j : Nat)).len 1 (8 * word) = true) (h2 : inR (gt ps (j : Nat)).at_ 0 (8 * word - (gt ps (j : Nat)).len) = true) : pmask (gt ps (j : Nat)) < 2 ^ 32 := by
  simp [inR] at h1 h2
  generalize gt ps (j : Nat) = p at *
  unfold pmask
  have hle : p.len.toNat + p.at_.toNat ≤ 32 := by omega
  have h3 : 2 ^ p.len.toNat * 2 ^ p.at_.toNat ≤ 2 ^ 32 := by rw [← Nat.pow_add]; exact Nat.pow_le_pow_right (by omega) hle
  have h4 : 0 < 2 ^ p.at_.toNat := Nat.pow_pos (by omega)
  rw [Nat.sub_mul]
  omega
theorem takenN_lt {word : Int} {ps : List Piece} (hw : 1 ≤ word ∧ word ≤ 4) : ∀ (n : Nat), (∀ j, j < n → rngOk word ps j = true) → takenN ps n < 2 ^ 32
  | 0, _ => by simp [takenN]
  | n + 1, h => by
    rw [takenN]
    have h1 := h n (by omega)
    simp only [rngOk, Bool.and_eq_true] at h1
    exact Nat.or_lt_two_pow (takenN_lt hw n fun j hj => h j (by omega)) (pmask_lt hw h1.1 h1.2)
theorem fieldN_le {word : Int} {ps : List Piece} (hw : 1 ≤ word ∧ word ≤ 4) : ∀ (n : Nat), n ≤ 500 → (∀ j, j < n → rngOk word ps j = true) → 0 ≤ fieldN ps n ∧ fieldN ps n ≤ 32 * n
  | 0, _, _ => by simp [fieldN]
  | n + 1, hn, h => by
    have h1 := fieldN_le hw n (by omega) fun j hj => h j (by omega)
    have h2 := h n (by omega)
    simp only [rngOk, Bool.and_eq_true] at h2
    have h3 : 1 ≤ (gt ps (n : Nat)).len ∧ (gt ps (n : Nat)).len ≤ 8 * word := by simpa [inR] using h2.1
    rw [fieldN, wrap_i64 (by omega) (by omega)]
    omega
theorem shl_one : ∀ n : Nat, n < 63 → shlI .i64 1 (n : Int) = 2 ^ n := by decide
theorem maskI_nat {w : Int} (h : 1 ≤ w ∧ w ≤ 64) : maskI w = ((2 ^ w.toNat - 1 : Nat) : Int) := by
  have hb : wideB w = true := by simp [wideB, inR]; omega
  have : 0 < 2 ^ w.toNat := Nat.pow_pos (by omega)
  simp only [maskI, hb, if_true]
  rw [Int.ofNat_sub (by omega)]
  simp
theorem shl_mask {p : Piece} {word : Int} (hw : 1 ≤ word ∧ word ≤ 4) (h1 : 1 ≤ p.len ∧ p.len ≤ 8 * word) (h2 : 0 ≤ p.at_ ∧ p.at_ ≤ 8 * word - p.len) : shlI .u64 (maskI p.len) p.at_ = (pmask p : Int) := by
  rw [shlI, maskI_nat (by omega)]
  have e1 : min p.at_.toNat IntKind.u64.bits = p.at_.toNat := by rw [u64_bits]; omega
  rw [e1]
  have e2 : ((2 ^ p.len.toNat - 1 : Nat) : Int) * 2 ^ p.at_.toNat = ((pmask p : Nat) : Int) := by unfold pmask; push_cast; rfl
  rw [e2]
  have := pmask_lt (word := word) (ps := [p]) (j := 0) hw (by simp [gt, inR]; omega) (by simp [gt, inR]; omega)
  simp [gt] at this
  exact wrap_u64 (by omega) (by omega)
end Go.Proofs.YthocoandbiaoiaaDoorV

namespace Go.Proofs.YthocoandbiaoiaaDoorV
open Go
set_option maxRecDepth 100000
set_option maxHeartbeats 4000000
theorem p_machine_field (gl : Glob) (o : Opnd) : PCall Tryd.prog gl 81 [.pv o.pv] (.pv (.int .i64 (fieldI o))) := by
  refine k_machine_field.pcall (by simp) (by simp) (by simp) fun hwf => ?_
  have hb : o.pieces.length ≤ 9223372036854775807 := by have := hwf (.pv o.pv) (by simp); simp only [DV.wf] at this; rw [Opnd.wf_pv] at this; simp [-Opnd.fold, maxLen] at this; exact this.2.2.2.2.1.1
  simp [c_machine_field]
  refine Loop.nat (fun i => { e := [(2, .pv (.int .i64 (fieldN o.pieces i))), (6, .pv (.lst 2 (o.pieces.map Piece.pv))), (7, .pv (.int .i64 o.pieces.length)), (8, .pv (.int .i64 i))], h := [(0, o.bx)], nx := 1 }) o.pieces.length (fun _ => True) (by simp [Opnd.bx]) (by simp) (by simp [Opnd.bx, fieldN]) fun i hi hinv => ?_
  by_cases hlt : i < o.pieces.length
  · simp [hlt, Opnd.bx, fieldN, wrap_nat (show (0:Int) ≤ i + 1 by omega) (by omega)]
  · obtain rfl : i = o.pieces.length := by omega
    simp [fieldI]
theorem p_machine_wide (gl : Glob) (m : Mach) (o : Opnd) (h : o.kind = 1 → (0 ≤ o.bank ∧ o.bank < m.banks.length) ∧ (gt m.banks o.bank).regs ≠ [] ∧ 0 ≤ gt (gt m.banks o.bank).regs 0 ∧ gt (gt m.banks o.bank).regs 0 < m.regs.length) : PCall Tryd.prog gl 82 [.pv m.pv, .pv o.pv] (.pv (.int .i64 (wideI m o))) := by
  refine k_machine_wide.pcall (by simp) (by simp) (by simp) fun hwf => ?_
  by_cases hk : o.kind = 1
  · obtain ⟨h1, h2, h3⟩ := h hk
    have hb : m.banks ≠ [] := by intro hh; simp [hh] at h1; omega
    have hr : m.regs ≠ [] := by intro hh; simp [hh] at h3; omega
    simp [c_machine_wide, hk, hb, hr, h2, wideI]
    have : 0 < (gt m.banks o.bank).regs.length := by cases hh : (gt m.banks o.bank).regs <;> simp_all
    omega
  · simp [c_machine_wide, hk, wideI]
def kindOk (m : Mach) (s : Ins_) (i : Nat) : Bool :=
  let o := gt s.operands (i : Nat)
  if o.kind = 1 then
    inR o.bank 0 (m.banks.length - 1) && decide (o.scale = 0) &&
    if o.tied = -1 then decide (0 < fieldI o) && (decide (6 < fieldI o) || decide (((gt m.banks o.bank).regs.length : Int) ≤ 2 ^ (fieldI o).toNat))
    else inR o.tied 0 (i - 1) && decide (o.pieces.length = 0) && (let t := gt s.operands o.tied; decide (t.kind = 1) && decide (t.bank = o.bank) && decide (t.tied = -1))
  else if o.kind = 2 ∨ o.kind = 3 ∨ o.kind = 4 then decide (o.bank = 0) && decide (o.tied = -1) && inR o.scale 0 3 && decide (0 < fieldI o) && decide (fieldI o + o.scale ≤ m.address)
  else false
def opOk (m : Mach) (s : Ins_) (i : Nat) : Bool := allB (gt s.operands (i : Nat)).pieces.length (pcOk m.word (gt s.operands (i : Nat)).pieces) && kindOk m s i
def opTaken (m : Mach) (ok : Bool) (s : Ins_) (i : Nat) : Nat :=
  let o := gt s.operands (i : Nat)
  if allB o.pieces.length (fun j => ok && allB j (pcOk m.word o.pieces) && rngOk m.word o.pieces j) then
    (if o.kind = 1 ∧ ¬ (ok && allB o.pieces.length (pcOk m.word o.pieces) && (inR o.bank 0 (m.banks.length - 1) && decide (o.scale = 0))) = true then 0 else takenN o.pieces o.pieces.length) else 0
theorem opTaken_lt {m : Mach} {ok : Bool} {s : Ins_} {i : Nat} (hw : ok = true → 1 ≤ m.word ∧ m.word ≤ 4) : opTaken m ok s i < 2 ^ 32 := by
  unfold opTaken
  simp only
  split
  · rename_i h
    split
    · omega
    · rcases Nat.eq_zero_or_pos (gt s.operands (i : Nat)).pieces.length with h0 | h0
      · rw [h0]; simp [takenN]
      · have := allB_true.1 h 0 h0
        simp only [Bool.and_eq_true] at this
        exact takenN_lt (hw this.1.1) _ fun j hj => by have := allB_true.1 h j hj; simp only [Bool.and_eq_true] at this; exact this.2
  · omega
theorem opTaken_eq {m : Mach} {ok : Bool} {s : Ins_} {i : Nat} (h : (ok && opOk m s i) = true) : opTaken m ok s i = takenN (gt s.operands (i : Nat)).pieces (gt s.operands (i : Nat)).pieces.length := by
  simp only [opOk, Bool.and_eq_true] at h
  obtain ⟨h1, h2, h3⟩ := h
  unfold opTaken
  simp only
  rw [if_pos (allB_true.2 fun j hj => ?_), if_neg]
  · rintro ⟨hk, hn⟩
    apply hn
    simp only [kindOk, hk, if_true, Bool.and_eq_true] at h3
    simp only [h1, h2, Bool.and_eq_true, h3.1.1, h3.1.2, and_self]
  · have h4 := allB_true.1 h2
    have := h4 j hj
    simp only [pcOk, Bool.and_eq_true] at this
    simp only [h1, this.1, Bool.and_true, Bool.true_and]
    exact allB_true.2 fun k hk => h4 k (by omega)
theorem p_checker_operand (gl : Glob) (m : Mach) (ok : Bool) (s : Ins_) (i : Nat) (hi : i < s.operands.length) (hw : ok = true → 1 ≤ m.word ∧ m.word ≤ 4) (hil : s.operands.length ≤ 500) (hb : m.banks.length ≤ 500) (hp : (gt s.operands (i : Nat)).pieces.length ≤ 500) :
    ACall Tryd.prog gl (.func 60) 1 [.ptr 0 0, .pv s.pv, .pv (.int .i64 i)] [(0, cbox m ok)] (.pv (.int .u64 (opTaken m ok s i))) [(0, cbox m (ok && opOk m s i))] 1 := by
  refine k_machine_checker_operand.acall (by simp) (by simp) (by simp) (by simp [cbox]) (by simp) (by simp [cbox]) fun hwf => ?_
  simp [c_machine_checker_operand, cbox, hi]
  generalize ho : gt s.operands (i : Nat) = o at *
  let R : Nat → Bool := fun j => ok && allB j (pcOk m.word o.pieces) && rngOk m.word o.pieces j
  have hT : opTaken m ok s i = if allB o.pieces.length R then (if o.kind = 1 ∧ ¬ (ok && allB o.pieces.length (pcOk m.word o.pieces) && (inR o.bank 0 (m.banks.length - 1) && decide (o.scale = 0))) = true then 0 else takenN o.pieces o.pieces.length) else 0 := by unfold opTaken; rw [ho]
  have hO : opOk m s i = (allB o.pieces.length (pcOk m.word o.pieces) && kindOk m s i) := by unfold opOk; rw [ho]
  refine Loop.nat (fun j => { e := [(0, .ptr 0 0), (2, .pv (.int .i64 i)), (4, .ptr 1 0), (6, .pv (.int .u64 (takenN o.pieces j : Nat))), (7, .ptr 2 0), (20, .pv (.lst 2 (o.pieces.map Piece.pv))), (21, .pv (.int .i64 o.pieces.length)), (22, .pv (.int .i64 j))], h := [(0, cbox m (ok && allB j (pcOk m.word o.pieces))), (1, s.bx), (2, o.bx)], nx := 3 }) o.pieces.length (fun j => allB j R = true) (by simp [cbox, Ins_.bx, Opnd.bx]) (by simp) (by simp [cbox, takenN, Ins_.bx, Opnd.bx]) fun j hj hinv => ?_
  by_cases hlt : j < o.pieces.length
  · have hw1 : IntKind.i64.wrap ((j : Int) + 1) = (j : Int) + 1 := wrap_nat (by omega) (by omega)
    simp [hlt, cbox]
    refine DCallNext.pure (p_machine_within gl _ _ _) ?_
    simp
    refine DCallNext.obs' [0] (p_checker_must gl m _ [_, _, _]) rfl (by simp) (by simp) (by simp [bools]; exact ⟨rfl, rfl, rfl⟩) (by simp) (by simp [cbox]; rfl) ?_
    simp [cbox]
    refine ⟨fun hno => ?_, fun g1 g2 g3 g4 g5 => ?_⟩
    · have hRj : R j = false := by
        rw [Bool.eq_false_iff]; intro h
        simp only [R, Bool.and_eq_true, rngOk] at h
        obtain ⟨⟨h1, h2⟩, h3, h4⟩ := h
        have hww := hw h1
        have h3' : 1 ≤ (gt o.pieces (j : Nat)).len ∧ (gt o.pieces (j : Nat)).len ≤ 8 * m.word := by simpa [inR] using h3
        have h4' : 0 ≤ (gt o.pieces (j : Nat)).at_ ∧ (gt o.pieces (j : Nat)).at_ ≤ 8 * m.word - (gt o.pieces (j : Nat)).len := by simpa [inR] using h4
        rw [wrap_i64 (n := 8 * m.word) (by omega) (by omega), wrap_i64 (by omega) (by omega), h3, h1, h2] at hno
        simp at hno
        omega
      have hf := allB_false hlt hRj
      have hf2 : (ok && opOk m s i) = false := by
        rw [Bool.eq_false_iff]; intro h
        rw [hO] at h
        simp only [Bool.and_eq_true] at h
        have h4 := allB_true.1 h.2.1
        have h5 : R j = true := by
          have := h4 j hlt
          simp only [pcOk, Bool.and_eq_true] at this
          simp only [R, h.1, this.1, Bool.and_true, Bool.true_and]
          exact allB_true.2 fun k hk => h4 k (by omega)
        rw [hRj] at h5; simp at h5
      rw [hT, if_neg (by simp [hf]), hf2]
      refine ⟨rfl, [0], ?_⟩
      simp
      intro a1 a2 a3 a4
      rcases hno with (h | h) | h | h | h
      · simp [a1] at h
      · simp [a2] at h
      · simp [a3] at h
      · omega
      · exact h
    · have hww := hw g1
      have e8 : IntKind.i64.wrap (8 * m.word) = 8 * m.word := wrap_i64 (by omega) (by omega)
      rw [e8] at g3 g5
      have hA : 1 ≤ (gt o.pieces (j : Nat)).len ∧ (gt o.pieces (j : Nat)).len ≤ 8 * m.word := by simpa [inR] using g3
      rw [wrap_i64 (by omega) (by omega)] at g5
      have hR : ∀ k, k < j → rngOk m.word o.pieces k = true := fun k hk => by have := allB_true.1 hinv k hk; simp only [R, Bool.and_eq_true] at this; exact this.2
      have hrj : rngOk m.word o.pieces j = true := by simp [rngOk, g3]; simp [inR, g4, g5]
      have ht := takenN_lt hww j hR
      have ht2 := takenN_lt hww (j + 1) fun k hk => by rcases Nat.lt_or_eq_of_le (Nat.le_of_lt_succ hk) with hk | rfl; exact hR k hk; exact hrj
      have hpm : pmask (gt o.pieces (j : Nat)) < 2 ^ 32 := pmask_lt (word := m.word) hww g3 (by simp [inR, g4, g5])
      refine DCallNext.pure (p_bits_Mask gl _) ?_
      simp
      rw [shl_mask hww hA ⟨g4, g5⟩, and_u64 (by omega) (by omega)]
      refine ⟨g4, CallNext.obs [0] (p_checker_must gl m _ [_]) (by simp) (by simp) (by simp [bools]; rfl) (by simp [cbox]; rfl) fun _ => ?_⟩
      have hRj : R j = true := by simp [R, g1, g2, hrj]
      have hpj : pcOk m.word o.pieces j = decide (takenN o.pieces j &&& pmask (gt o.pieces (j : Nat)) = 0) := by simp [pcOk, hrj]
      have hwl : inR (gt o.pieces (j : Nat)).len 1 (8 * m.word) = true := g3
      simp [cbox, hlt, hw1, or_u64 (show takenN o.pieces j < 2 ^ 64 by omega) (show pmask (gt o.pieces (j : Nat)) < 2 ^ 64 by omega), allB_succ, hinv, hRj, hpj, takenN, g1, g2, e8, hwl, g4, Ins_.bx, Opnd.bx, wrap_i64 (n := 8 * m.word - (gt o.pieces (j : Nat)).len) (by omega) (by omega), g5]
  · obtain rfl : j = o.pieces.length := by omega
    rw [if_pos hinv] at hT
    have hfield : ok = true → allB o.pieces.length (pcOk m.word o.pieces) = true → 0 ≤ fieldI o ∧ fieldI o ≤ 16000 := fun h1 h2 => by
      have := fieldN_le (hw h1) o.pieces.length hp fun k hk => by have := allB_true.1 h2 k hk; simp only [pcOk, Bool.and_eq_true] at this; exact this.1
      unfold fieldI; omega
    by_cases hk1 : o.kind = 1
    · simp [cbox, hk1, Opnd.bx]
      refine DCallNext.pure (p_machine_within gl _ _ _) ?_
      simp
      rw [wrap_i64 (by omega) (by omega)]
      refine DCallNext.obs' [0] (p_checker_must gl m _ [_, _]) rfl (by simp) (by simp) (by simp [bools]; exact ⟨rfl, rfl⟩) (by simp) (by simp [cbox]; rfl) ?_
      simp [cbox]
      have hkd : kindOk m s i = (inR o.bank 0 (m.banks.length - 1) && decide (o.scale = 0) &&
          if o.tied = -1 then decide (0 < fieldI o) && (decide (6 < fieldI o) || decide (((gt m.banks o.bank).regs.length : Int) ≤ 2 ^ (fieldI o).toNat))
          else inR o.tied 0 (i - 1) && decide (o.pieces.length = 0) && (let t := gt s.operands o.tied; decide (t.kind = 1) && decide (t.bank = o.bank) && decide (t.tied = -1))) := by simp only [kindOk, ho, hk1, if_true]
      refine ⟨fun hno => ?_, fun a1 a2 a3 a4 => ?_⟩
      · have hX : (ok && allB o.pieces.length (pcOk m.word o.pieces) && (inR o.bank 0 (m.banks.length - 1) && decide (o.scale = 0))) = false := by
          rw [Bool.eq_false_iff]; intro h
          simp only [Bool.and_eq_true, decide_eq_true_eq] at h
          obtain ⟨⟨h1, h2⟩, h3, h4⟩ := h
          rcases hno with (h | h) | h | h
          · simp [h1] at h
          · simp [h2] at h
          · simp [h3] at h
          · exact h h4
        have hz : opTaken m ok s i = 0 := by rw [hT, if_pos ⟨hk1, by simp [hX]⟩]
        have hY : (ok && opOk m s i) = false := by
          rw [Bool.eq_false_iff] at hX ⊢
          intro h; apply hX
          rw [hO, hkd] at h
          simp only [Bool.and_eq_true] at h ⊢
          exact ⟨⟨h.1, h.2.1⟩, h.2.2.1⟩
        rw [hz, hY, hX]
        exact ⟨rfl, [0], by simp⟩
      · have hz : opTaken m ok s i = takenN o.pieces o.pieces.length := by rw [hT, if_neg]; rintro ⟨-, h⟩; apply h; simp [a1, a2, a3, a4]
        have hfl := hfield a1 a2
        subst a1
        have a3' : 0 ≤ o.bank ∧ o.bank ≤ (m.banks.length : Int) - 1 := by simpa [inR] using a3
        have hbne : m.banks ≠ [] := by intro h; simp [h] at a3'; omega
        have hone : s.operands ≠ [] := by intro h; simp [h] at hi
        refine ⟨fun htd => ?_, fun htd => ?_⟩
        · refine CallNext.pure (by have := p_machine_field gl o; rw [Opnd.pv_eq, hk1] at this; exact this) fun hwf2 => ?_
          simp [hbne]
          refine ⟨⟨by omega, by omega⟩, by omega, ?_⟩
          refine DCallNext.obs' [0] (p_checker_must gl m _ [_, _]) rfl (by simp) (by simp) (by simp [bools]; exact ⟨rfl, rfl⟩) (by simp) (by simp [cbox]; rfl) ?_
          simp [cbox, hz, hO, hkd, htd, a2, a3, a4]
          refine ⟨[0], ?_⟩
          simp
          by_cases h6 : fieldI o ≤ 6
          · have hs1 := shl_one (fieldI o).toNat (by omega)
            rw [Int.toNat_of_nonneg (by omega)] at hs1
            rw [hs1]
          · simp [show 6 < fieldI o by omega]
        · refine DCallNext.pure (p_machine_within gl _ _ _) ?_
          simp
          rw [wrap_i64 (by omega) (by omega)]
          refine DCallNext.obs' [0] (p_checker_must gl m _ [_, _]) rfl (by simp) (by simp) (by simp [bools]; exact ⟨rfl, rfl⟩) (by simp) (by simp [cbox]; rfl) ?_
          simp [cbox, a2, a3, a4, hone]
          refine ⟨fun b1 b2 => ?_, fun hno => ?_⟩
          · have b1' : 0 ≤ o.tied ∧ o.tied ≤ (i : Int) - 1 := by simpa [inR] using b1
            simp [Ins_.bx, Opnd.bx, hone, hk1, show 0 ≤ o.tied by omega, show o.tied < (s.operands.length : Int) by omega]
            refine CallNext.obs [0] (p_checker_must gl m _ [_, _, _]) (by simp) (by simp) (by simp [bools]; exact ⟨rfl, rfl, rfl⟩) (by simp [cbox]; rfl) fun _ => ?_
            simp [cbox, hz, hO, hkd, htd, a2, a3, a4, b1, b2]
            refine ⟨[0], ?_⟩
            simp
            ac_rfl
          · simp [cbox, hz, hO, hkd, htd, a2, a3, a4]
            refine ⟨[0], ?_⟩
            simp
            exact fun b1 b2 => absurd b2 (hno b1)
    · by_cases hk2 : o.kind = 2 ∨ o.kind = 3 ∨ o.kind = 4
      · have hT' : opTaken m ok s i = takenN o.pieces o.pieces.length := by rw [hT, if_neg fun h => hk1 h.1]
        have hkd : kindOk m s i = (decide (o.bank = 0) && decide (o.tied = -1) && inR o.scale 0 3 && decide (0 < fieldI o) && decide (fieldI o + o.scale ≤ m.address)) := by simp only [kindOk, ho, hk1, if_false, hk2, if_true]
        rw [hT']
        rcases hk2 with hk2 | hk2 | hk2
        all_goals
          simp [cbox, hk2, Opnd.bx]
          refine CallNext.pure (by have := p_machine_field gl o; rw [Opnd.pv_eq, hk2] at this; exact this) fun hwf2 => ?_
          simp
          refine DCallNext.pure (p_machine_within gl _ _ _) ?_
          simp
          refine DCallNext.obs' [0] (p_checker_must gl m _ [_, _, _, _, _]) rfl (by simp) (by simp) (by simp [bools]; exact ⟨rfl, rfl, rfl, rfl, rfl⟩) (by simp) (by simp [cbox]; rfl) ?_
          simp [cbox, hO, hkd]
          refine ⟨[0], ?_⟩
          simp
          by_cases hA : ok = true ∧ allB o.pieces.length (pcOk m.word o.pieces) = true
          · have hfl := hfield hA.1 hA.2
            by_cases hsc : inR o.scale 0 3 = true
            · rw [wrap_i64 (by simp [inR] at hsc; omega) (by simp [inR] at hsc; omega)]
              simp [hA.1, hA.2, hsc]
              ac_rfl
            · simp [hsc]
          · rw [Bool.eq_iff_iff]
            simp only [Bool.and_eq_true]
            exact ⟨fun h => absurd h.1 hA, fun h => absurd ⟨h.1, h.2.1⟩ hA⟩
      · have hk : o.kind ≠ 2 ∧ o.kind ≠ 3 ∧ o.kind ≠ 4 := by omega
        have hT' : opTaken m ok s i = takenN o.pieces o.pieces.length := by rw [hT, if_neg fun h => hk1 h.1]
        have hkd : kindOk m s i = false := by simp only [kindOk, ho, hk1, if_false, hk2]
        simp [cbox, hk1, hk, Opnd.bx]
        refine CallNext.obs [0] (p_checker_must gl m _ [_]) (by simp) (by simp) (by simp [bools]; rfl) (by simp [cbox]; rfl) fun _ => ?_
        simp [cbox, hT', hO, hkd]
        exact ⟨[0], by simp⟩
end Go.Proofs.YthocoandbiaoiaaDoorV

namespace Go.Proofs.YthocoandbiaoiaaDoorV
open Go
set_option maxRecDepth 100000
set_option maxHeartbeats 4000000
theorem all_take1 {α : Type} [Inhabited α] {l : List α} {i : Nat} (h : i < l.length) (p : α → Bool) : (l.take (i + 1)).all p = ((l.take i).all p && p (gt l (i : Nat))) := by
  rw [gt_nat h, List.take_succ_eq_append_getElem h, List.all_append]; simp
def insSmall (s : Ins_) : Bool := decide (s.operands.length ≤ 4) && decide (s.effects.length ≤ 4) && s.operands.all fun o => decide (o.pieces.length ≤ 4)
theorem p_fewer (gl : Glob) (k n : Nat) : PCall Tryd.prog gl 56 [.pv (.int .i64 (k : Nat)), .flit 1 [.int .i64 n]] (.pv (.bool (decide (n ≤ k)))) := by
  have h : decide (n ≤ k) = decide (max (n : Int) 0 ≤ (k : Nat)) := by by_cases h1 : n ≤ k <;> simp [h1] <;> omega
  rw [h]; exact p_machine_fewer gl _ _
theorem p_machine_small (gl : Glob) (m : Mach) : PCall Tryd.prog gl 33 [.pv m.pv] (.pv (.bool (inLimits m))) := by
  refine k_machine_small.pcall (by simp) (by simp) (by simp) fun hwf => ?_
  have hb := hwf (.pv m.pv) (by simp)
  simp only [DV.wf] at hb; rw [Mach.wf_pv] at hb; simp [-Mach.fold, maxLen] at hb
  obtain ⟨-, -, -, -, ⟨hb1, -⟩, -, ⟨hb2, hb3⟩⟩ := hb
  let A : Bool := decide (m.regs.length ≤ 64) && decide (m.banks.length ≤ 16) && decide (m.units.length ≤ 8) && decide (m.instrs.length ≤ 64)
  let B : Bool := m.banks.all (fun b => decide (b.regs.length ≤ 64))
  simp [c_machine_small]
  refine CallNext.pure (p_fewer gl 64 _) fun _ => ?_
  simp
  refine ⟨_, by intros; exact .of (p_fewer gl 16 _), by simp, ?_⟩
  simp
  refine ⟨_, by intros; exact .of (p_fewer gl 8 _), by simp, ?_⟩
  simp
  refine ⟨_, by intros; exact .of (p_fewer gl 64 _), by simp, ?_⟩
  simp
  refine Loop.nat (fun i => { e := [(1, .ptr 0 0), (3, .pv (.bool (A && (m.banks.take i).all (fun b => decide (b.regs.length ≤ 64))))), (37, .pv (.lst 2 (m.banks.map Bank.pv))), (38, .pv (.int .i64 m.banks.length)), (39, .pv (.int .i64 i))], h := [(0, m.bx)], nx := 1 }) m.banks.length (fun _ => True) (by simp [Mach.bx]) (by simp) (by simp [Mach.bx, A]) fun i hi hinv => ?_
  by_cases hlt : i < m.banks.length
  · simp [hlt, wrap_nat (show (0:Int) ≤ i + 1 by omega) (by omega), Mach.bx]
    refine ⟨_, by intros; exact .of (p_fewer gl 64 _), by simp, ?_⟩
    simp [hlt, wrap_nat (show (0:Int) ≤ i + 1 by omega) (by omega), all_take1 hlt, Bool.and_assoc]
  obtain rfl : i = m.banks.length := by omega
  simp [Mach.bx]
  refine Loop.nat (fun i => { e := [(3, .pv (.bool (A && B && (m.instrs.take i).all insSmall))), (53, .pv (.lst 9 (m.instrs.map Ins_.pv))), (54, .pv (.int .i64 m.instrs.length)), (55, .pv (.int .i64 i))], h := [(0, m.bx)], nx := 1 }) m.instrs.length (fun _ => True) (by simp [Mach.bx]) (by simp) (by simp [Mach.bx, B]) fun i hi hinv => ?_
  by_cases hlt : i < m.instrs.length
  · have hb4 : (gt m.instrs (i : Nat)).operands.length ≤ 9223372036854775807 := by
      have := hb3 _ (gt_mem (i := (i : Nat)) (by omega) (by omega))
      rw [Ins_.wf_pv] at this; simp [-Ins_.fold, maxLen] at this
      exact this.2.2.2.1.1
    simp [hlt, Mach.bx]
    generalize hs : gt m.instrs (i : Nat) = s at *
    refine ⟨_, by intros; exact .of (p_fewer gl 4 _), by simp, ?_⟩
    simp
    refine ⟨_, by intros; exact .of (p_fewer gl 4 _), by simp, ?_⟩
    simp
    refine Loop.nat (fun k => { e := [(3, .pv (.bool (A && B && (m.instrs.take i).all insSmall && decide (s.operands.length ≤ 4) && decide (s.effects.length ≤ 4) && (s.operands.take k).all fun o => decide (o.pieces.length ≤ 4)))), (53, .pv (.lst 9 (m.instrs.map Ins_.pv))), (54, .pv (.int .i64 m.instrs.length)), (55, .pv (.int .i64 i)), (75, .pv (.lst 6 (s.operands.map Opnd.pv))), (76, .pv (.int .i64 s.operands.length)), (77, .pv (.int .i64 k))], h := [(0, m.bx), (1, s.bx)], nx := 2 }) s.operands.length (fun _ => True) (by simp [Mach.bx, Ins_.bx]) (by simp) (by simp [Mach.bx, Ins_.bx]) fun k hk hinv => ?_
    by_cases hkt : k < s.operands.length
    · simp [hkt, Mach.bx, Ins_.bx]
      refine ⟨_, by intros; exact .of (p_fewer gl 4 _), by simp, ?_⟩
      simp [hkt, wrap_nat (show (0:Int) ≤ k + 1 by omega) (by omega), all_take1 hkt, Bool.and_assoc]
    · obtain rfl : k = s.operands.length := by omega
      simp [hlt, wrap_nat (show (0:Int) ≤ i + 1 by omega) (by omega), all_take1 hlt, Bool.and_assoc, hs, insSmall, Mach.bx, Ins_.bx]
  · obtain rfl : i = m.instrs.length := by omega
    simp [inLimits, A, B]
    rfl
theorem p_machine_none (gl : Glob) (l : List Tm) : PCall Tryd.prog gl 84 [.pv (.lst 6 (l.map Tm.pv))] (.pv (.bool (l.all noneB))) := by
  refine k_machine_none.pcall (by simp) (by simp) (by simp) fun hwf => ?_
  have hb : l.length ≤ 9223372036854775807 := by have := hwf (.pv (.lst 6 (l.map Tm.pv))) (by simp); simp [maxLen] at this; exact this.1
  simp [c_machine_none]
  refine Loop.nat (fun i => { e := [(5, .pv (.lst 6 (l.map Tm.pv))), (6, .pv (.int .i64 l.length)), (7, .pv (.int .i64 i))], h := [], nx := 0 }) l.length (fun i => (l.take i).all noneB = true) (by simp) (by simp) (by simp) fun i hi hinv => ?_
  by_cases hlt : i < l.length
  · simp [hlt, wrap_nat (show (0:Int) ≤ i + 1 by omega) (by omega)]
    have hx : noneB (gt l (i : Nat)) = true ↔ (((((gt l (i : Nat)).op = 0 ∧ (gt l (i : Nat)).width = 0) ∧ (gt l (i : Nat)).val = 0) ∧ (gt l (i : Nat)).name = ⟨#[]⟩) ∧ (gt l (i : Nat)).low = 0) ∧ (gt l (i : Nat)).sub = [] := by
      simp only [noneB, Bool.and_eq_true, decide_eq_true_eq, List.length_eq_zero_iff]
    have ht := all_take1 hlt noneB
    rw [hinv, Bool.true_and] at ht
    refine ⟨fun h => ⟨_, gt_mem (i := (i : Nat)) (by omega) (by omega), ?_⟩, fun a b c d e f => ?_⟩
    · rw [Bool.eq_false_iff]; intro hn
      obtain ⟨⟨⟨⟨⟨a, b⟩, c⟩, d⟩, e⟩, f⟩ := hx.1 hn
      simp [a, b, c, d, e, f] at h
    · rw [← List.all_eq_true, ht, hx]
      exact ⟨⟨⟨⟨⟨a, b⟩, c⟩, d⟩, e⟩, f⟩
  · obtain rfl : i = l.length := by omega
    simp at hinv
    simp
    exact hinv
def regVars (m : Mach) (n : Nat) : NV := (m.regs.take n).foldl (fun a r => putV a (rname r.name) r.width) [(pc, m.address)]
def insVarsN (m : Mach) (s : Ins_) (n : Nat) : NV := (s.operands.take n).foldl (fun a o => putV a o.name (wideI m o)) (regVars m m.regs.length)
def insVars (m : Mach) (s : Ins_) : NV := insVarsN m s s.operands.length
theorem regVars_succ {m : Mach} {i : Nat} (h : i < m.regs.length) : regVars m (i + 1) = putV (regVars m i) (rname (gt m.regs (i : Nat)).name) (gt m.regs (i : Nat)).width := by
  rw [regVars, List.take_succ_eq_append_getElem h, List.foldl_append, gt_nat h]; rfl
theorem insVars_succ {m : Mach} {s : Ins_} {i : Nat} (h : i < s.operands.length) : insVarsN m s (i + 1) = putV (insVarsN m s i) (gt s.operands (i : Nat)).name (wideI m (gt s.operands (i : Nat))) := by
  rw [insVarsN, List.take_succ_eq_append_getElem h, List.foldl_append, gt_nat h]; rfl
theorem nm_vmap (s : NV) (n : Nat) : (Ob.mp (vmap s)).nm fun i => i < n := fun x hx => by simp only [vmap, List.mem_map] at hx; obtain ⟨y, -, rfl⟩ := hx; simp
@[simp] theorem nm_vmap' {s : NV} {p : Nat → Prop} : (∀ (a : PV) (b : DV), (a, b) ∈ vmap s → DV.nm p b) ↔ True := ⟨fun _ => trivial, fun _ a b h => by simp only [vmap, List.mem_map, Prod.mk.injEq] at h; obtain ⟨y, -, -, rfl⟩ := h; simp⟩
@[simp] theorem ren_vmap {s : NV} {f : Nat → Nat} : (vmap s).map (fun x => (x.fst, DV.ren f x.snd)) = vmap s := by
  simp [vmap, DV.ren]
theorem bel_vmap (s : NV) (n : Nat) : (Ob.mp (vmap s)).bel n := fun x hx => by simp only [vmap, List.mem_map] at hx; obtain ⟨y, -, rfl⟩ := hx; simp
def wideOk (m : Mach) (o : Opnd) : Prop := o.kind = 1 → (0 ≤ o.bank ∧ o.bank < m.banks.length) ∧ (gt m.banks o.bank).regs ≠ [] ∧ 0 ≤ gt (gt m.banks o.bank).regs 0 ∧ gt (gt m.banks o.bank).regs 0 < m.regs.length
theorem p_checker_variables (gl : Glob) (m : Mach) (ok : Bool) (s : Ins_) (hl : m.regs.length ≤ 500) (hn : ∀ r ∈ m.regs, r.name.size ≤ 1000) (hs : s.operands.length ≤ 500) (hw : ∀ o ∈ s.operands, wideOk m o) :
    ACall Tryd.prog gl (.func 61) 1 [.ptr 0 0, .pv s.pv] [(0, cbox m ok)] (.mref 2) [(0, cbox m ok), (2, .mp (vmap (insVars m s)))] 3 := by
  refine k_machine_checker_variables.acall (by simp) (by simp) (by simp) (by simp [cbox]) (by simp) (by simp [cbox]) fun hwf => ?_
  simp [c_machine_checker_variables, cbox]
  have hk : ∀ (n : ByteArray) (s : NV), keysOk 2 (.str n) (vmap s) := fun n s => keysOk_vmap
  refine ⟨hk pc [], ?_⟩
  refine Loop.nat (fun i => { e := [(0, .ptr 0 0), (3, .ptr 1 0), (5, .mref 2), (21, .pv (.lst 4 (m.regs.map Reg.pv))), (22, .pv (.int .i64 m.regs.length)), (23, .pv (.int .i64 i))], h := [(0, cbox m ok), (1, s.bx), (2, .mp (vmap (regVars m i)))], nx := 3 }) m.regs.length (fun _ => True) (by simp [cbox, Ins_.bx]) (by simp) (by simp [cbox, Ins_.bx, regVars, vmap, pc]) fun i hi hinv => ?_
  by_cases hlt : i < m.regs.length
  · simp [hlt, hk, cbox, Ins_.bx, wrap_nat (show (0:Int) ≤ i + 1 by omega) (by omega), regVars_succ hlt, rname, rdot]
    have := hn _ (gt_mem (l := m.regs) (i := (i : Nat)) (by omega) (by omega))
    have h2 : (⟨#[114, 46]⟩ : ByteArray).size = 2 := rfl
    rw [h2]; unfold maxLen; omega
  obtain rfl : i = m.regs.length := by omega
  simp [cbox, Ins_.bx]
  refine Loop.nat (fun i => { e := [(0, .ptr 0 0), (5, .mref 2), (35, .pv (.lst 6 (s.operands.map Opnd.pv))), (36, .pv (.int .i64 s.operands.length)), (37, .pv (.int .i64 i))], h := [(0, cbox m ok), (1, s.bx), (2, .mp (vmap (insVarsN m s i)))], nx := 3 }) s.operands.length (fun _ => True) (by simp [cbox, Ins_.bx]) (by simp) (by simp [cbox, Ins_.bx, insVarsN]) fun i hi hinv => ?_
  by_cases hlt : i < s.operands.length
  · simp [hlt, cbox, Ins_.bx]
    refine DCallNext.pure (p_machine_wide gl m (gt s.operands (i : Nat)) (hw _ (gt_mem (by omega) (by omega)))) ?_
    simp [hlt, hk, wrap_nat (show (0:Int) ≤ i + 1 by omega) (by omega), insVars_succ hlt]
  · obtain rfl : i = s.operands.length := by omega
    simp [cbox, Ins_.bx]
    exact ⟨[0, 2], by simp [insVars]⟩
def leafB (a : Int) (V : NV) (x : Tm) : Bool := if x.op = 2 then decide ((lookV V x.name).getD 0 = x.width) else if x.op = 24 then decide ((gt x.sub 0).width = a) else true
mutual
def leavesB (a : Int) (V : NV) : Tm → Bool
  | ⟨o, w, v, n, l, ts⟩ => leafB a V ⟨o, w, v, n, l, ts⟩ && leavesL a V ts
def leavesL (a : Int) (V : NV) : List Tm → Bool
  | [] => true
  | t :: r => leavesB a V t && leavesL a V r
end
theorem leavesL_eq {a : Int} {V : NV} : ∀ {l : List Tm}, leavesL a V l = l.all (leavesB a V)
  | [] => rfl
  | t :: r => by rw [leavesL, leavesL_eq, List.all_cons]
theorem leavesB_eq {a : Int} {V : NV} {t : Tm} : leavesB a V t = (leafB a V t && t.sub.all (leavesB a V)) := by cases t; rw [leavesB, leavesL_eq]
mutual
def Tm.loadsOk : Tm → Bool
  | ⟨o, _, _, _, _, ts⟩ => (!decide (o = 24) || !decide (ts.length = 0)) && Tm.loadsOkL ts
def Tm.loadsOkL : List Tm → Bool
  | [] => true
  | t :: r => t.loadsOk && Tm.loadsOkL r
end
theorem Tm.loadsOkL_eq : ∀ {l : List Tm}, Tm.loadsOkL l = l.all Tm.loadsOk
  | [] => rfl
  | t :: r => by rw [Tm.loadsOkL, Tm.loadsOkL_eq, List.all_cons]
theorem Tm.loadsOk_eq {t : Tm} : t.loadsOk = ((!decide (t.op = 24) || !decide (t.sub.length = 0)) && t.sub.all Tm.loadsOk) := by cases t; rw [Tm.loadsOk, Tm.loadsOkL_eq]
theorem p_checker_leaves (gl : Glob) (m : Mach) (V : NV) (n : Nat) : ∀ (ok : Bool) (t : Tm), SizeOf.sizeOf t < n → t.loadsOk = true →
    ACall Tryd.prog gl (.func 94) 2 [.ptr 0 0, .mref 1, .pv t.pv] [(0, cbox m ok), (1, .mp (vmap V))] (.tup []) [(0, cbox m (ok && leavesB m.address V t)), (1, .mp (vmap V))] 2 := by
  induction n with
  | zero => intro ok t h; omega
  | succ n ih =>
  intro ok t hn hlo
  refine k_machine_checker_leaves.acall (by simp) (by simp) (by simp) (by simp [cbox]) (by simp) (by simp [cbox]) fun hwf => ?_
  have hb := Tm.wf_sub (by simpa using hwf)
  have hk : ∀ (n : ByteArray) (s : NV), keysOk 2 (.str n) (vmap s) := fun n s => keysOk_vmap
  rw [Tm.loadsOk_eq] at hlo
  simp only [Bool.and_eq_true, Bool.or_eq_true, Bool.not_eq_true', decide_eq_false_iff_not, List.length_eq_zero_iff] at hlo
  have hB := @leavesB_eq m.address V t
  have hc : t.op = 2 ∨ t.op = 24 ∨ (t.op ≠ 2 ∧ t.op ≠ 24) := by omega
  rcases hc with h | h | ⟨h, h'⟩
  simp [c_machine_checker_leaves, cbox, h, hk]
  refine CallNext.obs [0] (p_checker_must gl m _ [_]) (by simp) (by simp) (by simp [bools]; rfl) (by simp [cbox]; rfl) fun _ => ?_
  rotate_left
  have hne : t.sub ≠ [] := by rcases hlo.1 with h1 | h1; exact absurd h h1; exact h1
  simp [c_machine_checker_leaves, cbox, h, hk, hne, List.length_pos_iff]
  refine DCallNext.obs' [0] (p_checker_must gl m _ [_]) rfl (by simp) (by simp) (by simp [bools]; rfl) (by simp) (by simp [cbox]; rfl) ?_
  rotate_left
  simp [c_machine_checker_leaves, cbox, h, h', hk]
  all_goals
    try simp [cbox]
    refine Loop.nat (fun i => { e := [(0, .ptr 0 0), (1, .mref 1), (39, .pv (.lst 6 (t.sub.map Tm.pv))), (40, .pv (.int .i64 t.sub.length)), (41, .pv (.int .i64 i))], h := [(0, cbox m (ok && leafB m.address V t && (t.sub.take i).all (leavesB m.address V))), (1, .mp (vmap V)), (2, t.bx)], nx := 3 }) t.sub.length (fun _ => True) (by simp [cbox]) (by simp) (by simp [cbox, Tm.bx, leafB, h] <;> exact fun _ => .inl ‹_›) fun i hi hinv => ?_
    by_cases hlt : i < t.sub.length
    · simp [cbox, Tm.bx, hlt]
      refine CallNext.obs [0, 1] (ih _ (gt t.sub (i : Nat)) (by have := Tm.size_gt hlt; omega) (by have := List.all_eq_true.1 hlo.2; exact this _ (gt_mem (by omega) (by omega)))) (by simp) (by simp) (by simp) (by simp [cbox]; rfl) fun _ => ?_
      simp [hlt, cbox, Tm.bx, wrap_nat (show (0:Int) ≤ i + 1 by omega) (by omega), all_take1 hlt, Bool.and_assoc]
    · obtain rfl : i = t.sub.length := by omega
      simp [cbox, Tm.bx, hB, Bool.and_assoc]
      exact ⟨[0, 1], by simp⟩
end Go.Proofs.YthocoandbiaoiaaDoorV

namespace Go.Proofs.YthocoandbiaoiaaDoorV
open Go
set_option maxRecDepth 100000
set_option maxHeartbeats 4000000
theorem Tm.formed_loads (n : Nat) : ∀ t : Tm, SizeOf.sizeOf t < n → t.formed = true → t.loadsOk = true := by
  induction n with
  | zero => intro t h; omega
  | succ n ih =>
  intro t hn h
  rw [Tm.formed_eq, Bool.and_eq_true, Tm.formedL_eq] at h
  rw [Tm.loadsOk_eq, Bool.and_eq_true]
  refine ⟨?_, List.all_eq_true.2 fun u hu => ?_⟩
  · by_cases h24 : t.op = 24
    · have := h.2
      simp only [Tm.okNode, h24, Bool.and_eq_true] at this
      simp at this
      simp [h24]
      intro hn; simp [hn] at this
    · simp [h24]
  · obtain ⟨i, hi, rfl⟩ := List.getElem_of_mem hu
    have h1 := Tm.size_gt hi
    rw [gt_nat hi] at h1
    exact ih _ (by omega) (List.all_eq_true.1 h.1 _ hu)
theorem Tm.check_loads {t : Tm} (h : t.check = 0) : t.loadsOk = true := by
  refine Tm.formed_loads _ t (Nat.lt_succ_self _) ?_
  rw [Tm.check_eq] at h
  split at h
  · omega
  · split at h
    · assumption
    · omega
def fitB (m : Mach) (V : NV) (t : Tm) : Bool := decide (t.check = 0) && leavesB m.address V t
theorem p_checker_fits (m : Mach) (V : NV) (ok : Bool) (l : List Tm) (hs : ∀ t ∈ l, t.nodes < 2 ^ 40 ∧ t.depth < 2 ^ 40) :
    ACall Tryd.prog glob (.func 83) 2 [.ptr 0 0, .mref 1, .pv (.lst 6 (l.map Tm.pv))] [(0, cbox m ok), (1, .mp (vmap V))] (.tup []) [(0, cbox m (ok && l.all (fitB m V))), (1, .mp (vmap V))] 2 := by
  refine k_machine_checker_fits.acall (by simp) (by simp) (by simp) (by simp [cbox]) (by simp) (by simp [cbox]) fun hwf => ?_
  have hb : l.length ≤ 9223372036854775807 := by have := hwf (.pv (.lst 6 (l.map Tm.pv))) (by simp); simp [maxLen] at this; exact this.1
  simp [c_machine_checker_fits, cbox]
  refine Loop.nat (fun i => { e := [(0, .ptr 0 0), (1, .mref 1), (8, .pv (.lst 6 (l.map Tm.pv))), (9, .pv (.int .i64 l.length)), (10, .pv (.int .i64 i))], h := [(0, cbox m (ok && (l.take i).all (fitB m V))), (1, .mp (vmap V))], nx := 2 }) l.length (fun _ => True) (by simp [cbox]) (by simp) (by simp [cbox]) fun i hi hinv => ?_
  by_cases hlt : i < l.length
  · have hm := gt_mem (l := l) (i := (i : Nat)) (by omega) (by omega)
    simp [cbox, hlt]
    refine CallNext.pure (p_term_Check _ (hs _ hm).1 (hs _ hm).2) fun _ => ?_
    simp
    refine CallNext.obs [0] (p_checker_must glob m _ [_]) (by simp) (by simp) (by simp [bools]; rfl) (by simp [cbox]; rfl) fun _ => ?_
    simp [cbox]
    refine ⟨fun hno => ?_, fun h1 h2 h3 => ?_⟩
    · refine ⟨[0, 1], ?_⟩
      simp
      rw [Bool.eq_iff_iff]
      simp only [Bool.and_eq_true, List.all_eq_true, decide_eq_true_eq]
      constructor
      · rintro ⟨⟨h1, h2⟩, h3⟩
        rcases hno with (h | ⟨x, hx, h⟩) | h
        · simp [h1] at h
        · rw [h2 x hx] at h; simp at h
        · exact absurd h3 h
      · rintro ⟨h1, h2⟩
        refine ⟨⟨h1, fun x hx => h2 x (List.mem_of_mem_take hx)⟩, ?_⟩
        have := h2 _ hm
        simp only [fitB, Bool.and_eq_true, decide_eq_true_eq] at this
        exact this.1
    · refine CallNext.obs [0, 1] (p_checker_leaves glob m V _ _ _ (Nat.lt_succ_self _) (Tm.check_loads h3)) (by simp) (by simp) (by simp) (by simp [cbox]; rfl) fun _ => ?_
      simp [hlt, cbox, wrap_nat (show (0:Int) ≤ i + 1 by omega) (by omega), all_take1 hlt, fitB, h1, h3]
  · obtain rfl : i = l.length := by omega
    simp [cbox]
    exact ⟨[0, 1], by simp⟩
def effB (m : Mach) (s : Ins_) (V : NV) (x : Eff) : Bool :=
  if x.kind = 1 then fitB m V x.value && ([x.addr, x.cond].all noneB) &&
    (if x.operand = -1 ∧ inR x.reg 0 (m.regs.length - 1) = true then decide (x.value.width = (gt m.regs x.reg).width)
     else if x.reg = 0 ∧ inR x.operand 0 (s.operands.length - 1) = true then decide ((gt s.operands x.operand).kind = 1) && decide (x.value.width = wideI m (gt s.operands x.operand))
     else false)
  else if x.kind = 2 then (decide (x.operand = 0) && decide (x.reg = 0)) && fitB m V x.value && fitB m V x.addr && noneB x.cond && decide (x.addr.width = m.address) && ([8, 16, 32, 64].any fun w => decide (x.value.width = w))
  else if x.kind = 3 then (decide (x.operand = 0) && decide (x.reg = 0)) && fitB m V x.value && noneB x.addr && decide (x.value.width = m.address) && (noneB x.cond || (fitB m V x.cond && decide (x.cond.width = 1)))
  else if x.kind = 4 then (decide (x.operand = 0) && decide (x.reg = 0)) && fitB m V x.value && ([x.addr, x.cond].all noneB)
  else false
theorem p_checker_effect (m : Mach) (V : NV) (ok : Bool) (s : Ins_) (x : Eff) (hs : ∀ t ∈ [x.addr, x.value, x.cond], t.nodes < 2 ^ 40 ∧ t.depth < 2 ^ 40) (hr : m.regs.length ≤ 500) (ho : s.operands.length ≤ 500) (hw : ∀ o ∈ s.operands, wideOk m o) :
    ACall Tryd.prog glob (.func 62) 2 [.ptr 0 0, .pv s.pv, .pv x.pv, .mref 1] [(0, cbox m ok), (1, .mp (vmap V))] (.tup []) [(0, cbox m (ok && effB m s V x)), (1, .mp (vmap V))] 2 := by
  refine k_machine_checker_effect.acall (by simp) (by simp) (by simp) (by simp [cbox]) (by simp) (by simp [cbox]) fun hwf => ?_
  have ha := hs x.addr (by simp)
  have hv := hs x.value (by simp)
  have hc := hs x.cond (by simp)
  by_cases h1 : x.kind = 1
  · simp [c_machine_checker_effect, cbox, h1]
    refine CallNext.obs [0, 1] (p_checker_fits m V _ [x.value] (by simpa using hv)) (by simp) (by simp) (by simp) (by simp [cbox]; rfl) fun _ => ?_
    simp [cbox]
    refine CallNext.pure (p_machine_none glob [x.addr, x.cond]) fun _ => ?_
    simp
    refine CallNext.obs [0] (p_checker_must glob m _ [_]) (by simp) (by simp) (by simp [bools]; rfl) (by simp [cbox]; rfl) fun _ => ?_
    simp [cbox]
    refine ⟨_, by intros; exact .of (p_machine_within glob _ _ _), by simp, ?_⟩
    rw [wrap_i64 (by omega) (by omega)]
    have hrne : inR x.reg 0 (m.regs.length - 1) = true → m.regs ≠ [] := by intro h hn; simp [hn, inR] at h; omega
    have hone : inR x.operand 0 (s.operands.length - 1) = true → s.operands ≠ [] := by intro h hn; simp [hn, inR] at h; omega
    simp
    refine ⟨fun h3 h4 => ?_, fun h3 => ?_⟩
    · have h4' : 0 ≤ x.reg ∧ x.reg ≤ (m.regs.length : Int) - 1 := by simpa [inR] using h4
      simp [hrne h4, show x.reg < (m.regs.length : Int) by omega, h4'.1]
      refine DCallNext.obs' [0] (p_checker_must glob m _ [_]) rfl (by simp) (by simp) (by simp [bools]; rfl) (by simp) (by simp [cbox]; rfl) ?_
      simp [cbox, effB, h1, h3, h4]
      refine ⟨[0, 1], ?_⟩
      simp
      ac_rfl
    · refine ⟨_, by intros; exact .of (p_machine_within glob _ _ _), by simp, ?_⟩
      rw [wrap_i64 (by omega) (by omega)]
      simp
      have h3' : ¬ (x.operand = -1 ∧ inR x.reg 0 (m.regs.length - 1) = true) := by rintro ⟨a, b⟩; simp [h3 a] at b
      refine ⟨fun h4 h5 => ?_, fun h4 => ?_⟩
      · have h5' : 0 ≤ x.operand ∧ x.operand ≤ (s.operands.length : Int) - 1 := by simpa [inR] using h5
        have hwo := hw _ (gt_mem (l := s.operands) (i := x.operand) (by omega) (by omega))
        simp [hone h5, show x.operand < (s.operands.length : Int) by omega, h5'.1]
        refine DCallNext.pure (p_machine_wide glob m _ hwo) ?_
        simp
        refine DCallNext.obs' [0] (p_checker_must glob m _ [_, _]) rfl (by simp) (by simp) (by simp [bools]; exact ⟨rfl, rfl⟩) (by simp) (by simp [cbox]; rfl) ?_
        have hE : effB m s V x = (fitB m V x.value && ([x.addr, x.cond].all noneB) && (decide ((gt s.operands x.operand).kind = 1) && decide (x.value.width = wideI m (gt s.operands x.operand)))) := by rw [effB, if_pos h1, if_neg h3', if_pos ⟨h4, h5⟩]
        simp [cbox, hE]
        refine ⟨[0, 1], ?_⟩
        simp
        ac_rfl
      · refine CallNext.obs [0] (p_checker_must glob m _ [_]) (by simp) (by simp) (by simp [bools]; rfl) (by simp [cbox]; rfl) fun _ => ?_
        have h4' : ¬ (x.reg = 0 ∧ inR x.operand 0 (s.operands.length - 1) = true) := by rintro ⟨a, b⟩; simp [h4 a] at b
        simp [cbox, effB, h1, h3', h4']
        exact ⟨[0, 1], by simp⟩
  by_cases h2 : x.kind = 2
  · simp [c_machine_checker_effect, cbox, h2]
    refine CallNext.obs [0] (p_checker_must glob m _ [_, _]) (by simp) (by simp) (by simp [bools]; exact ⟨rfl, rfl⟩) (by simp [cbox]; rfl) fun _ => ?_
    simp [cbox]
    refine CallNext.obs [0, 1] (p_checker_fits m V _ [x.value] (by simpa using hv)) (by simp) (by simp) (by simp) (by simp [cbox]; rfl) fun _ => ?_
    simp [cbox]
    refine CallNext.obs [0, 1] (p_checker_fits m V _ [x.addr] (by simpa using ha)) (by simp) (by simp) (by simp) (by simp [cbox]; rfl) fun _ => ?_
    simp [cbox]
    refine DCallNext.pure (p_machine_none glob [x.cond]) ?_
    simp
    refine DCallNext.pure (p_slices_Contains_int_int glob [8, 16, 32, 64] x.value.width) ?_
    simp
    refine DCallNext.obs' [0] (p_checker_must glob m _ [_, _, _]) rfl (by simp) (by simp) (by simp [bools]; exact ⟨rfl, rfl, rfl⟩) (by simp) (by simp [cbox]; rfl) ?_
    simp [cbox, effB, h2]
    refine ⟨[0, 1], ?_⟩
    simp
    ac_rfl
  by_cases h3 : x.kind = 3
  · simp [c_machine_checker_effect, cbox, h3]
    refine CallNext.obs [0] (p_checker_must glob m _ [_, _]) (by simp) (by simp) (by simp [bools]; exact ⟨rfl, rfl⟩) (by simp [cbox]; rfl) fun _ => ?_
    simp [cbox]
    refine CallNext.obs [0, 1] (p_checker_fits m V _ [x.value] (by simpa using hv)) (by simp) (by simp) (by simp) (by simp [cbox]; rfl) fun _ => ?_
    simp [cbox]
    refine DCallNext.pure (p_machine_none glob [x.addr]) ?_
    simp
    refine DCallNext.obs' [0] (p_checker_must glob m _ [_, _]) rfl (by simp) (by simp) (by simp [bools]; exact ⟨rfl, rfl⟩) (by simp) (by simp [cbox]; rfl) ?_
    simp [cbox]
    refine CallNext.pure (p_machine_none glob [x.cond]) fun _ => ?_
    simp
    refine ⟨fun h4 => ?_, fun h4 => ?_⟩
    · refine CallNext.obs [0, 1] (p_checker_fits m V _ [x.cond] (by simpa using hc)) (by simp) (by simp) (by simp) (by simp [cbox]; rfl) fun _ => ?_
      simp [cbox]
      refine CallNext.obs [0] (p_checker_must glob m _ [_]) (by simp) (by simp) (by simp [bools]; rfl) (by simp [cbox]; rfl) fun _ => ?_
      simp [cbox, effB, h3, h4]
      refine ⟨[0, 1], ?_⟩
      simp
      ac_rfl
    · simp [cbox, effB, h3, h4]
      refine ⟨[0, 1], ?_⟩
      simp
      ac_rfl
  by_cases h4 : x.kind = 4
  · simp [c_machine_checker_effect, cbox, h4]
    refine CallNext.obs [0] (p_checker_must glob m _ [_, _]) (by simp) (by simp) (by simp [bools]; exact ⟨rfl, rfl⟩) (by simp [cbox]; rfl) fun _ => ?_
    simp [cbox]
    refine CallNext.obs [0, 1] (p_checker_fits m V _ [x.value] (by simpa using hv)) (by simp) (by simp) (by simp) (by simp [cbox]; rfl) fun _ => ?_
    simp [cbox]
    refine CallNext.pure (p_machine_none glob [x.addr, x.cond]) fun _ => ?_
    simp
    refine CallNext.obs [0] (p_checker_must glob m _ [_]) (by simp) (by simp) (by simp [bools]; rfl) (by simp [cbox]; rfl) fun _ => ?_
    simp [cbox, effB, h4]
    refine ⟨[0, 1], ?_⟩
    simp
    ac_rfl
  · simp [c_machine_checker_effect, cbox, h1, h2, h3, h4]
    refine CallNext.obs [0] (p_checker_must glob m _ [_, _]) (by simp) (by simp) (by simp [bools]; exact ⟨rfl, rfl⟩) (by simp [cbox]; rfl) fun _ => ?_
    simp [cbox]
    refine CallNext.obs [0, 1] (p_checker_fits m V _ [x.value] (by simpa using hv)) (by simp) (by simp) (by simp) (by simp [cbox]; rfl) fun _ => ?_
    simp [cbox, h1, h2, h3, h4]
    refine CallNext.obs [0] (p_checker_must glob m _ [_]) (by simp) (by simp) (by simp [bools]; rfl) (by simp [cbox]; rfl) fun _ => ?_
    simp [cbox, effB, h1, h2, h3, h4]
    exact ⟨[0, 1], by simp⟩
end Go.Proofs.YthocoandbiaoiaaDoorV

namespace Go.Proofs.YthocoandbiaoiaaDoorV
open Go
set_option maxRecDepth 100000
set_option maxHeartbeats 4000000
abbrev KV := List (Int × Int)
def lookK : KV → Int → Option Int
  | [], _ => none
  | (m, w) :: r, n => if n = m then some w else lookK r n
def putK : KV → Int → Int → KV
  | [], n, w => [(n, w)]
  | (m, v) :: r, n, w => if n = m then (n, w) :: r else (m, v) :: putK r n w
def kmap (s : KV) : List (PV × DV) := s.map fun x => (.int .u8 x.1, .pv (.int .i64 x.2))
@[simp] theorem mlook_kmap {n : Int} : ∀ {s : KV}, mlook (kmap s) (.int .u8 n) = (lookK s n).map fun w => .pv (.int .i64 w)
  | [] => rfl
  | (m, w) :: r => by
    have := mlook_kmap (n := n) (s := r)
    simp only [kmap, List.map_cons] at this ⊢
    rw [mlook_cons, lookK, this]; simp; split <;> rfl
@[simp] theorem mput_kmap {n w : Int} : ∀ {s : KV}, mput (kmap s) (.int .u8 n) (.pv (.int .i64 w)) = kmap (putK s n w)
  | [] => rfl
  | (m, v) :: r => by
    have := mput_kmap (n := n) (w := w) (s := r)
    simp only [kmap, List.map_cons] at this ⊢
    rw [mput_cons, putK, this]; simp; split <;> rfl
theorem keysOk_kmap {n : Int} {s : KV} : keysOk 1 (.int .u8 n) (kmap s) := by
  refine ⟨rfl, by omega, fun x hx => ?_⟩
  simp only [kmap, List.mem_map] at hx
  obtain ⟨y, -, rfl⟩ := hx
  rfl
theorem lookK_putK {n m w : Int} : ∀ {s : KV}, lookK (putK s n w) m = if m = n then some w else lookK s m
  | [] => by simp [putK, lookK]
  | (a, v) :: r => by
    rw [putK]
    by_cases h : n = a
    · subst h; simp only [if_true, lookK]; split <;> rfl
    · simp only [h, if_false, lookK, lookK_putK (s := r)]
      by_cases h1 : m = a
      · subst h1; simp [Ne.symm h]
      · simp [h1]
@[simp] theorem nm_kmap {s : KV} {p : Nat → Prop} : (∀ (a : PV) (b : DV), (a, b) ∈ kmap s → DV.nm p b) ↔ True := ⟨fun _ => trivial, fun _ a b h => by simp only [kmap, List.mem_map, Prod.mk.injEq] at h; obtain ⟨y, -, -, rfl⟩ := h; simp⟩
@[simp] theorem ren_kmap {s : KV} {f : Nat → Nat} : (kmap s).map (fun x => (x.fst, DV.ren f x.snd)) = kmap s := by simp [kmap, DV.ren]
def kindsN (s : Ins_) : Nat → KV
  | 0 => []
  | i + 1 => putK (kindsN s i) (gt s.effects (i : Nat)).kind ((lookK (kindsN s i) (gt s.effects (i : Nat)).kind).getD 0 + 1)
theorem kindsN_count (s : Ins_) (k : Int) : ∀ i, i ≤ s.effects.length → (lookK (kindsN s i) k).getD 0 = (((s.effects.take i).filter fun x => decide (x.kind = k)).length : Int)
  | 0, _ => by simp [kindsN, lookK]
  | i + 1, h => by
    have hi : i < s.effects.length := by omega
    have ih := kindsN_count s k i (by omega)
    rw [kindsN, lookK_putK, List.take_succ_eq_append_getElem hi, List.filter_append, List.length_append]
    rw [gt_nat hi]
    by_cases he : k = s.effects[i].kind
    · rw [if_pos he, Option.getD_some, ← he, ih]; simp [he]
    · rw [if_neg he, ih]; simp [Ne.symm he]
theorem kindsN_le (s : Ins_) (k : Int) (i : Nat) (h : i ≤ s.effects.length) : 0 ≤ (lookK (kindsN s i) k).getD 0 ∧ (lookK (kindsN s i) k).getD 0 ≤ i := by
  rw [kindsN_count s k i h]
  have h1 := List.length_filter_le (fun x : Eff => decide (x.kind = k)) (s.effects.take i)
  have h2 := List.length_take_le i s.effects
  omega
def insSt (m : Mach) (s : Ins_) (c : Bool) : Nat → Bool × Nat
  | 0 => (c, s.mask.toNat)
  | i + 1 =>
    let b := (insSt m s c i).1 && freshB (pc :: (s.operands.map (·.name)).take i) (gt s.operands (i : Nat)).name
    let f := opTaken m b s i
    (b && opOk m s i && decide ((insSt m s c i).2 &&& f = 0), (insSt m s c i).2 ||| f)
def insMasks (m : Mach) (s : Ins_) : Bool := decide (bandNotI .u64 s.mask (maskI (IntKind.i64.wrap (8 * m.word))) = 0) && decide (bandNotI .u64 s.mtch s.mask = 0)
def insTail (m : Mach) (s : Ins_) : Bool :=
  decide (countK s 3 ≤ 1) && (decide (countK s 4 = 0) || decide (s.effects.length = 1)) && inR s.unit 0 (m.units.length - 1) && inR s.busy 1 15 && inR s.latency 1 15 && inR s.slots 0 2 && (decide (s.slots = 0) || decide (countK s 3 = 1))
def insB (m : Mach) (s : Ins_) : Bool := (insSt m s (insMasks m s) s.operands.length).1 && s.effects.all (effB m s (insVars m s)) && insTail m s
theorem insSt_mono {m : Mach} {s : Ins_} {c : Bool} : ∀ {i : Nat}, (insSt m s c i).1 = true → c = true
  | 0, h => h
  | i + 1, h => by simp only [insSt, Bool.and_eq_true] at h; exact insSt_mono h.1.1.1
theorem insSt_ops {m : Mach} {s : Ins_} {c : Bool} : ∀ {i : Nat}, (insSt m s c i).1 = true → ∀ j, j < i → opOk m s j = true
  | 0, _, j, hj => by omega
  | i + 1, h, j, hj => by
    simp only [insSt, Bool.and_eq_true] at h
    rcases Nat.lt_or_eq_of_le (Nat.le_of_lt_succ hj) with hj | rfl
    · exact insSt_ops h.1.1.1 j hj
    · exact h.1.2
theorem insSt_lt {m : Mach} {s : Ins_} {c : Bool} (hw : c = true → 1 ≤ m.word ∧ m.word ≤ 4) (hm : s.mask ≤ 18446744073709551615) : ∀ i, (insSt m s c i).2 < 2 ^ 64
  | 0 => by simp only [insSt]; omega
  | i + 1 => by
    simp only [insSt]
    refine Nat.or_lt_two_pow (insSt_lt hw hm i) (Nat.lt_trans (opTaken_lt fun h => ?_) (by decide))
    simp only [Bool.and_eq_true] at h
    exact hw (insSt_mono h.1)
theorem wide_of {m : Mach} {s : Ins_} (hb : okBanks m = true) (h : ∀ j, j < s.operands.length → opOk m s j = true) : ∀ o ∈ s.operands, wideOk m o := by
  intro o ho hk
  obtain ⟨j, hj, rfl⟩ := List.getElem_of_mem ho
  have h1 := h j hj
  simp only [opOk, Bool.and_eq_true, kindOk] at h1
  rw [gt_nat hj] at h1
  have h2 := h1.2
  simp only [hk, if_true, Bool.and_eq_true] at h2
  have h3 : 0 ≤ s.operands[j].bank ∧ s.operands[j].bank ≤ (m.banks.length : Int) - 1 := by simpa [inR] using h2.1.1
  have h4 := allB_true.1 hb s.operands[j].bank.toNat (by omega)
  simp only [bankOk, Bool.and_eq_true] at h4
  rw [Int.toNat_of_nonneg h3.1] at h4
  have h5 := h4.1.1.2
  simp only [decide_eq_true_eq] at h5
  have h6 := allB_true.1 h4.2 0 h5
  simp only [Bool.and_eq_true] at h6
  have h7 : 0 ≤ gt (gt m.banks s.operands[j].bank).regs 0 ∧ gt (gt m.banks s.operands[j].bank).regs 0 ≤ (m.regs.length : Int) - 1 := by simpa [inR] using h6.1.1
  exact ⟨⟨h3.1, by omega⟩, by intro hn; simp [hn] at h5, h7.1, by omega⟩
theorem names_of {m : Mach} (hr : okRegs m = true) : ∀ r ∈ m.regs, r.name.size ≤ 1000 := by
  intro r hr'
  obtain ⟨j, hj, rfl⟩ := List.getElem_of_mem hr'
  simp only [okRegs, Bool.and_eq_true] at hr
  have h1 := allB_true.1 hr.1 j hj
  simp only [rgOk, Bool.and_eq_true] at h1
  have h2 := h1.1.1.1
  rw [gt_nat hj] at h2
  simp only [isName, Bool.and_eq_true, decide_eq_true_eq] at h2
  omega
def insBd (m : Mach) (s : Ins_) : Prop := m.regs.length ≤ 500 ∧ m.banks.length ≤ 500 ∧ m.units.length ≤ 500 ∧ s.operands.length ≤ 500 ∧ s.effects.length ≤ 500 ∧ (∀ o ∈ s.operands, o.pieces.length ≤ 500) ∧ ∀ x ∈ s.effects, ∀ t ∈ [x.addr, x.value, x.cond], t.nodes < 2 ^ 40 ∧ t.depth < 2 ^ 40
theorem p_checker_instr (m : Mach) (ok : Bool) (s : Ins_) (hok : ok = true → (1 ≤ m.word ∧ m.word ≤ 4) ∧ okRegs m = true ∧ okBanks m = true) (hbd : insBd m s) :
    ACall Tryd.prog glob (.func 41) 1 [.ptr 0 0, .pv s.pv] [(0, cbox m ok)] (.tup []) [(0, cbox m (ok && insB m s))] 1 := by
  obtain ⟨hb1, hb2, hb3, hb4, hb5, hb6, hb7⟩ := hbd
  refine k_machine_checker_instr.acall (by simp) (by simp) (by simp) (by simp [cbox]) (by simp) (by simp [cbox]) fun hwf => ?_
  have hmask : 0 ≤ s.mask ∧ s.mask ≤ 18446744073709551615 := by
    have := hwf (.pv s.pv) (by simp)
    simp only [DV.wf] at this; rw [Ins_.wf_pv] at this; simp [-Ins_.fold, maxLen, IntKind.min, IntKind.max, IntKind.signed, IntKind.bits] at this
    exact this.2.1
  have hc : ∀ i, (insSt m s (ok && insMasks m s) i).1 = (ok && (insSt m s (insMasks m s) i).1) := by
    intro i
    cases ok
    · simp only [Bool.false_and]
      rw [Bool.eq_false_iff]; intro h; exact absurd (insSt_mono h) (by simp)
    · simp
  simp [c_machine_checker_instr, cbox]
  refine DCallNext.pure (p_bits_Mask glob _) ?_
  simp
  refine DCallNext.obs' [0] (p_checker_must glob m _ [_, _]) rfl (by simp) (by simp) (by simp [bools]; exact ⟨rfl, rfl⟩) (by simp) (by simp [cbox]; rfl) ?_
  simp [cbox]
  have hu : ∀ i, (pc :: (s.operands.map (·.name)).take i).length ≤ i + 1 := fun i => by simp; omega
  generalize hcd : (ok && insMasks m s) = c at *
  have hw : c = true → 1 ≤ m.word ∧ m.word ≤ 4 := fun h => by rw [← hcd] at h; simp only [Bool.and_eq_true] at h; exact (hok h.1).1
  have htk := insSt_lt hw hmask.2
  have hi0 : (ok && (decide (bandNotI .u64 s.mask (maskI (IntKind.i64.wrap (8 * m.word))) = 0) && decide (bandNotI .u64 s.mtch s.mask = 0))) = c := hcd
  rw [hi0]
  refine Loop.nat (fun i => { e := [(0, .ptr 0 0), (3, .ptr 1 0), (4, .ptr 22 0), (5, .pv (.int .u64 ((insSt m s c i).2 : Nat))), (39, .pv (.lst 6 (s.operands.map Opnd.pv))), (40, .pv (.int .i64 s.operands.length)), (41, .pv (.int .i64 i))], h := [(0, cbox m (insSt m s c i).1), (1, s.bx), (22, nbox 23 (pc :: (s.operands.map (·.name)).take i)), (23, .tip 1 (i + 1))], nx := 24 }) s.operands.length (fun _ => True) (by simp [cbox]) (by simp) (by simp [cbox, nbox, strs, insSt, Ins_.bx, pc, Int.toNat_of_nonneg hmask.1]) fun i hi hinv => ?_
  by_cases hlt : i < s.operands.length
  · have hlen : (pc :: (s.operands.map (·.name)).take i).length = i + 1 := by simp; omega
    have hm := gt_mem (l := s.operands) (i := (i : Nat)) (by omega) (by omega)
    simp [hlt, cbox, Ins_.bx]
    refine CallNext.obs [22, 23] (p_names_fresh glob (pc :: (s.operands.map (·.name)).take i) (gt s.operands (i : Nat)).name (by rw [hlen]; omega)) (by simp) (by simp) (by simp) (by simp [nbox, hlen]) fun _ => ?_
    simp [nbox, cbox]
    refine CallNext.obs [0] (p_checker_must glob m _ [_]) (by simp) (by simp) (by simp [bools]; rfl) (by simp [cbox]; rfl) fun _ => ?_
    simp [cbox]
    let b := (insSt m s c i).1 && freshB (pc :: (s.operands.map (·.name)).take i) (gt s.operands (i : Nat)).name
    have hwb : b = true → 1 ≤ m.word ∧ m.word ≤ 4 := fun h => by simp only [b, Bool.and_eq_true] at h; exact hw (insSt_mono h.1)
    refine CallNext.obs [0] (p_checker_operand glob m b s i hlt hwb hb4 hb2 (hb6 _ hm)) (by simp) (by simp) (by simp) (by simp [cbox, b]) fun _ => ?_
    have hot := opTaken_lt (s := s) (i := i) hwb
    simp [cbox]
    rw [and_u64 (htk i) (by omega)]
    refine CallNext.obs [0] (p_checker_must glob m _ [_]) (by simp) (by simp) (by simp [bools]; rfl) (by simp [cbox]; rfl) fun _ => ?_
    simp [cbox, hlt, wrap_nat (show (0:Int) ≤ i + 1 by omega) (by omega)]
    rw [or_u64 (htk i) (by omega)]
    refine ⟨rfl, rfl, ?_, by omega⟩
    rw [take_names _ hlt]
  obtain rfl : i = s.operands.length := by omega
  simp [cbox, nbox, Ins_.bx]
  have hops : (insSt m s c s.operands.length).1 = true → ok = true ∧ (insSt m s (insMasks m s) s.operands.length).1 = true := fun h => by rw [hc] at h; simpa using h
  refine ⟨fun h => ?_, fun h => ?_⟩
  · refine ⟨[0], ?_⟩
    have h2 := hc s.operands.length
    rw [h] at h2
    simp [h]
    intro ho
    rw [ho, Bool.true_and] at h2
    rw [insB, ← h2]
    simp
  obtain ⟨hok1, hst⟩ := hops h
  obtain ⟨hww, hrg, hbk⟩ := hok hok1
  have hwide := wide_of hbk (insSt_ops h)
  refine CallNext.obs [0] (p_checker_variables glob m _ s hb1 (names_of hrg) hb4 hwide) (by simp) (by simp) (by simp) (by simp [cbox]; rfl) fun _ => ?_
  simp [cbox]
  refine Loop.nat (fun i => { e := [(0, .ptr 0 0), (3, .ptr 1 0), (9, .mref 25), (10, .mref 26), (77, .pv (.lst 21 (s.effects.map Eff.pv))), (78, .pv (.int .i64 s.effects.length)), (79, .pv (.int .i64 i))], h := [(0, cbox m ((s.effects.take i).all (effB m s (insVars m s)))), (1, s.bx), (22, nbox 23 (pc :: s.operands.map (·.name))), (23, .tip 1 (s.operands.length + 1)), (25, .mp (vmap (insVars m s))), (26, .mp (kmap (kindsN s i)))], nx := 27 }) s.effects.length (fun _ => True) (by simp [cbox]) (by simp) (by simp [cbox, nbox, Ins_.bx, h, kindsN, kmap, List.take_of_length_le (show (s.operands.map (·.name)).length ≤ s.operands.length by simp)]) fun i hi hinv => ?_
  by_cases hlt : i < s.effects.length
  · have hm := gt_mem (l := s.effects) (i := (i : Nat)) (by omega) (by omega)
    have hkl := kindsN_le s (gt s.effects (i : Nat)).kind i (by omega)
    have hkk : ∀ (n : Int) (s : KV), keysOk 1 (.int .u8 n) (kmap s) := fun n s => keysOk_kmap
    simp [hlt, cbox, Ins_.bx]
    refine CallNext.obs [0, 25] (p_checker_effect m (insVars m s) _ s (gt s.effects (i : Nat)) (hb7 _ hm) hb1 hb4 hwide) (by simp) (by simp) (by simp) (by simp [cbox]; rfl) fun _ => ?_
    simp [hlt, cbox, Eff.bx, hkk, wrap_nat (show (0:Int) ≤ i + 1 by omega) (by omega), all_take1 hlt, kindsN, wrap_nat (show (0:Int) ≤ (lookK (kindsN s i) (gt s.effects (i : Nat)).kind).getD 0 + 1 by omega) (by omega)]
    simp [nbox]
  obtain rfl : i = s.effects.length := by omega
  have hcnt : ∀ k : Int, (lookK (kindsN s s.effects.length) k).getD 0 = countK s k := fun k => by rw [kindsN_count s k _ (Nat.le_refl _), List.take_length]; rfl
  have hkk : ∀ (n : Int) (s : KV), keysOk 1 (.int .u8 n) (kmap s) := fun n s => keysOk_kmap
  simp [cbox, Ins_.bx, hkk, hcnt]
  refine DCallNext.pure (p_machine_within glob _ _ _) ?_
  simp
  refine DCallNext.pure (p_machine_within glob _ _ _) ?_
  simp
  refine DCallNext.pure (p_machine_within glob _ _ _) ?_
  simp
  refine DCallNext.pure (p_machine_within glob _ _ _) ?_
  simp
  rw [wrap_i64 (by omega) (by omega)]
  refine DCallNext.obs' [0] (p_checker_must glob m _ [_, _, _, _, _, _, _]) rfl (by simp) (by simp) (by simp [bools]; exact ⟨rfl, rfl, rfl, rfl, rfl, rfl, rfl⟩) (by simp) (by simp [cbox]; rfl) ?_
  simp [cbox]
  refine ⟨[0], ?_⟩
  simp [hok1, insB, hst, insTail]
  simp only [show ((s.effects.length : Int) = 1) = (s.effects.length = 1) from propext (by omega), Bool.and_assoc]
end Go.Proofs.YthocoandbiaoiaaDoorV

namespace Go.Proofs.YthocoandbiaoiaaDoorV
open Go
set_option maxRecDepth 100000
set_option maxHeartbeats 4000000
def chkBase (m : Mach) : Bool := isName m.name && inR m.word 1 4 && (decide (m.address = 16) || decide (m.address = 32)) && okRegs m && okBanks m && okUnits m
def chkSt (m : Mach) : Nat → Bool
  | 0 => chkBase m
  | i + 1 => chkSt m i && freshB ((m.instrs.map (·.name)).take i) (gt m.instrs (i : Nat)).name && insB m (gt m.instrs (i : Nat))
theorem chkSt_base {m : Mach} : ∀ {i : Nat}, chkSt m i = true → chkBase m = true
  | 0, h => h
  | i + 1, h => by simp only [chkSt, Bool.and_eq_true] at h; exact chkSt_base h.1.1
theorem chkSt_le {m : Mach} {i : Nat} : ∀ {n : Nat}, i ≤ n → chkSt m n = true → chkSt m i = true
  | 0, h, hn => by cases Nat.le_zero.1 h; exact hn
  | n + 1, h, hn => by
    rcases Nat.lt_or_eq_of_le h with h | rfl
    · simp only [chkSt, Bool.and_eq_true] at hn; exact chkSt_le (Nat.le_of_lt_succ h) hn.1.1
    · exact hn
def mchk (m : Mach) : Int := if inLimits m then if chkSt m m.instrs.length then 0 else 8 else 4
def mTerms (m : Mach) : Prop := ∀ s ∈ m.instrs, ∀ x ∈ s.effects, ∀ t ∈ [x.addr, x.value, x.cond], t.nodes < 2 ^ 40 ∧ t.depth < 2 ^ 40
theorem inLimits_iff {m : Mach} (h : inLimits m = true) : m.regs.length ≤ 64 ∧ m.banks.length ≤ 16 ∧ m.units.length ≤ 8 ∧ m.instrs.length ≤ 64 ∧ (∀ b ∈ m.banks, b.regs.length ≤ 64) ∧ ∀ s ∈ m.instrs, s.operands.length ≤ 4 ∧ s.effects.length ≤ 4 ∧ ∀ o ∈ s.operands, o.pieces.length ≤ 4 := by
  simp only [inLimits, Bool.and_eq_true, decide_eq_true_eq, List.all_eq_true] at h
  obtain ⟨⟨⟨⟨⟨h1, h2⟩, h3⟩, h4⟩, h5⟩, h6⟩ := h
  exact ⟨h1, h2, h3, h4, h5, fun s hs => ⟨(h6 s hs).1.1, (h6 s hs).1.2, (h6 s hs).2⟩⟩
theorem p_machine_Check (m : Mach) (ht : mTerms m) : PCall Tryd.prog glob 14 [.pv m.pv] (.pv (.int .i64 (mchk m))) := by
  refine k_machine_Check.pcall (by simp) (by simp) (by simp) fun hwf => ?_
  simp [c_machine_Check]
  refine CallNext.pure (p_machine_small glob m) fun _ => ?_
  simp
  refine ⟨fun hl => ?_, fun hl => ?_⟩
  · simp [mchk, hl]
  obtain ⟨hb1, hb2, hb3, hb4, hb5, hb6⟩ := inLimits_iff hl
  refine DCallNext.pure (p_bits_Name glob _) ?_
  simp
  refine DCallNext.pure (p_machine_within glob _ _ _) ?_
  simp
  refine DCallNext.obs' [1] (p_checker_must glob m true [_, _, _]) rfl (by simp) (by simp) (by simp [bools]; exact ⟨rfl, rfl, rfl⟩) (by simp) (by simp [cbox]) ?_
  simp [cbox]
  refine CallNext.obs [1] (p_checker_regs glob m _ (by omega)) (by simp) (by simp) (by simp) (by simp [cbox]; rfl) fun _ => ?_
  simp [cbox]
  refine CallNext.obs [1] (p_checker_banks glob m _ (by omega) (by omega) (fun b hb => by have := hb5 b hb; omega)) (by simp) (by simp) (by simp) (by simp [cbox]; rfl) fun _ => ?_
  simp [cbox]
  refine CallNext.obs [1] (p_checker_units glob m _ (by omega)) (by simp) (by simp) (by simp) (by simp [cbox]; rfl) fun _ => ?_
  simp [cbox]
  have hB0 : (isName m.name && (inR m.word 1 4 && (decide (m.address = 16) || decide (m.address = 32))) && okRegs m && okBanks m && okUnits m) = chkBase m := by unfold chkBase; ac_rfl
  refine Loop.nat (fun i => { e := [(3, .ptr 1 0), (4, .ptr 19 0), (37, .pv (.lst 9 (m.instrs.map Ins_.pv))), (38, .pv (.int .i64 m.instrs.length)), (39, .pv (.int .i64 i))], h := [(0, m.bx), (1, cbox m (chkSt m i)), (19, nbox 20 ((m.instrs.map (·.name)).take i)), (20, .tip 1 i)], nx := 21 }) m.instrs.length (fun _ => True) (by simp [cbox]) (by simp) (by simp [cbox, nbox, strs, Mach.bx, chkSt, ← hB0]) fun i hi hinv => ?_
  by_cases hlt : i < m.instrs.length
  · have hm := gt_mem (l := m.instrs) (i := (i : Nat)) (by omega) (by omega)
    have hlen : ((m.instrs.map (·.name)).take i).length = i := by simp; omega
    simp [hlt, cbox]
    refine ⟨fun hno => ?_, fun hyes => ?_⟩
    · refine ⟨fun _ => ?_, fun h => by rw [h] at hno; simp at hno⟩
      have hn : chkSt m m.instrs.length = false := by
        rw [Bool.eq_false_iff]; intro h
        rw [chkSt_le hi h] at hno; simp at hno
      simp [mchk, hl, hn]
    · refine CallNext.obs [19, 20] (p_names_fresh glob ((m.instrs.map (·.name)).take i) (gt m.instrs (i : Nat)).name (by rw [hlen]; omega)) (by simp) (by simp) (by simp) (by simp [nbox, hlen]) fun _ => ?_
      simp [nbox, cbox]
      refine CallNext.obs [1] (p_checker_must glob m _ [_]) (by simp) (by simp) (by simp [bools]; rfl) (by simp [cbox]; rfl) fun _ => ?_
      simp [cbox]
      have hbs := chkSt_base hyes
      simp only [chkBase, Bool.and_eq_true] at hbs
      obtain ⟨⟨⟨⟨⟨-, hw⟩, -⟩, hrg⟩, hbk⟩, -⟩ := hbs
      have hw' : 1 ≤ m.word ∧ m.word ≤ 4 := by simpa [inR] using hw
      obtain ⟨h61, h62, h63⟩ := hb6 _ hm
      refine CallNext.obs [1] (p_checker_instr m _ (gt m.instrs (i : Nat)) (fun _ => ⟨hw', hrg, hbk⟩) ⟨by omega, by omega, by omega, by omega, by omega, fun o ho => by have := h63 o ho; omega, ht _ hm⟩) (by simp) (by simp) (by simp) (by simp [cbox]; rfl) fun _ => ?_
      simp [hlt, cbox, Mach.bx, wrap_nat (show (0:Int) ≤ i + 1 by omega) (by omega), chkSt]
      rw [take_names _ hlt]
      exact ⟨rfl, by omega⟩
  · obtain rfl : i = m.instrs.length := by omega
    simp [cbox, mchk, hl]
end Go.Proofs.YthocoandbiaoiaaDoorV

namespace Go.Proofs.YthocoandbiaoiaaDoorV
open Go
set_option maxHeartbeats 1000000
theorem and_zero_iff {a b : Nat} : a &&& b = 0 ↔ ∀ k, ¬ (a.testBit k = true ∧ b.testBit k = true) := by
  constructor
  · intro h k hk
    have := Nat.testBit_and a b k
    rw [h, Nat.zero_testBit, hk.1, hk.2] at this
    simp at this
  · intro h
    refine Nat.eq_of_testBit_eq fun k => ?_
    rw [Nat.testBit_and, Nat.zero_testBit]
    have := h k
    cases ha : a.testBit k <;> cases hb : b.testBit k <;> simp_all
theorem pmask_bit {word : Int} {ps : List Piece} {j : Nat} (h : rngOk word ps j = true) (b : Nat) : (pmask (gt ps (j : Nat))).testBit b = covers (gt ps (j : Nat)) b := by
  simp only [rngOk, Bool.and_eq_true] at h
  have h1 : 1 ≤ (gt ps (j : Nat)).len ∧ (gt ps (j : Nat)).len ≤ 8 * word := by simpa [inR] using h.1
  have h2 : 0 ≤ (gt ps (j : Nat)).at_ ∧ (gt ps (j : Nat)).at_ ≤ 8 * word - (gt ps (j : Nat)).len := by simpa [inR] using h.2
  generalize gt ps (j : Nat) = p at *
  rw [pmask, Nat.mul_comm, Nat.testBit_two_pow_mul, Nat.testBit_two_pow_sub_one]
  rw [Bool.eq_iff_iff]
  simp [covers, inR]
  omega
theorem coverP_nonneg (ps : List Piece) (b : Nat) : ∀ n, 0 ≤ coverP ps b n
  | 0 => by simp [coverP]
  | n + 1 => by have := coverP_nonneg ps b n; rw [coverP]; split <;> omega
theorem takenN_bit {word : Int} {ps : List Piece} (b : Nat) : ∀ n, (∀ j, j < n → rngOk word ps j = true) → ((takenN ps n).testBit b = true ↔ 1 ≤ coverP ps b n)
  | 0, _ => by simp [takenN, coverP]
  | n + 1, h => by
    have ih := takenN_bit b n fun j hj => h j (by omega)
    have h0 := coverP_nonneg ps b n
    rw [takenN, Nat.testBit_or, Bool.or_eq_true, ih, pmask_bit (h n (by omega)), coverP]
    split
    · rename_i hc; simp [hc]; omega
    · rename_i hc; simp [hc]
theorem pieces_apart {word : Int} {ps : List Piece} : ∀ n, (∀ j, j < n → rngOk word ps j = true) → ((∀ j, j < n → takenN ps j &&& pmask (gt ps (j : Nat)) = 0) ↔ ∀ b, coverP ps b n ≤ 1)
  | 0, _ => by simp [coverP]
  | n + 1, h => by
    have hn : ∀ j, j < n → rngOk word ps j = true := fun j hj => h j (by omega)
    have ih := pieces_apart n hn
    constructor
    · intro hd b
      have h1 := ih.1 (fun j hj => hd j (by omega)) b
      rw [coverP]
      split
      · rename_i hc
        have h2 := and_zero_iff.1 (hd n (by omega)) b
        rw [takenN_bit b n hn, pmask_bit (h n (by omega)), hc] at h2
        simp at h2; omega
      · omega
    · intro hc j hj
      rcases Nat.lt_or_eq_of_le (Nat.le_of_lt_succ hj) with hj | rfl
      · refine ih.2 (fun b => ?_) j hj
        have := hc b
        rw [coverP] at this
        split at this <;> omega
      · rw [and_zero_iff]
        rintro b ⟨h1, h2⟩
        rw [takenN_bit b _ hn] at h1
        rw [pmask_bit (h _ (by omega))] at h2
        have := hc b
        rw [coverP, if_pos h2] at this
        omega
def tkT (s : Ins_) : Nat → Nat
  | 0 => s.mask.toNat
  | i + 1 => tkT s i ||| takenN (gt s.operands (i : Nat)).pieces (gt s.operands (i : Nat)).pieces.length
def rngs (m : Mach) (s : Ins_) (n : Nat) : Prop := ∀ i, i < n → ∀ j, j < (gt s.operands (i : Nat)).pieces.length → rngOk m.word (gt s.operands (i : Nat)).pieces j = true
theorem coverO_nonneg (s : Ins_) (b : Nat) : ∀ n, 0 ≤ coverO s b n
  | 0 => by simp [coverO]
  | n + 1 => by have := coverO_nonneg s b n; have := coverP_nonneg (gt s.operands (n : Nat)).pieces b (gt s.operands (n : Nat)).pieces.length; rw [coverO]; omega
theorem bitI_bit {w : Int} (h : 0 ≤ w) (b : Nat) : bitI w b = if w.toNat.testBit b then 1 else 0 := by
  have e : w = (w.toNat : Int) := (Int.toNat_of_nonneg h).symm
  generalize w.toNat = n at e
  subst e
  rw [bitI, Nat.testBit_eq_decide_div_mod_eq]
  have : ((n : Int) / 2 ^ b % 2) = ((n / 2 ^ b % 2 : Nat) : Int) := by push_cast; rfl
  rw [this]
  by_cases h1 : n / 2 ^ b % 2 = 1
  · simp [h1]
  · simp [h1]; omega
theorem tkT_bit {m : Mach} {s : Ins_} (hm : 0 ≤ s.mask) (b : Nat) : ∀ n, rngs m s n → ((tkT s n).testBit b = true ↔ 1 ≤ bitI s.mask b + coverO s b n)
  | 0, _ => by rw [tkT, coverO, bitI_bit hm]; split <;> simp_all
  | n + 1, h => by
    have ih := tkT_bit hm b n fun i hi => h i (by omega)
    have h0 := coverO_nonneg s b n
    have h1 : 0 ≤ bitI s.mask b := by rw [bitI_bit hm]; split <;> omega
    have h2 := coverP_nonneg (gt s.operands (n : Nat)).pieces b (gt s.operands (n : Nat)).pieces.length
    rw [tkT, Nat.testBit_or, Bool.or_eq_true, ih, takenN_bit b _ (h n (by omega)), coverO]
    omega
theorem ops_apart {m : Mach} {s : Ins_} (hm : 0 ≤ s.mask) : ∀ n, rngs m s n →
    ((∀ i, i < n → (∀ j, j < (gt s.operands (i : Nat)).pieces.length → takenN (gt s.operands (i : Nat)).pieces j &&& pmask (gt (gt s.operands (i : Nat)).pieces (j : Nat)) = 0) ∧ tkT s i &&& takenN (gt s.operands (i : Nat)).pieces (gt s.operands (i : Nat)).pieces.length = 0) ↔ ∀ b, bitI s.mask b + coverO s b n ≤ 1)
  | 0, _ => by
    simp only [coverO]
    refine ⟨fun _ b => ?_, fun _ i hi => by omega⟩
    rw [bitI_bit hm]; split <;> omega
  | n + 1, h => by
    have hn : rngs m s n := fun i hi => h i (by omega)
    have ih := ops_apart hm n hn
    have hp := pieces_apart (gt s.operands (n : Nat)).pieces.length (h n (by omega))
    have h1 : ∀ b, 0 ≤ bitI s.mask b := fun b => by rw [bitI_bit hm]; split <;> omega
    constructor
    · intro hd b
      have h2 := ih.1 (fun i hi => hd i (by omega)) b
      have h3 := hp.1 (hd n (by omega)).1 b
      have h4 := and_zero_iff.1 (hd n (by omega)).2 b
      rw [tkT_bit hm b n hn, takenN_bit b _ (h n (by omega))] at h4
      have h5 := coverO_nonneg s b n
      have h6 := coverP_nonneg (gt s.operands (n : Nat)).pieces b (gt s.operands (n : Nat)).pieces.length
      have h7 := h1 b
      rw [coverO]
      omega
    · intro hc i hi
      rcases Nat.lt_or_eq_of_le (Nat.le_of_lt_succ hi) with hi | rfl
      · refine ih.2 (fun b => ?_) i hi
        have := hc b
        rw [coverO] at this
        have h6 := coverP_nonneg (gt s.operands (n : Nat)).pieces b (gt s.operands (n : Nat)).pieces.length
        omega
      · refine ⟨hp.2 fun b => ?_, ?_⟩
        · have := hc b
          rw [coverO] at this
          have h5 := coverO_nonneg s b i
          have h7 := h1 b
          omega
        · rw [and_zero_iff]
          rintro b ⟨h2, h3⟩
          rw [tkT_bit hm b _ hn] at h2
          rw [takenN_bit b _ (h _ (by omega))] at h3
          have := hc b
          rw [coverO] at this
          omega
theorem coverP_out {word : Int} {ps : List Piece} {b : Nat} (hb : 8 * word ≤ b) : ∀ n, (∀ j, j < n → rngOk word ps j = true) → coverP ps b n = 0
  | 0, _ => rfl
  | n + 1, h => by
    have h1 := h n (by omega)
    simp only [rngOk, Bool.and_eq_true] at h1
    have h2 : 0 ≤ (gt ps (n : Nat)).at_ ∧ (gt ps (n : Nat)).at_ ≤ 8 * word - (gt ps (n : Nat)).len := by simpa [inR] using h1.2
    rw [coverP, coverP_out hb n fun j hj => h j (by omega), if_neg]; rfl
    simp [covers, inR]; omega
theorem coverO_out {m : Mach} {s : Ins_} {b : Nat} (hb : 8 * m.word ≤ b) : ∀ n, rngs m s n → coverO s b n = 0
  | 0, _ => rfl
  | n + 1, h => by rw [coverO, coverO_out hb n fun i hi => h i (by omega), coverP_out hb _ (h n (by omega))]; rfl
theorem apart_iff {m : Mach} {s : Ins_} (hw : 1 ≤ m.word ∧ m.word ≤ 4) (hm : 0 ≤ s.mask) (hm2 : s.mask < 2 ^ (8 * m.word).toNat) (hr : rngs m s s.operands.length) : apart m s = true ↔ ∀ b, bitI s.mask b + coverO s b s.operands.length ≤ 1 := by
  rw [apart, allB_true]
  simp only [decide_eq_true_eq]
  refine ⟨fun h b => ?_, fun h b _ => h b⟩
  by_cases hb : b < (8 * m.word).toNat
  · exact h b hb
  · rw [coverO_out (by omega) _ hr, bitI_bit hm]; split <;> omega
end Go.Proofs.YthocoandbiaoiaaDoorV

namespace Go.Proofs.YthocoandbiaoiaaDoorV
open Go
set_option maxHeartbeats 1000000
theorem insMasks_iff {m : Mach} {s : Ins_} (hw : 1 ≤ m.word ∧ m.word ≤ 4) (h1 : 0 ≤ s.mask ∧ s.mask ≤ 18446744073709551615) (h2 : 0 ≤ s.mtch ∧ s.mtch ≤ 18446744073709551615) : insMasks m s = (decide (s.mask < 2 ^ (8 * m.word).toNat) && allB 64 (fun b => decide (bitI s.mtch b ≤ bitI s.mask b))) := by
  obtain ⟨k, hk⟩ : ∃ k : Nat, s.mask = k := ⟨s.mask.toNat, by omega⟩
  obtain ⟨l, hl⟩ : ∃ l : Nat, s.mtch = l := ⟨s.mtch.toNat, by omega⟩
  have hk2 : k < 2 ^ 64 := by omega
  have hl2 : l < 2 ^ 64 := by omega
  have hp : 2 ^ (8 * m.word).toNat ≤ 2 ^ 32 := Nat.pow_le_pow_right (by omega) (by omega)
  have hp0 : 0 < 2 ^ (8 * m.word).toNat := Nat.pow_pos (by omega)
  rw [insMasks, wrap_i64 (by omega) (by omega), maskI_nat (by omega), hk, hl, andNot_u64 hk2 (by omega), andNot_u64 hl2 hk2]
  congr 1
  · rw [Bool.eq_iff_iff, decide_eq_true_eq, decide_eq_true_eq]
    rw [show ((k &&& (2 ^ 64 - 1 - (2 ^ (8 * m.word).toNat - 1)) : Nat) : Int) = 0 ↔ k &&& (2 ^ 64 - 1 - (2 ^ (8 * m.word).toNat - 1)) = 0 by omega]
    rw [and_zero_iff]
    have hx : ∀ i, (2 ^ 64 - 1 - (2 ^ (8 * m.word).toNat - 1)).testBit i = (decide (i < 64) && !decide (i < (8 * m.word).toNat)) := fun i => by
      rw [show 2 ^ 64 - 1 - (2 ^ (8 * m.word).toNat - 1) = 2 ^ 64 - ((2 ^ (8 * m.word).toNat - 1) + 1) by omega, Nat.testBit_two_pow_sub_succ (by omega), Nat.testBit_two_pow_sub_one]
    have hlt : ((k : Int) < 2 ^ (8 * m.word).toNat) ↔ k < 2 ^ (8 * m.word).toNat := by
      rw [show ((2 : Int) ^ (8 * m.word).toNat) = ((2 ^ (8 * m.word).toNat : Nat) : Int) by push_cast; rfl]; omega
    rw [hlt]
    constructor
    · intro h
      refine Nat.lt_pow_two_of_testBit _ fun i hi => ?_
      have := h i
      rw [hx] at this
      by_cases h64 : i < 64
      · have h3 : ¬ i < (8 * m.word).toNat := by omega
        simp [h64, h3] at this; exact this
      · exact Nat.testBit_lt_two_pow (Nat.lt_of_lt_of_le hk2 (Nat.pow_le_pow_right (by omega) (by omega)))
    · rintro h i ⟨h3, h4⟩
      rw [hx] at h4
      simp at h4
      rw [Nat.testBit_lt_two_pow (Nat.lt_of_lt_of_le h (Nat.pow_le_pow_right (by omega) (by omega)))] at h3
      simp at h3
  · rw [Bool.eq_iff_iff, decide_eq_true_eq, allB_true]
    rw [show ((l &&& (2 ^ 64 - 1 - k) : Nat) : Int) = 0 ↔ l &&& (2 ^ 64 - 1 - k) = 0 by omega, and_zero_iff]
    have hx : ∀ i, (2 ^ 64 - 1 - k).testBit i = (decide (i < 64) && !k.testBit i) := fun i => by
      rw [show 2 ^ 64 - 1 - k = 2 ^ 64 - (k + 1) by omega, Nat.testBit_two_pow_sub_succ hk2]
    simp only [decide_eq_true_eq]
    have hb : ∀ i, bitI (l : Int) i ≤ bitI (k : Int) i ↔ ¬ (l.testBit i = true ∧ k.testBit i = false) := fun i => by
      rw [bitI_bit (by omega), bitI_bit (by omega)]
      simp only [Int.toNat_natCast]
      by_cases hl : l.testBit i = true <;> by_cases hk : k.testBit i = true <;> simp [hl, hk]
    constructor
    · intro h i hi
      rw [hb]
      have := h i
      rw [hx] at this
      simpa [hi] using this
    · rintro h i ⟨h3, h4⟩
      rw [hx] at h4
      simp at h4
      exact (hb i).1 (h i h4.1) ⟨h3, h4.2⟩
theorem freshB_ops {s : Ins_} {i : Nat} (h : i < s.operands.length) : freshB (pc :: (s.operands.map (·.name)).take i) (gt s.operands (i : Nat)).name = (isName (gt s.operands (i : Nat)).name && !decide ((gt s.operands (i : Nat)).name = pc) && allB i fun k => !decide ((gt s.operands (k : Nat)).name = (gt s.operands (i : Nat)).name)) := by
  have := fresh_take (l := s.operands) (·.name) h
  rw [freshB] at this ⊢
  rw [List.any_cons, Bool.not_or]
  cases hn : isName (gt s.operands (i : Nat)).name
  · simp
  · rw [hn, Bool.true_and, Bool.true_and] at this
    rw [this]; simp [Bool.and_assoc]
theorem insSt_iff {m : Mach} {s : Ins_} {c : Bool} (hw : c = true → 1 ≤ m.word ∧ m.word ≤ 4) : ∀ n, ((insSt m s c n).1 = true ↔ c = true ∧ ∀ i, i < n → freshB (pc :: (s.operands.map (·.name)).take i) (gt s.operands (i : Nat)).name = true ∧ opOk m s i = true ∧ tkT s i &&& takenN (gt s.operands (i : Nat)).pieces (gt s.operands (i : Nat)).pieces.length = 0) ∧ ((insSt m s c n).1 = true → (insSt m s c n).2 = tkT s n)
  | 0 => ⟨by simp [insSt], fun _ => rfl⟩
  | n + 1 => by
    obtain ⟨ih1, ih2⟩ := insSt_iff hw n
    have key : (insSt m s c (n + 1)).1 = true ↔ (insSt m s c n).1 = true ∧ freshB (pc :: (s.operands.map (·.name)).take n) (gt s.operands (n : Nat)).name = true ∧ opOk m s n = true ∧ tkT s n &&& takenN (gt s.operands (n : Nat)).pieces (gt s.operands (n : Nat)).pieces.length = 0 := by
      simp only [insSt, Bool.and_eq_true, decide_eq_true_eq]
      constructor
      · rintro ⟨⟨⟨h1, h2⟩, h3⟩, h4⟩
        rw [ih2 h1, opTaken_eq (by simp [h1, h2, h3])] at h4
        exact ⟨h1, h2, h3, h4⟩
      · rintro ⟨h1, h2, h3, h4⟩
        rw [ih2 h1, opTaken_eq (by simp [h1, h2, h3])]
        exact ⟨⟨⟨h1, h2⟩, h3⟩, h4⟩
    constructor
    · rw [key, ih1]
      constructor
      · rintro ⟨⟨h1, h2⟩, h3⟩
        exact ⟨h1, fun i hi => by rcases Nat.lt_or_eq_of_le (Nat.le_of_lt_succ hi) with hi | rfl; exact h2 i hi; exact h3⟩
      · rintro ⟨h1, h2⟩
        exact ⟨⟨h1, fun i hi => h2 i (by omega)⟩, h2 n (by omega)⟩
    · intro h
      obtain ⟨h1, h2, h3, -⟩ := key.1 h
      simp only [insSt, tkT]
      rw [ih2 h1, opTaken_eq (by simp [h1, h2, h3])]
theorem okOperand_eq {m : Mach} {s : Ins_} {i : Nat} (h : i < s.operands.length) : okOperand m s i = (freshB (pc :: (s.operands.map (·.name)).take i) (gt s.operands (i : Nat)).name && (allB (gt s.operands (i : Nat)).pieces.length (rngOk m.word (gt s.operands (i : Nat)).pieces) && kindOk m s i)) := by
  rw [freshB_ops h]
  have : okPieces (gt s.operands (i : Nat)) m.word = allB (gt s.operands (i : Nat)).pieces.length (rngOk m.word (gt s.operands (i : Nat)).pieces) := rfl
  simp only [okOperand, this, kindOk]
  ac_rfl
theorem ins_ops {m : Mach} {s : Ins_} (hw : 1 ≤ m.word ∧ m.word ≤ 4) (h1 : 0 ≤ s.mask ∧ s.mask ≤ 18446744073709551615) (h2 : 0 ≤ s.mtch ∧ s.mtch ≤ 18446744073709551615) :
    (insSt m s (insMasks m s) s.operands.length).1 = (decide (s.mask < 2 ^ (8 * m.word).toNat) && allB 64 (fun b => decide (bitI s.mtch b ≤ bitI s.mask b)) && allB s.operands.length (okOperand m s) && apart m s) := by
  rw [Bool.eq_iff_iff, (insSt_iff (fun _ => hw) _).1, insMasks_iff hw h1 h2]
  simp only [Bool.and_eq_true, decide_eq_true_eq, allB_true]
  constructor
  · rintro ⟨⟨a, b⟩, c⟩
    have hr : rngs m s s.operands.length := fun i hi j hj => by
      have := (c i hi).2.1
      simp only [opOk, Bool.and_eq_true, allB_true, pcOk] at this
      exact (this.1 j hj).1
    refine ⟨⟨⟨a, b⟩, fun i hi => ?_⟩, ?_⟩
    · rw [okOperand_eq hi]
      simp only [Bool.and_eq_true, allB_true]
      have := (c i hi).2.1
      simp only [opOk, Bool.and_eq_true] at this
      exact ⟨(c i hi).1, hr i hi, this.2⟩
    · rw [apart_iff hw h1.1 a hr]
      refine (ops_apart h1.1 _ hr).1 fun i hi => ⟨fun j hj => ?_, (c i hi).2.2⟩
      have := (c i hi).2.1
      simp only [opOk, Bool.and_eq_true, allB_true, pcOk, decide_eq_true_eq] at this
      exact (this.1 j hj).2
  · rintro ⟨⟨⟨a, b⟩, c⟩, d⟩
    have hc : ∀ i, i < s.operands.length → freshB (pc :: (s.operands.map (·.name)).take i) (gt s.operands (i : Nat)).name = true ∧ (∀ j, j < (gt s.operands (i : Nat)).pieces.length → rngOk m.word (gt s.operands (i : Nat)).pieces j = true) ∧ kindOk m s i = true := fun i hi => by
      have := c i hi
      rw [okOperand_eq hi] at this
      simpa only [Bool.and_eq_true, allB_true] using this
    have hr : rngs m s s.operands.length := fun i hi => (hc i hi).2.1
    rw [apart_iff hw h1.1 a hr] at d
    have hd := (ops_apart h1.1 _ hr).2 d
    refine ⟨⟨a, b⟩, fun i hi => ⟨(hc i hi).1, ?_, (hd i hi).2⟩⟩
    simp only [opOk, Bool.and_eq_true, allB_true, pcOk, decide_eq_true_eq]
    exact ⟨fun j hj => ⟨(hc i hi).2.1 j hj, (hd i hi).1 j hj⟩, (hc i hi).2.2⟩
end Go.Proofs.YthocoandbiaoiaaDoorV

namespace Go.Proofs.YthocoandbiaoiaaDoorV
open Go
set_option maxHeartbeats 1000000
theorem look_fold {α : Type} (f : α → ByteArray) (g : α → Int) (n : ByteArray) : ∀ (l : List α) (a : NV), (∀ x ∈ l, ∀ y ∈ l, f x = f y → x = y) →
    lookV (l.foldl (fun a o => putV a (f o) (g o)) a) n = (l.find? (fun o => decide (f o = n))).elim (lookV a n) fun o => some (g o)
  | [], a, _ => rfl
  | x :: r, a, h => by
    rw [List.foldl_cons, look_fold f g n r _ fun y hy z hz => h y (.tail _ hy) z (.tail _ hz), List.find?_cons]
    by_cases hx : f x = n
    · simp only [hx, decide_true]
      cases hf : r.find? (fun o => decide (f o = n)) with
      | none => simp [lookV_putV]
      | some y =>
        have h1 := List.find?_some hf
        simp only [decide_eq_true_eq] at h1
        have h2 := h x (.head _) y (.tail _ (List.mem_of_find?_eq_some hf)) (by rw [hx, h1])
        simp [h2]
    · simp only [hx, decide_false]
      cases hf : r.find? (fun o => decide (f o = n)) with
      | none => simp [lookV_putV, Ne.symm hx]
      | some y => rfl
theorem inj_of {α : Type} [Inhabited α] {l : List α} {f : α → ByteArray} (h : ∀ i, i < l.length → ∀ k, k < i → f (gt l (k : Nat)) ≠ f (gt l (i : Nat))) : ∀ x ∈ l, ∀ y ∈ l, f x = f y → x = y := by
  intro x hx y hy he
  obtain ⟨i, hi, rfl⟩ := List.getElem_of_mem hx
  obtain ⟨k, hk, rfl⟩ := List.getElem_of_mem hy
  rcases Nat.lt_trichotomy i k with hik | rfl | hik
  · have := h k hk i hik
    rw [gt_nat hi, gt_nat hk] at this
    exact absurd he this
  · rfl
  · have := h i hi k hik
    rw [gt_nat hi, gt_nat hk] at this
    exact absurd he.symm this
theorem rname_pc (n : ByteArray) : rname n ≠ pc := by
  intro h
  have := congrArg ByteArray.data h
  rw [rname, rdot, pc, ByteArray.data_append] at this
  have := congrArg Array.toList this
  simp at this
theorem rname_inj {a b : ByteArray} (h : rname a = rname b) : a = b := by
  rw [rname, rname] at h
  have := congrArg ByteArray.data h
  rw [ByteArray.data_append, ByteArray.data_append] at this
  have := congrArg Array.toList this
  simp [rdot] at this
  exact ByteArray.ext this
def namesOk (m : Mach) (s : Ins_) : Prop := (∀ i, i < m.regs.length → ∀ k, k < i → (gt m.regs (k : Nat)).name ≠ (gt m.regs (i : Nat)).name) ∧ (∀ i, i < s.operands.length → ∀ k, k < i → (gt s.operands (k : Nat)).name ≠ (gt s.operands (i : Nat)).name) ∧ ∀ o ∈ s.operands, o.name ≠ pc
theorem var_eq {m : Mach} {s : Ins_} (h : namesOk m s) (n : ByteArray) {w : Int} (hw : 1 ≤ w) : decide ((lookV (insVars m s) n).getD 0 = w) = isVarOf m s n w := by
  obtain ⟨h1, h2, h3⟩ := h
  have e1 : lookV (insVars m s) n = (s.operands.find? (fun o => decide (o.name = n))).elim (lookV (regVars m m.regs.length) n) fun o => some (wideI m o) := by
    rw [insVars, insVarsN, List.take_length]; exact look_fold (fun o : Opnd => o.name) (wideI m) n s.operands (regVars m m.regs.length) (inj_of h2)
  have e2 : lookV (regVars m m.regs.length) n = (m.regs.find? (fun r => decide (rname r.name = n))).elim (lookV [(pc, m.address)] n) fun r => some r.width := by
    rw [regVars, List.take_length]; exact look_fold (fun r : Reg => rname r.name) (fun r : Reg => r.width) n m.regs [(pc, m.address)] (inj_of (f := fun r : Reg => rname r.name) fun i hi k hk he => h1 i hi k hk (rname_inj he))
  rw [e1, e2]
  unfold isVarOf
  by_cases hn : n = pc
  · subst hn
    have f1 : s.operands.find? (fun o => decide (o.name = pc)) = none := List.find?_eq_none.2 fun o ho => by simpa using h3 o ho
    have f2 : m.regs.find? (fun r => decide (rname r.name = pc)) = none := List.find?_eq_none.2 fun r _ => by simpa using rname_pc r.name
    rw [f1, f2]
    simp [lookV, eq_comm]
  · rw [if_neg hn]
    cases s.operands.find? (fun o => decide (o.name = n)) with
    | some o => simp [eq_comm]
    | none =>
      cases m.regs.find? (fun r => decide (rname r.name = n)) with
      | some r => simp [eq_comm]
      | none => simp [lookV, hn]; omega
theorem knownL_eq {m : Mach} {s : Ins_} : ∀ {l : List Tm}, knownL m s l = l.all (known m s)
  | [] => rfl
  | t :: r => by rw [knownL, knownL_eq, List.all_cons]
theorem known_eq {m : Mach} {s : Ins_} {t : Tm} : known m s t = ((!decide (t.op = 2) || isVarOf m s t.name t.width) && (!decide (t.op = 24) || decide ((gt t.sub 0).width = m.address)) && t.sub.all (known m s)) := by cases t; rw [known, knownL_eq]
theorem leaves_known {m : Mach} {s : Ins_} (h : namesOk m s) (n : Nat) : ∀ t : Tm, SizeOf.sizeOf t < n → t.formed = true → leavesB m.address (insVars m s) t = known m s t := by
  induction n with
  | zero => intro t h; omega
  | succ n ih =>
  intro t hn hf
  have hwd := (Tm.formed_width hf).1
  rw [Tm.formed_eq, Bool.and_eq_true, Tm.formedL_eq] at hf
  rw [leavesB_eq, known_eq]
  have hsub : t.sub.all (leavesB m.address (insVars m s)) = t.sub.all (known m s) := by
    rw [Bool.eq_iff_iff, List.all_eq_true, List.all_eq_true]
    have : ∀ u ∈ t.sub, leavesB m.address (insVars m s) u = known m s u := fun u hu => by
      obtain ⟨i, hi, rfl⟩ := List.getElem_of_mem hu
      have h1 := Tm.size_gt hi
      rw [gt_nat hi] at h1
      exact ih _ (by omega) (List.all_eq_true.1 hf.1 _ hu)
    exact ⟨fun h u hu => by rw [← this u hu]; exact h u hu, fun h u hu => by rw [this u hu]; exact h u hu⟩
  rw [hsub]
  congr 1
  unfold leafB
  by_cases h2 : t.op = 2
  · simp [h2, var_eq h _ hwd]
  · by_cases h24 : t.op = 24
    · simp [h24]
    · simp [h2, h24]
theorem fit_eq {m : Mach} {s : Ins_} (h : namesOk m s) (t : Tm) : fitB m (insVars m s) t = fitsB m s t := by
  unfold fitB fitsB
  by_cases hc : t.check = 0
  · have hf : t.formed = true := by
      rw [Tm.check_eq] at hc
      split at hc
      · omega
      · split at hc
        · assumption
        · omega
    rw [leaves_known h _ t (Nat.lt_succ_self _) hf]
  · simp [hc]
theorem eff_eq {m : Mach} {s : Ins_} (h : namesOk m s) (x : Eff) : effB m s (insVars m s) x = okEffect m s x := by
  unfold effB okEffect
  simp only [fit_eq h]
  by_cases h1 : x.kind = 1
  · simp only [h1, if_true]
    have hin : inR (-1) 0 ((s.operands.length : Int) - 1) = false := by simp [inR]
    by_cases ho : x.operand = -1
    · simp only [ho, true_and, if_true, hin]
      by_cases hr : inR x.reg 0 ((m.regs.length : Int) - 1) = true
      · simp [hr]; ac_rfl
      · simp [hr]
    · simp only [ho, false_and, if_false]
      by_cases hr : x.reg = 0 ∧ inR x.operand 0 ((s.operands.length : Int) - 1) = true
      · simp [hr]; ac_rfl
      · rw [if_neg hr]
        have : (decide (x.reg = 0) && inR x.operand 0 ((s.operands.length : Int) - 1)) = false := by
          rw [Bool.eq_false_iff]; intro hh; apply hr; simpa using hh
        simp [this]
  · by_cases h2 : x.kind = 2
    · simp [h2]; ac_rfl
    · by_cases h3 : x.kind = 3
      · simp [h3]; ac_rfl
      · by_cases h4 : x.kind = 4
        · simp [h4]; ac_rfl
        · simp [h1, h2, h3, h4]
theorem names_ok {m : Mach} {s : Ins_} (hr : okRegs m = true) (ho : allB s.operands.length (okOperand m s) = true) : namesOk m s := by
  refine ⟨fun i hi k hk => ?_, fun i hi k hk => ?_, fun o hm => ?_⟩
  · simp only [okRegs, Bool.and_eq_true] at hr
    have := allB_true.1 hr.1 i hi
    simp only [rgOk, Bool.and_eq_true] at this
    simpa using allB_true.1 this.1.2 k hk
  · have := allB_true.1 ho i hi
    rw [okOperand_eq hi, freshB_ops hi] at this
    simp only [Bool.and_eq_true] at this
    simpa using allB_true.1 this.1.2 k hk
  · obtain ⟨i, hi, rfl⟩ := List.getElem_of_mem hm
    have := allB_true.1 ho i hi
    rw [okOperand_eq hi, freshB_ops hi] at this
    simp only [Bool.and_eq_true] at this
    have := this.1.1.2
    rw [gt_nat hi] at this
    simpa using this
theorem ins_eq {m : Mach} {s : Ins_} (hw : 1 ≤ m.word ∧ m.word ≤ 4) (hr : okRegs m = true) (h1 : 0 ≤ s.mask ∧ s.mask ≤ 18446744073709551615) (h2 : 0 ≤ s.mtch ∧ s.mtch ≤ 18446744073709551615) : insB m s = okInstr m s := by
  rw [insB, ins_ops hw h1 h2]
  unfold okInstr
  by_cases ho : allB s.operands.length (okOperand m s) = true
  · have hn := names_ok hr ho
    have he : effB m s (insVars m s) = okEffect m s := funext fun x => eff_eq hn x
    have hl : (decide (countK s 4 = 0) || decide (s.effects.length = 1)) = (decide (countK s 4 = 0) || decide (s.effects.length ≤ 1)) := by
      by_cases h0 : countK s 4 = 0
      · simp [h0]
      · have : s.effects.length ≠ 0 := by
          intro hz; apply h0
          rw [List.length_eq_zero_iff] at hz
          simp [countK, hz]
        simp only [h0, decide_false, Bool.false_or]
        rw [Bool.eq_iff_iff]; simp; omega
    rw [he, insTail, hl]
    ac_rfl
  · simp [ho]
theorem mcheck_eq {m : Mach} (h : ∀ s ∈ m.instrs, (0 ≤ s.mask ∧ s.mask ≤ 18446744073709551615) ∧ 0 ≤ s.mtch ∧ s.mtch ≤ 18446744073709551615) : mchk m = mcheck m := by
  unfold mchk mcheck
  have hc : ∀ n, n ≤ m.instrs.length → chkSt m n = (chkBase m && allB n (instrOk m)) := by
    intro n
    induction n with
    | zero => simp [chkSt]
    | succ n ih =>
      intro hn
      have hlt : n < m.instrs.length := by omega
      rw [chkSt, ih (by omega), allB_succ, fresh_take (l := m.instrs) (·.name) hlt]
      by_cases hb : chkBase m = true
      · have hbs := hb
        simp only [chkBase, Bool.and_eq_true] at hbs
        obtain ⟨⟨⟨⟨⟨-, hw⟩, -⟩, hrg⟩, -⟩, -⟩ := hbs
        have hw' : 1 ≤ m.word ∧ m.word ≤ 4 := by simpa [inR] using hw
        obtain ⟨h1, h2⟩ := h _ (gt_mem (l := m.instrs) (i := (n : Nat)) (by omega) (by omega))
        rw [ins_eq hw' hrg h1 h2]
        simp only [instrOk]
        ac_rfl
      · simp [hb]
  rw [hc _ (Nat.le_refl _)]
  rfl
end Go.Proofs.YthocoandbiaoiaaDoorV

namespace Go.Proofs.YthocoandbiaoiaaDoorV
open Go
theorem Tm.countL_ge : ∀ (l : List Tm) (lim : Int) (d : Nat) (n : Int), 0 ≤ lim → n ≤ (Tm.countL l lim d n).1
  | [], lim, d, n, _ => by rw [Tm.countL]; exact Int.le_refl _
  | t :: r, lim, d, n, h => by
    rw [Tm.countL]
    split
    · split
      · have h1 := Tm.count_le t (lim - n) d (by omega)
        have h2 := Tm.countL_ge r lim d (n + (t.count (lim - n) d).1) h
        omega
      · exact Int.le_refl _
    · exact Int.le_refl _
mutual
theorem Tm.count_nodes : ∀ (t : Tm) (lim : Int) (d : Nat), 0 ≤ lim → (t.count lim d).2 = true → (t.count lim d).1 ≤ lim → (t.count lim d).1 = t.nodes ∧ t.depth ≤ d
  | ⟨o, w, v, n, l, s⟩, lim, 0, _, h, _ => by rw [Tm.count] at h; simp at h
  | ⟨o, w, v, n, l, s⟩, lim, d + 1, h0, h, h1 => by
    rw [Tm.count] at h h1 ⊢
    obtain ⟨a, b⟩ := Tm.countL_nodes s lim d 1 h0 h h1
    rw [Tm.nodes, Tm.depth]
    omega
theorem Tm.countL_nodes : ∀ (l : List Tm) (lim : Int) (d : Nat) (n : Int), 0 ≤ lim → (Tm.countL l lim d n).2 = true → (Tm.countL l lim d n).1 ≤ lim → (Tm.countL l lim d n).1 = n + Tm.nodesL l ∧ Tm.depthL l ≤ d
  | [], lim, d, n, _, _, _ => by rw [Tm.countL, Tm.nodesL, Tm.depthL]; simp
  | t :: r, lim, d, n, h0, h, h1 => by
    rw [Tm.countL] at h h1 ⊢
    split at h
    · rename_i hn
      rw [if_pos hn] at h1 ⊢
      split at h
      · rename_i ht
        rw [if_pos ht] at h1 ⊢
        have h2 := Tm.countL_ge r lim d (n + (t.count (lim - n) d).1) h0
        obtain ⟨a, b⟩ := Tm.count_nodes t (lim - n) d (by omega) ht (by omega)
        obtain ⟨a2, b2⟩ := Tm.countL_nodes r lim d _ h0 h h1
        rw [Tm.nodesL, Tm.depthL]
        omega
      · simp at h
    · rename_i hn
      rw [if_neg hn] at h1
      exact absurd h1 hn
end
theorem Tm.great_nodes {t : Tm} (h : t.great = false) : t.nodes ≤ 500 ∧ t.depth ≤ 80 := by
  simp only [Tm.great, Bool.or_eq_false_iff, Bool.not_eq_false', decide_eq_false_iff_not] at h
  have := Tm.count_nodes t 500 80 (by omega) h.1.1 (by omega)
  omega
theorem efs_small {s : Ins_} (h : s.effects.any greatEf = false) : ∀ x ∈ s.effects, ∀ t ∈ [x.addr, x.value, x.cond], t.nodes ≤ 500 ∧ t.depth ≤ 80 := by
  intro x hx t ht
  have h1 : greatEf x = false := by
    rw [List.any_eq_false] at h
    simpa using h x hx
  simp only [greatEf, Bool.or_eq_false_iff] at h1
  simp only [List.mem_cons, List.not_mem_nil, or_false] at ht
  rcases ht with rfl | rfl | rfl
  · exact Tm.great_nodes h1.1.1
  · exact Tm.great_nodes h1.1.2
  · exact Tm.great_nodes h1.2
theorem effNodes_le {s : Ins_} (h : s.effects.any greatEf = false) {k : Nat} (hk : k < s.effects.length) : effNodes (gt s.effects (k : Nat)) ≤ 1500 := by
  have h1 := efs_small h _ (gt_mem (l := s.effects) (i := (k : Nat)) (by omega) (by omega))
  have a := h1 (gt s.effects (k : Nat)).addr (by simp)
  have b := h1 (gt s.effects (k : Nat)).value (by simp)
  have c := h1 (gt s.effects (k : Nat)).cond (by simp)
  unfold effNodes; omega
theorem great_iff {m : Mach} (h : greatM m = false) : m.name.size ≤ 100 ∧ m.regs.length ≤ 74 ∧ m.banks.length ≤ 26 ∧ m.units.length ≤ 18 ∧ m.instrs.length ≤ 74 ∧ (∀ b ∈ m.banks, greatBk b = false) ∧ (∀ s ∈ m.instrs, greatIn s = false) ∧ machNodes m m.instrs.length ≤ 1500 := by
  simp only [greatM, Bool.or_eq_false_iff, decide_eq_false_iff_not, List.any_eq_false, Bool.not_eq_true] at h
  obtain ⟨⟨⟨⟨⟨⟨⟨h1, h2⟩, h3⟩, h4⟩, h5⟩, h6⟩, h7⟩, h8⟩ := h
  exact ⟨by omega, by omega, by omega, by omega, by omega, h6, h7, by omega⟩
theorem great_terms {m : Mach} (h : greatM m = false) : mTerms m := by
  obtain ⟨-, -, -, -, -, -, h7, -⟩ := great_iff h
  intro s hs x hx t ht
  have h1 := h7 s hs
  simp only [greatIn, Bool.or_eq_false_iff] at h1
  have := efs_small h1.2 x hx t ht
  omega
end Go.Proofs.YthocoandbiaoiaaDoorV
