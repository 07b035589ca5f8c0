/- Packed: Te Ib Ga Gb Gc Gd Gf Gg Ct Pk -/
import Derived.Test.YteiampdhhigjcaaGreatDoorChk3
import Derived.Test.YteiampdhhigjcaaGreatDoorProg
set_option linter.all false
/- The program's functions as trees of our logic (group e). -/
namespace Go.Proofs.YteiampdhhigjcaaGreatDoorV
open Go
set_option maxRecDepth 100000
/- "retarget/api.Given" -/
def c_api_Given : C :=
.seq (.reg [⟨some 2, none, .alloc [.pv (.str ⟨#[]⟩), .pv (.int .i64 0), .pv (.int .i64 0), .nilS 4, .nilS 2, .nilS 2, .nilS 9]⟩]) (.seq (.seq (.reg [⟨some 3, none, .mov (.t 0)⟩]) (.blk 0 (.seq (.reg [⟨some 5, none, .bin .eql (.t 3) (.c (.pv (.int .i64 1)))⟩, ⟨some 4, none, .mov (.t 5)⟩]) (.cond (.t 4) (.seq (.reg [⟨some 6, none, .callf 96 []⟩, ⟨none, none, .store 7 (.t 2) (.t 6)⟩]) (.ret)) (.seq (.reg [⟨some 8, none, .bin .eql (.t 3) (.c (.pv (.int .i64 2)))⟩, ⟨some 7, none, .mov (.t 8)⟩]) (.cond (.t 7) (.seq (.reg [⟨some 9, none, .callf 97 []⟩, ⟨none, none, .store 7 (.t 2) (.t 9)⟩]) (.ret)) (.skip))))))) (.seq (.reg [⟨some 10, none, .callf 98 []⟩, ⟨none, none, .store 7 (.t 2) (.t 10)⟩]) (.ret)))
theorem k_api_Given : FnOk Tryz.prog 33 11 c_api_Given [.cell 2 (some 7)] := .mk' (fn := Tryz.f33) rfl rfl (by kernel_rfl) rfl (by kernel_rfl) (by kernel_rfl)
/- "retarget/api.givenFlags" -/
def c_api_givenFlags_s1 : C := .ret
def c_api_givenFlags_s2 : C := .seq (.reg [⟨some 84, none, .load (some 7) (.t 1)⟩, ⟨none, none, .store 7 (.t 0) (.t 84)⟩]) (.gh (.keep ⟨[0], [0, 1, 2, 3, 4, 5, 6, 7], 8⟩) c_api_givenFlags_s1)
def c_api_givenFlags_s3 : C := .seq (.reg [⟨some 83, none, .callf 128 [(.t 1)]⟩]) (.gh (.keep ⟨[0, 1], [0, 1, 2, 3, 4, 5, 6, 7], 8⟩) c_api_givenFlags_s2)
def c_api_givenFlags_s4 : C := .seq (.reg [⟨some 82, none, .callf 127 [(.t 1)]⟩]) (.gh (.keep ⟨[0, 1], [0, 1, 2, 3, 4, 5, 6, 7], 8⟩) c_api_givenFlags_s3)
def c_api_givenFlags_s5 : C := .seq (.reg [⟨some 81, none, .callf 126 [(.t 1)]⟩]) (.gh (.keep ⟨[0, 1], [0, 1, 2, 3, 4, 5, 6, 7], 8⟩) c_api_givenFlags_s4)
def c_api_givenFlags_s6 : C := .seq (.reg [⟨some 77, none, .load (some 2) (.t 2)⟩, ⟨some 78, none, .load (some 2) (.t 3)⟩, ⟨some 79, none, .lit 2 [(.t 77), (.t 78)]⟩, ⟨some 80, none, .fad 4 (.t 1)⟩, ⟨none, none, .store 1 (.t 80) (.t 79)⟩]) (.gh (.nrm 1) (.gh (.ownf 1 6 9) (.gh (.keep ⟨[0, 1], [0, 1, 2, 3, 4, 5, 6, 7], 8⟩) c_api_givenFlags_s5)))
def c_api_givenFlags_s7 : C := .seq (.seq (.reg [⟨some 63, none, .lit 1 [(.c (.pv (.str ⟨#[122, 102]⟩))), (.c (.pv (.str ⟨#[99, 102]⟩))), (.c (.pv (.str ⟨#[115, 102]⟩)))]⟩, ⟨some 64, none, .len (.t 63)⟩, ⟨some 65, none, .mov (.c (.pv (.int .i64 0)))⟩]) (.blk 4 (.loop ⟨[0, 1, 2, 3, 63, 64, 65], [0, 1, 2, 3, 4, 5, 6], 7⟩ (.seq (.reg [⟨some 66, none, .bin .lss (.t 65) (.t 64)⟩]) (.seq (.cond (.t 66) (.skip) (.ext 4)) (.seq (.blk 5 (.seq (.reg [⟨some 67, none, .iad 1 (.t 63) (.t 65)⟩, ⟨some 68, none, .load none (.t 67)⟩, ⟨some 9, none, .mov (.t 68)⟩]) (.reg [⟨some 69, none, .fad 3 (.t 1)⟩, ⟨some 70, none, .load none (.t 69)⟩, ⟨some 71, none, .mov (.t 9)⟩, ⟨some 72, none, .build [.pv (.str ⟨#[]⟩), .pv (.int .i64 0), .pv (.int .i64 0), .pv (.int .i64 0)] [((0, 1), (.t 71)), ((1, 1), (.c (.pv (.int .i64 1)))), ((2, 1), (.c (.pv (.int .i64 (-1)))))]⟩, ⟨some 73, none, .lit 4 [(.t 72)]⟩, ⟨some 74, none, .app 4 40 (.t 70) (.t 73)⟩, ⟨some 75, none, .fad 3 (.t 1)⟩, ⟨none, none, .store 1 (.t 75) (.t 74)⟩]))) (.reg [⟨some 76, none, .bin .add (.t 65) (.c (.pv (.int .i64 1)))⟩, ⟨some 65, none, .mov (.t 76)⟩]))))))) (.gh (.keep ⟨[0, 1, 2, 3], [0, 1, 2, 3, 4, 5, 6], 7⟩) c_api_givenFlags_s6)
def c_api_givenFlags_s8 : C := .seq (.seq (.reg [⟨some 36, none, .lit 1 [(.c (.pv (.str ⟨#[97, 108]⟩))), (.c (.pv (.str ⟨#[98, 108]⟩))), (.c (.pv (.str ⟨#[99, 108]⟩))), (.c (.pv (.str ⟨#[100, 108]⟩))), (.c (.pv (.str ⟨#[97, 104]⟩))), (.c (.pv (.str ⟨#[98, 104]⟩))), (.c (.pv (.str ⟨#[99, 104]⟩))), (.c (.pv (.str ⟨#[100, 104]⟩)))]⟩, ⟨some 37, none, .len (.t 36)⟩, ⟨some 38, none, .mov (.c (.pv (.int .i64 0)))⟩]) (.blk 2 (.loop ⟨[0, 1, 2, 3, 36, 37, 38], [0, 1, 2, 3, 4, 5, 6], 7⟩ (.seq (.reg [⟨some 39, none, .bin .lss (.t 38) (.t 37)⟩]) (.seq (.cond (.t 39) (.skip) (.ext 2)) (.seq (.blk 3 (.seq (.reg [⟨some 40, none, .mov (.t 38)⟩, ⟨some 41, none, .iad 1 (.t 36) (.t 38)⟩, ⟨some 42, none, .load none (.t 41)⟩, ⟨some 6, none, .mov (.t 40)⟩, ⟨some 7, none, .mov (.t 42)⟩]) (.seq (.reg [⟨some 43, none, .fad 3 (.t 1)⟩, ⟨some 44, none, .load none (.t 43)⟩, ⟨some 45, none, .mov (.t 7)⟩, ⟨some 46, none, .mov (.t 6)⟩, ⟨some 47, none, .bin .rem (.t 46) (.c (.pv (.int .i64 4)))⟩, ⟨some 48, none, .mov (.t 6)⟩, ⟨some 49, none, .bin .quo (.t 48) (.c (.pv (.int .i64 4)))⟩, ⟨some 50, none, .bin .mul (.c (.pv (.int .i64 8))) (.t 49)⟩, ⟨some 51, none, .build [.pv (.str ⟨#[]⟩), .pv (.int .i64 0), .pv (.int .i64 0), .pv (.int .i64 0)] [((0, 1), (.t 45)), ((1, 1), (.c (.pv (.int .i64 8)))), ((2, 1), (.t 47)), ((3, 1), (.t 50))]⟩, ⟨some 52, none, .lit 4 [(.t 51)]⟩, ⟨some 53, none, .app 4 40 (.t 44) (.t 52)⟩, ⟨some 54, none, .fad 3 (.t 1)⟩, ⟨none, none, .store 1 (.t 54) (.t 53)⟩]) (.reg [⟨some 55, none, .fad 1 (.t 3)⟩, ⟨some 56, none, .load none (.t 55)⟩, ⟨some 57, none, .mov (.t 6)⟩, ⟨some 58, none, .bin .add (.c (.pv (.int .i64 8))) (.t 57)⟩, ⟨some 59, none, .lit 1 [(.t 58)]⟩, ⟨some 60, none, .app 1 8 (.t 56) (.t 59)⟩, ⟨some 61, none, .fad 1 (.t 3)⟩, ⟨none, none, .store 1 (.t 61) (.t 60)⟩])))) (.reg [⟨some 62, none, .bin .add (.t 38) (.c (.pv (.int .i64 1)))⟩, ⟨some 38, none, .mov (.t 62)⟩]))))))) (.gh (.keep ⟨[0, 1, 2, 3], [0, 1, 2, 3, 4, 5, 6], 7⟩) c_api_givenFlags_s7)
def c_api_givenFlags_s9 : C := .seq (.seq (.reg [⟨some 15, none, .lit 1 [(.c (.pv (.str ⟨#[97, 120]⟩))), (.c (.pv (.str ⟨#[98, 120]⟩))), (.c (.pv (.str ⟨#[99, 120]⟩))), (.c (.pv (.str ⟨#[100, 120]⟩))), (.c (.pv (.str ⟨#[115, 105]⟩))), (.c (.pv (.str ⟨#[100, 105]⟩))), (.c (.pv (.str ⟨#[98, 112]⟩))), (.c (.pv (.str ⟨#[115, 112]⟩)))]⟩, ⟨some 16, none, .len (.t 15)⟩, ⟨some 17, none, .mov (.c (.pv (.int .i64 0)))⟩]) (.blk 0 (.loop ⟨[0, 1, 2, 3, 15, 16, 17], [0, 1, 2, 3, 4, 5, 6], 7⟩ (.seq (.reg [⟨some 18, none, .bin .lss (.t 17) (.t 16)⟩]) (.seq (.cond (.t 18) (.skip) (.ext 0)) (.seq (.blk 1 (.seq (.reg [⟨some 19, none, .mov (.t 17)⟩, ⟨some 20, none, .iad 1 (.t 15) (.t 17)⟩, ⟨some 21, none, .load none (.t 20)⟩, ⟨some 4, none, .mov (.t 19)⟩, ⟨some 5, none, .mov (.t 21)⟩]) (.seq (.reg [⟨some 22, none, .fad 3 (.t 1)⟩, ⟨some 23, none, .load none (.t 22)⟩, ⟨some 24, none, .mov (.t 5)⟩, ⟨some 25, none, .build [.pv (.str ⟨#[]⟩), .pv (.int .i64 0), .pv (.int .i64 0), .pv (.int .i64 0)] [((0, 1), (.t 24)), ((1, 1), (.c (.pv (.int .i64 16)))), ((2, 1), (.c (.pv (.int .i64 (-1)))))]⟩, ⟨some 26, none, .lit 4 [(.t 25)]⟩, ⟨some 27, none, .app 4 40 (.t 23) (.t 26)⟩, ⟨some 28, none, .fad 3 (.t 1)⟩, ⟨none, none, .store 1 (.t 28) (.t 27)⟩]) (.reg [⟨some 29, none, .fad 1 (.t 2)⟩, ⟨some 30, none, .load none (.t 29)⟩, ⟨some 31, none, .mov (.t 4)⟩, ⟨some 32, none, .lit 1 [(.t 31)]⟩, ⟨some 33, none, .app 1 8 (.t 30) (.t 32)⟩, ⟨some 34, none, .fad 1 (.t 2)⟩, ⟨none, none, .store 1 (.t 34) (.t 33)⟩])))) (.reg [⟨some 35, none, .bin .add (.t 17) (.c (.pv (.int .i64 1)))⟩, ⟨some 17, none, .mov (.t 35)⟩]))))))) (.gh (.keep ⟨[0, 1, 2, 3], [0, 1, 2, 3, 4, 5, 6], 7⟩) c_api_givenFlags_s8)
def c_api_givenFlags_s10 : C := .seq (.reg [⟨some 13, none, .build [.pv (.str ⟨#[]⟩), .nilS 1] [((0, 1), (.c (.pv (.str ⟨#[119]⟩))))]⟩, ⟨some 14, none, .build [.pv (.str ⟨#[]⟩), .nilS 1] [((0, 1), (.c (.pv (.str ⟨#[98]⟩))))]⟩, ⟨some 2, none, .alloc [.pv (.str ⟨#[]⟩), .nilS 1]⟩, ⟨some 3, none, .alloc [.pv (.str ⟨#[]⟩), .nilS 1]⟩, ⟨none, none, .store 2 (.t 2) (.t 13)⟩, ⟨none, none, .store 2 (.t 3) (.t 14)⟩]) (.gh (.ownf 2 1 1) (.gh (.ownf 3 1 1) (.gh (.keep ⟨[0, 1, 2, 3], [0, 1, 2, 3, 4, 5, 6], 7⟩) c_api_givenFlags_s9)))
def c_api_givenFlags_s11 : C := .seq (.reg [⟨some 10, none, .build [.pv (.str ⟨#[]⟩), .pv (.int .i64 0)] [((0, 1), (.c (.pv (.str ⟨#[99, 111, 114, 101]⟩)))), ((1, 1), (.c (.pv (.int .i64 1))))]⟩, ⟨some 11, none, .lit 2 [(.t 10)]⟩, ⟨some 12, none, .build [.pv (.str ⟨#[]⟩), .pv (.int .i64 0), .pv (.int .i64 0), .nilS 4, .nilS 2, .nilS 2, .nilS 9] [((0, 1), (.c (.pv (.str ⟨#[102, 108, 97, 103, 115]⟩)))), ((1, 1), (.c (.pv (.int .i64 2)))), ((2, 1), (.c (.pv (.int .i64 16)))), ((5, 1), (.t 11))]⟩, ⟨some 1, none, .alloc [.pv (.str ⟨#[]⟩), .pv (.int .i64 0), .pv (.int .i64 0), .nilS 4, .nilS 2, .nilS 2, .nilS 9]⟩, ⟨none, none, .store 7 (.t 1) (.t 12)⟩]) (.gh (.ownf 1 3 4) (.gh (.keep ⟨[0, 1], [0, 1, 2], 3⟩) c_api_givenFlags_s10))
def c_api_givenFlags : C :=
.seq (.reg [⟨some 0, none, .alloc [.pv (.str ⟨#[]⟩), .pv (.int .i64 0), .pv (.int .i64 0), .nilS 4, .nilS 2, .nilS 2, .nilS 9]⟩]) (.gh (.keep ⟨[0], [0], 1⟩) c_api_givenFlags_s11)
theorem k_api_givenFlags : FnOk Tryz.prog 96 85 c_api_givenFlags [.cell 0 (some 7)] := .mk' (fn := Tryz.f96) rfl rfl (by kernel_rfl) rfl (by kernel_rfl) (by kernel_rfl)
/- "retarget/api.givenRisc" -/
def c_api_givenRisc_s1 : C := .ret
def c_api_givenRisc_s2 : C := .seq (.reg [⟨some 448, none, .load (some 7) (.t 1)⟩, ⟨none, none, .store 7 (.t 0) (.t 448)⟩]) (.gh (.keep ⟨[0], [0, 1, 2, 3, 4, 5, 6, 7, 8, 9, 10, 11, 12, 13, 14, 15, 16, 17, 18, 19, 20, 21], 22⟩) c_api_givenRisc_s1)
def c_api_givenRisc_s3 : C := .seq (.dreg [⟨some 440, none, .mov (.t 5)⟩, ⟨some 441, none, .load (some 6) (.t 6)⟩, ⟨some 442, none, .load (some 6) (.t 9)⟩, ⟨some 443, none, .lit 6 [(.t 441), (.t 442)]⟩, ⟨some 444, none, .load (some 6) (.t 15)⟩, ⟨some 445, none, .callf 134 [(.c (.pv (.int .i64 0))), (.t 444)]⟩, ⟨some 446, none, .lit 21 [(.t 445)]⟩, ⟨some 447, none, .callv (.t 440) [(.c (.pv (.str ⟨#[108, 105]⟩))), (.c (.pv (.int .i64 0))), (.c (.pv (.int .i64 1))), (.c (.pv (.int .i64 1))), (.c (.pv (.int .i64 0))), (.t 443), (.t 446)]⟩] [[], [], [], [1, 2], [], [4], [4, 5], [0, 1, 2, 3, 4, 5, 6]]) (.gh (.keep ⟨[0, 1], [0, 1, 2, 3, 4, 5, 6, 7, 8, 9, 10, 11, 12, 13, 14, 15, 16, 17, 18, 19, 20, 21], 22⟩) c_api_givenRisc_s2)
def c_api_givenRisc_s4 : C := .seq (.reg [⟨some 438, none, .mov (.t 5)⟩, ⟨some 439, none, .callv (.t 438) [(.c (.pv (.str ⟨#[110, 111, 112]⟩))), (.c (.pv (.int .i64 0))), (.c (.pv (.int .i64 1))), (.c (.pv (.int .i64 1))), (.c (.pv (.int .i64 0))), (.c (.nilS 6)), (.c (.nilS 21))]⟩]) (.gh (.keep ⟨[0, 1, 5, 6, 9, 15], [0, 1, 2, 3, 4, 5, 6, 7, 8, 9, 10, 11, 12, 13, 14, 15, 16, 17, 18, 19, 20, 21], 22⟩) c_api_givenRisc_s3)
def c_api_givenRisc_s5 : C := .seq (.dreg [⟨some 431, none, .mov (.t 5)⟩, ⟨some 432, none, .load (some 6) (.t 7)⟩, ⟨some 433, none, .lit 6 [(.t 432)]⟩, ⟨some 434, none, .load (some 6) (.t 12)⟩, ⟨some 435, none, .callf 141 [(.t 434)]⟩, ⟨some 436, none, .lit 21 [(.t 435)]⟩, ⟨some 437, none, .callv (.t 431) [(.c (.pv (.str ⟨#[104, 97, 108, 116]⟩))), (.c (.pv (.int .i64 0))), (.c (.pv (.int .i64 1))), (.c (.pv (.int .i64 1))), (.c (.pv (.int .i64 0))), (.t 433), (.t 436)]⟩] [[], [], [1], [], [3], [3, 4], [0, 1, 2, 3, 4, 5]]) (.gh (.keep ⟨[0, 1, 5, 6, 9, 15], [0, 1, 2, 3, 4, 5, 6, 7, 8, 9, 10, 11, 12, 13, 14, 15, 16, 17, 18, 19, 20, 21], 22⟩) c_api_givenRisc_s4)
def c_api_givenRisc_s6 : C := .seq (.dreg [⟨some 421, none, .mov (.t 5)⟩, ⟨some 422, none, .load (some 6) (.t 7)⟩, ⟨some 423, none, .lit 6 [(.t 422)]⟩, ⟨some 424, none, .callf 138 [(.c (.pv (.int .i64 1))), (.c (.pv (.int .u64 1)))]⟩, ⟨some 425, none, .load (some 6) (.t 12)⟩, ⟨some 426, none, .lit 6 [(.t 424), (.t 425)]⟩, ⟨some 427, none, .callf 135 [(.c (.pv (.int .u8 20))), (.c (.pv (.int .i64 33))), (.t 426)]⟩, ⟨some 428, none, .callf 141 [(.t 427)]⟩, ⟨some 429, none, .lit 21 [(.t 428)]⟩, ⟨some 430, none, .callv (.t 421) [(.c (.pv (.str ⟨#[116, 101, 108, 108]⟩))), (.c (.pv (.int .i64 0))), (.c (.pv (.int .i64 1))), (.c (.pv (.int .i64 1))), (.c (.pv (.int .i64 0))), (.t 423), (.t 429)]⟩] [[], [], [1], [], [], [3, 4], [3, 4, 5], [3, 4, 5, 6], [3, 4, 5, 6, 7], [0, 1, 2, 3, 4, 5, 6, 7, 8]]) (.gh (.keep ⟨[0, 1, 5, 6, 7, 9, 12, 15], [0, 1, 2, 3, 4, 5, 6, 7, 8, 9, 10, 11, 12, 13, 14, 15, 16, 17, 18, 19, 20, 21], 22⟩) c_api_givenRisc_s5)
def c_api_givenRisc_s7 : C := .seq (.dreg [⟨some 414, none, .mov (.t 5)⟩, ⟨some 415, none, .load (some 6) (.t 10)⟩, ⟨some 416, none, .lit 6 [(.t 415)]⟩, ⟨some 417, none, .load (some 6) (.t 15)⟩, ⟨some 418, none, .callf 141 [(.t 417)]⟩, ⟨some 419, none, .lit 21 [(.t 418)]⟩, ⟨some 420, none, .callv (.t 414) [(.c (.pv (.str ⟨#[116, 114, 97, 112]⟩))), (.c (.pv (.int .i64 0))), (.c (.pv (.int .i64 1))), (.c (.pv (.int .i64 1))), (.c (.pv (.int .i64 0))), (.t 416), (.t 419)]⟩] [[], [], [1], [], [3], [3, 4], [0, 1, 2, 3, 4, 5]]) (.gh (.keep ⟨[0, 1, 5, 6, 7, 9, 12, 15], [0, 1, 2, 3, 4, 5, 6, 7, 8, 9, 10, 11, 12, 13, 14, 15, 16, 17, 18, 19, 20, 21], 22⟩) c_api_givenRisc_s6)
def c_api_givenRisc_s8 : C := .seq (.dreg [⟨some 406, none, .mov (.t 5)⟩, ⟨some 407, none, .load (some 6) (.t 7)⟩, ⟨some 408, none, .lit 6 [(.t 407)]⟩, ⟨some 409, none, .load (some 6) (.t 12)⟩, ⟨some 410, none, .build [.pv (.int .u8 0), .pv (.int .i64 0), .pv (.int .u64 0), .pv (.str ⟨#[]⟩), .pv (.int .i64 0), .nilS 6] []⟩, ⟨some 411, none, .callf 139 [(.t 409), (.t 410)]⟩, ⟨some 412, none, .lit 21 [(.t 411)]⟩, ⟨some 413, none, .callv (.t 406) [(.c (.pv (.str ⟨#[106, 114]⟩))), (.c (.pv (.int .i64 0))), (.c (.pv (.int .i64 1))), (.c (.pv (.int .i64 1))), (.c (.pv (.int .i64 1))), (.t 408), (.t 412)]⟩] [[], [], [1], [], [], [3, 4], [3, 4, 5], [0, 1, 2, 3, 4, 5, 6]]) (.gh (.keep ⟨[0, 1, 5, 6, 7, 9, 10, 12, 15], [0, 1, 2, 3, 4, 5, 6, 7, 8, 9, 10, 11, 12, 13, 14, 15, 16, 17, 18, 19, 20, 21], 22⟩) c_api_givenRisc_s7)
def c_api_givenRisc_s9 : C := .seq (.dreg [⟨some 393, none, .mov (.t 5)⟩, ⟨some 394, none, .load (some 6) (.t 29)⟩, ⟨some 395, none, .lit 6 [(.t 394)]⟩, ⟨some 396, none, .load (some 6) (.t 16)⟩, ⟨some 397, none, .callf 138 [(.c (.pv (.int .i64 32))), (.c (.pv (.int .u64 8)))]⟩, ⟨some 398, none, .lit 6 [(.t 396), (.t 397)]⟩, ⟨some 399, none, .callf 135 [(.c (.pv (.int .u8 5))), (.c (.pv (.int .i64 32))), (.t 398)]⟩, ⟨some 400, none, .callf 140 [(.c (.pv (.int .i64 15))), (.t 399)]⟩, ⟨some 401, none, .load (some 6) (.t 30)⟩, ⟨some 402, none, .build [.pv (.int .u8 0), .pv (.int .i64 0), .pv (.int .u64 0), .pv (.str ⟨#[]⟩), .pv (.int .i64 0), .nilS 6] []⟩, ⟨some 403, none, .callf 139 [(.t 401), (.t 402)]⟩, ⟨some 404, none, .lit 21 [(.t 400), (.t 403)]⟩, ⟨some 405, none, .callv (.t 393) [(.c (.pv (.str ⟨#[99, 97, 108, 108]⟩))), (.c (.pv (.int .i64 0))), (.c (.pv (.int .i64 1))), (.c (.pv (.int .i64 1))), (.c (.pv (.int .i64 1))), (.t 395), (.t 404)]⟩] [[], [], [1], [], [], [3, 4], [3, 4, 5], [3, 4, 5, 6], [], [], [3, 4, 5, 6, 7, 8, 9], [3, 4, 5, 6, 7, 8, 9, 10], [0, 1, 2, 3, 4, 5, 6, 7, 8, 9, 10, 11]]) (.gh (.keep ⟨[0, 1, 5, 6, 7, 9, 10, 12, 15], [0, 1, 2, 3, 4, 5, 6, 7, 8, 9, 10, 11, 12, 13, 14, 15, 16, 17, 18, 19, 20, 21], 22⟩) c_api_givenRisc_s8)
def c_api_givenRisc_s10 : C := .seq (.dreg [⟨some 385, none, .mov (.t 5)⟩, ⟨some 386, none, .load (some 6) (.t 29)⟩, ⟨some 387, none, .lit 6 [(.t 386)]⟩, ⟨some 388, none, .load (some 6) (.t 30)⟩, ⟨some 389, none, .build [.pv (.int .u8 0), .pv (.int .i64 0), .pv (.int .u64 0), .pv (.str ⟨#[]⟩), .pv (.int .i64 0), .nilS 6] []⟩, ⟨some 390, none, .callf 139 [(.t 388), (.t 389)]⟩, ⟨some 391, none, .lit 21 [(.t 390)]⟩, ⟨some 392, none, .callv (.t 385) [(.c (.pv (.str ⟨#[106, 117, 109, 112]⟩))), (.c (.pv (.int .i64 0))), (.c (.pv (.int .i64 1))), (.c (.pv (.int .i64 1))), (.c (.pv (.int .i64 1))), (.t 387), (.t 391)]⟩] [[], [], [1], [], [], [3, 4], [3, 4, 5], [0, 1, 2, 3, 4, 5, 6]]) (.gh (.keep ⟨[0, 1, 5, 6, 7, 9, 10, 12, 15, 16, 29, 30], [0, 1, 2, 3, 4, 5, 6, 7, 8, 9, 10, 11, 12, 13, 14, 15, 16, 17, 18, 19, 20, 21], 22⟩) c_api_givenRisc_s9)
def c_api_givenRisc_s11 : C := .seq (.dreg [⟨some 372, none, .mov (.t 5)⟩, ⟨some 373, none, .load (some 6) (.t 7)⟩, ⟨some 374, none, .load (some 6) (.t 8)⟩, ⟨some 375, none, .load (some 6) (.t 28)⟩, ⟨some 376, none, .lit 6 [(.t 373), (.t 374), (.t 375)]⟩, ⟨some 377, none, .load (some 6) (.t 30)⟩, ⟨some 378, none, .load (some 6) (.t 12)⟩, ⟨some 379, none, .load (some 6) (.t 13)⟩, ⟨some 380, none, .lit 6 [(.t 378), (.t 379)]⟩, ⟨some 381, none, .callf 135 [(.c (.pv (.int .u8 18))), (.c (.pv (.int .i64 1))), (.t 380)]⟩, ⟨some 382, none, .callf 139 [(.t 377), (.t 381)]⟩, ⟨some 383, none, .lit 21 [(.t 382)]⟩, ⟨some 384, none, .callv (.t 372) [(.c (.pv (.str ⟨#[98, 108, 116]⟩))), (.c (.pv (.int .i64 0))), (.c (.pv (.int .i64 1))), (.c (.pv (.int .i64 1))), (.c (.pv (.int .i64 1))), (.t 376), (.t 383)]⟩] [[], [], [], [], [1, 2, 3], [], [], [], [6, 7], [6, 7, 8], [5, 6, 7, 8, 9], [5, 6, 7, 8, 9, 10], [0, 1, 2, 3, 4, 5, 6, 7, 8, 9, 10, 11]]) (.gh (.keep ⟨[0, 1, 5, 6, 7, 9, 10, 12, 15, 16, 29, 30], [0, 1, 2, 3, 4, 5, 6, 7, 8, 9, 10, 11, 12, 13, 14, 15, 16, 17, 18, 19, 20, 21], 22⟩) c_api_givenRisc_s10)
def c_api_givenRisc_s12 : C := .seq (.dreg [⟨some 357, none, .mov (.t 5)⟩, ⟨some 358, none, .load (some 6) (.t 7)⟩, ⟨some 359, none, .load (some 6) (.t 8)⟩, ⟨some 360, none, .load (some 6) (.t 28)⟩, ⟨some 361, none, .lit 6 [(.t 358), (.t 359), (.t 360)]⟩, ⟨some 362, none, .load (some 6) (.t 30)⟩, ⟨some 363, none, .load (some 6) (.t 12)⟩, ⟨some 364, none, .load (some 6) (.t 13)⟩, ⟨some 365, none, .lit 6 [(.t 363), (.t 364)]⟩, ⟨some 366, none, .callf 135 [(.c (.pv (.int .u8 16))), (.c (.pv (.int .i64 1))), (.t 365)]⟩, ⟨some 367, none, .lit 6 [(.t 366)]⟩, ⟨some 368, none, .callf 135 [(.c (.pv (.int .u8 3))), (.c (.pv (.int .i64 1))), (.t 367)]⟩, ⟨some 369, none, .callf 139 [(.t 362), (.t 368)]⟩, ⟨some 370, none, .lit 21 [(.t 369)]⟩, ⟨some 371, none, .callv (.t 357) [(.c (.pv (.str ⟨#[98, 110, 101]⟩))), (.c (.pv (.int .i64 0))), (.c (.pv (.int .i64 1))), (.c (.pv (.int .i64 1))), (.c (.pv (.int .i64 1))), (.t 361), (.t 370)]⟩] [[], [], [], [], [1, 2, 3], [], [], [], [6, 7], [6, 7, 8], [6, 7, 8, 9], [6, 7, 8, 9, 10], [5, 6, 7, 8, 9, 10, 11], [5, 6, 7, 8, 9, 10, 11, 12], [0, 1, 2, 3, 4, 5, 6, 7, 8, 9, 10, 11, 12, 13]]) (.gh (.keep ⟨[0, 1, 5, 6, 7, 8, 9, 10, 12, 13, 15, 16, 28, 29, 30], [0, 1, 2, 3, 4, 5, 6, 7, 8, 9, 10, 11, 12, 13, 14, 15, 16, 17, 18, 19, 20, 21], 22⟩) c_api_givenRisc_s11)
def c_api_givenRisc_s13 : C := .seq (.dreg [⟨some 344, none, .mov (.t 5)⟩, ⟨some 345, none, .load (some 6) (.t 7)⟩, ⟨some 346, none, .load (some 6) (.t 8)⟩, ⟨some 347, none, .load (some 6) (.t 28)⟩, ⟨some 348, none, .lit 6 [(.t 345), (.t 346), (.t 347)]⟩, ⟨some 349, none, .load (some 6) (.t 30)⟩, ⟨some 350, none, .load (some 6) (.t 12)⟩, ⟨some 351, none, .load (some 6) (.t 13)⟩, ⟨some 352, none, .lit 6 [(.t 350), (.t 351)]⟩, ⟨some 353, none, .callf 135 [(.c (.pv (.int .u8 16))), (.c (.pv (.int .i64 1))), (.t 352)]⟩, ⟨some 354, none, .callf 139 [(.t 349), (.t 353)]⟩, ⟨some 355, none, .lit 21 [(.t 354)]⟩, ⟨some 356, none, .callv (.t 344) [(.c (.pv (.str ⟨#[98, 101, 113]⟩))), (.c (.pv (.int .i64 0))), (.c (.pv (.int .i64 1))), (.c (.pv (.int .i64 1))), (.c (.pv (.int .i64 1))), (.t 348), (.t 355)]⟩] [[], [], [], [], [1, 2, 3], [], [], [], [6, 7], [6, 7, 8], [5, 6, 7, 8, 9], [5, 6, 7, 8, 9, 10], [0, 1, 2, 3, 4, 5, 6, 7, 8, 9, 10, 11]]) (.gh (.keep ⟨[0, 1, 5, 6, 7, 8, 9, 10, 12, 13, 15, 16, 28, 29, 30], [0, 1, 2, 3, 4, 5, 6, 7, 8, 9, 10, 11, 12, 13, 14, 15, 16, 17, 18, 19, 20, 21], 22⟩) c_api_givenRisc_s12)
def c_api_givenRisc_s14 : C := .seq (.reg [⟨some 343, none, .callf 133 [(.c (.pv (.str ⟨#[116, 111]⟩))), (.c (.pv (.int .i64 32)))]⟩, ⟨some 30, none, .alloc [.pv (.int .u8 0), .pv (.int .i64 0), .pv (.int .u64 0), .pv (.str ⟨#[]⟩), .pv (.int .i64 0), .nilS 6]⟩, ⟨none, none, .store 6 (.t 30) (.t 343)⟩]) (.gh (.keep ⟨[0, 1, 5, 6, 7, 8, 9, 10, 12, 13, 15, 16, 28, 29, 30], [0, 1, 2, 3, 4, 5, 6, 7, 8, 9, 10, 11, 12, 13, 14, 15, 16, 17, 18, 19, 20, 21], 22⟩) c_api_givenRisc_s13)
def c_api_givenRisc_s15 : C := .seq (.reg [⟨some 340, none, .build [.pv (.int .i64 0), .pv (.int .i64 0)] [((0, 1), (.c (.pv (.int .i64 0)))), ((1, 1), (.c (.pv (.int .i64 26))))]⟩, ⟨some 341, none, .lit 2 [(.t 340)]⟩, ⟨some 342, none, .callf 132 [(.c (.pv (.str ⟨#[116, 111]⟩))), (.c (.pv (.int .u8 4))), (.c (.pv (.int .i64 0))), (.c (.pv (.int .i64 0))), (.t 341)]⟩, ⟨some 29, none, .alloc [.pv (.str ⟨#[]⟩), .pv (.int .u8 0), .pv (.int .i64 0), .pv (.int .i64 0), .nilS 2, .pv (.int .i64 0)]⟩, ⟨none, none, .store 6 (.t 29) (.t 342)⟩]) (.gh (.keep ⟨[0, 1, 5, 6, 7, 8, 9, 10, 12, 13, 15, 16, 28, 29], [0, 1, 2, 3, 4, 5, 6, 7, 8, 9, 10, 11, 12, 13, 14, 15, 16, 17, 18, 19, 20], 21⟩) c_api_givenRisc_s14)
def c_api_givenRisc_s16 : C := .seq (.reg [⟨some 337, none, .build [.pv (.int .i64 0), .pv (.int .i64 0)] [((0, 1), (.c (.pv (.int .i64 0)))), ((1, 1), (.c (.pv (.int .i64 14))))]⟩, ⟨some 338, none, .lit 2 [(.t 337)]⟩, ⟨some 339, none, .callf 132 [(.c (.pv (.str ⟨#[116, 111]⟩))), (.c (.pv (.int .u8 4))), (.c (.pv (.int .i64 0))), (.c (.pv (.int .i64 0))), (.t 338)]⟩, ⟨some 28, none, .alloc [.pv (.str ⟨#[]⟩), .pv (.int .u8 0), .pv (.int .i64 0), .pv (.int .i64 0), .nilS 2, .pv (.int .i64 0)]⟩, ⟨none, none, .store 6 (.t 28) (.t 339)⟩]) (.gh (.keep ⟨[0, 1, 5, 6, 7, 8, 9, 10, 12, 13, 15, 16, 28], [0, 1, 2, 3, 4, 5, 6, 7, 8, 9, 10, 11, 12, 13, 14, 15, 16, 17, 18, 19], 20⟩) c_api_givenRisc_s15)
def c_api_givenRisc_s17 : C := .seq (.seq (.reg [⟨some 310, none, .lit 1 [(.c (.pv (.int .u8 16))), (.c (.pv (.int .u8 17))), (.c (.pv (.int .u8 18)))]⟩, ⟨some 311, none, .len (.t 310)⟩, ⟨some 312, none, .mov (.c (.pv (.int .i64 0)))⟩]) (.blk 8 (.loop ⟨[0, 1, 5, 6, 7, 8, 9, 10, 12, 13, 15, 16, 18, 19, 310, 311, 312], [0, 1, 2, 3, 4, 5, 6, 7, 8, 9, 10, 11, 12, 13, 14, 15, 16, 17, 18], 19⟩ (.seq (.reg [⟨some 313, none, .bin .lss (.t 312) (.t 311)⟩]) (.seq (.cond (.t 313) (.skip) (.ext 8)) (.seq (.blk 9 (.seq (.reg [⟨some 314, none, .mov (.t 312)⟩, ⟨some 315, none, .iad 1 (.t 310) (.t 312)⟩, ⟨some 316, none, .load none (.t 315)⟩, ⟨some 26, none, .mov (.t 314)⟩, ⟨some 27, none, .mov (.t 316)⟩]) (.dreg [⟨some 317, none, .mov (.t 5)⟩, ⟨some 318, none, .mov (.t 19)⟩, ⟨some 319, none, .mov (.t 26)⟩, ⟨some 320, none, .iad 1 (.t 318) (.t 319)⟩, ⟨some 321, none, .load none (.t 320)⟩, ⟨some 322, none, .load (some 6) (.t 6)⟩, ⟨some 323, none, .load (some 6) (.t 7)⟩, ⟨some 324, none, .load (some 6) (.t 8)⟩, ⟨some 325, none, .lit 6 [(.t 322), (.t 323), (.t 324)]⟩, ⟨some 326, none, .mov (.t 18)⟩, ⟨some 327, none, .mov (.t 27)⟩, ⟨some 328, none, .load (some 6) (.t 12)⟩, ⟨some 329, none, .load (some 6) (.t 13)⟩, ⟨some 330, none, .lit 6 [(.t 328), (.t 329)]⟩, ⟨some 331, none, .callf 135 [(.t 327), (.c (.pv (.int .i64 1))), (.t 330)]⟩, ⟨some 332, none, .callv (.t 326) [(.t 331)]⟩, ⟨some 333, none, .callf 134 [(.c (.pv (.int .i64 0))), (.t 332)]⟩, ⟨some 334, none, .lit 21 [(.t 333)]⟩, ⟨some 335, none, .callv (.t 317) [(.t 321), (.c (.pv (.int .i64 0))), (.c (.pv (.int .i64 1))), (.c (.pv (.int .i64 1))), (.c (.pv (.int .i64 0))), (.t 325), (.t 334)]⟩] [[], [], [], [1, 2], [1, 2, 3], [], [], [], [5, 6, 7], [], [], [], [], [11, 12], [10, 11, 12, 13], [9, 10, 11, 12, 13, 14], [9, 10, 11, 12, 13, 14, 15], [9, 10, 11, 12, 13, 14, 15, 16], [0, 1, 2, 3, 4, 5, 6, 7, 8, 9, 10, 11, 12, 13, 14, 15, 16, 17]]))) (.reg [⟨some 336, none, .bin .add (.t 312) (.c (.pv (.int .i64 1)))⟩, ⟨some 312, none, .mov (.t 336)⟩]))))))) (.gh (.keep ⟨[0, 1, 5, 6, 7, 8, 9, 10, 12, 13, 15, 16], [0, 1, 2, 3, 4, 5, 6, 7, 8, 9, 10, 11, 12, 13, 14, 15, 16, 17, 18], 19⟩) c_api_givenRisc_s16)
def c_api_givenRisc_s18 : C := .seq (.reg [⟨some 309, none, .lit 1 [(.c (.pv (.str ⟨#[101, 113]⟩))), (.c (.pv (.str ⟨#[117, 108, 116]⟩))), (.c (.pv (.str ⟨#[115, 108, 116]⟩)))]⟩, ⟨some 19, none, .mov (.t 309)⟩]) (.gh (.keep ⟨[0, 1, 5, 6, 7, 8, 9, 10, 12, 13, 15, 16, 18, 19], [0, 1, 2, 3, 4, 5, 6, 7, 8, 9, 10, 11, 12, 13, 14, 15, 16, 17, 18], 19⟩) c_api_givenRisc_s17)
def c_api_givenRisc_s19 : C := .seq (.dreg [⟨some 297, none, .mov (.t 5)⟩, ⟨some 298, none, .load (some 6) (.t 6)⟩, ⟨some 299, none, .load (some 6) (.t 7)⟩, ⟨some 300, none, .load (some 6) (.t 9)⟩, ⟨some 301, none, .lit 6 [(.t 298), (.t 299), (.t 300)]⟩, ⟨some 302, none, .load (some 6) (.t 17)⟩, ⟨some 303, none, .load (some 6) (.t 14)⟩, ⟨some 304, none, .lit 6 [(.t 303)]⟩, ⟨some 305, none, .callf 135 [(.c (.pv (.int .u8 21))), (.c (.pv (.int .i64 8))), (.t 304)]⟩, ⟨some 306, none, .callf 137 [(.t 302), (.t 305)]⟩, ⟨some 307, none, .lit 21 [(.t 306)]⟩, ⟨some 308, none, .callv (.t 297) [(.c (.pv (.str ⟨#[115, 98]⟩))), (.c (.pv (.int .i64 1))), (.c (.pv (.int .i64 1))), (.c (.pv (.int .i64 1))), (.c (.pv (.int .i64 0))), (.t 301), (.t 307)]⟩] [[], [], [], [], [1, 2, 3], [], [], [6], [6, 7], [5, 6, 7, 8], [5, 6, 7, 8, 9], [0, 1, 2, 3, 4, 5, 6, 7, 8, 9, 10]]) (.gh (.keep ⟨[0, 1, 5, 6, 7, 8, 9, 10, 12, 13, 15, 16, 18], [0, 1, 2, 3, 4, 5, 6, 7, 8, 9, 10, 11, 12, 13, 14, 15, 16, 17, 18], 19⟩) c_api_givenRisc_s18)
def c_api_givenRisc_s20 : C := .seq (.dreg [⟨some 285, none, .mov (.t 5)⟩, ⟨some 286, none, .load (some 6) (.t 6)⟩, ⟨some 287, none, .load (some 6) (.t 7)⟩, ⟨some 288, none, .load (some 6) (.t 9)⟩, ⟨some 289, none, .lit 6 [(.t 286), (.t 287), (.t 288)]⟩, ⟨some 290, none, .load (some 6) (.t 17)⟩, ⟨some 291, none, .load (some 6) (.t 14)⟩, ⟨some 292, none, .lit 6 [(.t 291)]⟩, ⟨some 293, none, .callf 135 [(.c (.pv (.int .u8 21))), (.c (.pv (.int .i64 16))), (.t 292)]⟩, ⟨some 294, none, .callf 137 [(.t 290), (.t 293)]⟩, ⟨some 295, none, .lit 21 [(.t 294)]⟩, ⟨some 296, none, .callv (.t 285) [(.c (.pv (.str ⟨#[115, 104]⟩))), (.c (.pv (.int .i64 1))), (.c (.pv (.int .i64 1))), (.c (.pv (.int .i64 1))), (.c (.pv (.int .i64 0))), (.t 289), (.t 295)]⟩] [[], [], [], [], [1, 2, 3], [], [], [6], [6, 7], [5, 6, 7, 8], [5, 6, 7, 8, 9], [0, 1, 2, 3, 4, 5, 6, 7, 8, 9, 10]]) (.gh (.keep ⟨[0, 1, 5, 6, 7, 8, 9, 10, 12, 13, 14, 15, 16, 17, 18], [0, 1, 2, 3, 4, 5, 6, 7, 8, 9, 10, 11, 12, 13, 14, 15, 16, 17, 18], 19⟩) c_api_givenRisc_s19)
def c_api_givenRisc_s21 : C := .seq (.dreg [⟨some 275, none, .mov (.t 5)⟩, ⟨some 276, none, .load (some 6) (.t 6)⟩, ⟨some 277, none, .load (some 6) (.t 7)⟩, ⟨some 278, none, .load (some 6) (.t 9)⟩, ⟨some 279, none, .lit 6 [(.t 276), (.t 277), (.t 278)]⟩, ⟨some 280, none, .load (some 6) (.t 17)⟩, ⟨some 281, none, .load (some 6) (.t 14)⟩, ⟨some 282, none, .callf 137 [(.t 280), (.t 281)]⟩, ⟨some 283, none, .lit 21 [(.t 282)]⟩, ⟨some 284, none, .callv (.t 275) [(.c (.pv (.str ⟨#[115, 119]⟩))), (.c (.pv (.int .i64 1))), (.c (.pv (.int .i64 1))), (.c (.pv (.int .i64 1))), (.c (.pv (.int .i64 0))), (.t 279), (.t 283)]⟩] [[], [], [], [], [1, 2, 3], [], [], [5, 6], [5, 6, 7], [0, 1, 2, 3, 4, 5, 6, 7, 8]]) (.gh (.keep ⟨[0, 1, 5, 6, 7, 8, 9, 10, 12, 13, 14, 15, 16, 17, 18], [0, 1, 2, 3, 4, 5, 6, 7, 8, 9, 10, 11, 12, 13, 14, 15, 16, 17, 18], 19⟩) c_api_givenRisc_s20)
def c_api_givenRisc_s22 : C := .seq (.dreg [⟨some 262, none, .mov (.t 5)⟩, ⟨some 263, none, .load (some 6) (.t 6)⟩, ⟨some 264, none, .load (some 6) (.t 7)⟩, ⟨some 265, none, .load (some 6) (.t 9)⟩, ⟨some 266, none, .lit 6 [(.t 263), (.t 264), (.t 265)]⟩, ⟨some 267, none, .mov (.t 18)⟩, ⟨some 268, none, .load (some 6) (.t 17)⟩, ⟨some 269, none, .lit 6 [(.t 268)]⟩, ⟨some 270, none, .callf 135 [(.c (.pv (.int .u8 24))), (.c (.pv (.int .i64 16))), (.t 269)]⟩, ⟨some 271, none, .callv (.t 267) [(.t 270)]⟩, ⟨some 272, none, .callf 134 [(.c (.pv (.int .i64 0))), (.t 271)]⟩, ⟨some 273, none, .lit 21 [(.t 272)]⟩, ⟨some 274, none, .callv (.t 262) [(.c (.pv (.str ⟨#[108, 104, 117]⟩))), (.c (.pv (.int .i64 1))), (.c (.pv (.int .i64 1))), (.c (.pv (.int .i64 2))), (.c (.pv (.int .i64 0))), (.t 266), (.t 273)]⟩] [[], [], [], [], [1, 2, 3], [], [], [6], [6, 7], [5, 6, 7, 8], [5, 6, 7, 8, 9], [5, 6, 7, 8, 9, 10], [0, 1, 2, 3, 4, 5, 6, 7, 8, 9, 10, 11]]) (.gh (.keep ⟨[0, 1, 5, 6, 7, 8, 9, 10, 12, 13, 14, 15, 16, 17, 18], [0, 1, 2, 3, 4, 5, 6, 7, 8, 9, 10, 11, 12, 13, 14, 15, 16, 17, 18], 19⟩) c_api_givenRisc_s21)
def c_api_givenRisc_s23 : C := .seq (.dreg [⟨some 249, none, .mov (.t 5)⟩, ⟨some 250, none, .load (some 6) (.t 6)⟩, ⟨some 251, none, .load (some 6) (.t 7)⟩, ⟨some 252, none, .load (some 6) (.t 9)⟩, ⟨some 253, none, .lit 6 [(.t 250), (.t 251), (.t 252)]⟩, ⟨some 254, none, .mov (.t 18)⟩, ⟨some 255, none, .load (some 6) (.t 17)⟩, ⟨some 256, none, .lit 6 [(.t 255)]⟩, ⟨some 257, none, .callf 135 [(.c (.pv (.int .u8 24))), (.c (.pv (.int .i64 8))), (.t 256)]⟩, ⟨some 258, none, .callv (.t 254) [(.t 257)]⟩, ⟨some 259, none, .callf 134 [(.c (.pv (.int .i64 0))), (.t 258)]⟩, ⟨some 260, none, .lit 21 [(.t 259)]⟩, ⟨some 261, none, .callv (.t 249) [(.c (.pv (.str ⟨#[108, 98, 117]⟩))), (.c (.pv (.int .i64 1))), (.c (.pv (.int .i64 1))), (.c (.pv (.int .i64 2))), (.c (.pv (.int .i64 0))), (.t 253), (.t 260)]⟩] [[], [], [], [], [1, 2, 3], [], [], [6], [6, 7], [5, 6, 7, 8], [5, 6, 7, 8, 9], [5, 6, 7, 8, 9, 10], [0, 1, 2, 3, 4, 5, 6, 7, 8, 9, 10, 11]]) (.gh (.keep ⟨[0, 1, 5, 6, 7, 8, 9, 10, 12, 13, 14, 15, 16, 17, 18], [0, 1, 2, 3, 4, 5, 6, 7, 8, 9, 10, 11, 12, 13, 14, 15, 16, 17, 18], 19⟩) c_api_givenRisc_s22)
def c_api_givenRisc_s24 : C := .seq (.dreg [⟨some 236, none, .mov (.t 5)⟩, ⟨some 237, none, .load (some 6) (.t 6)⟩, ⟨some 238, none, .load (some 6) (.t 7)⟩, ⟨some 239, none, .load (some 6) (.t 9)⟩, ⟨some 240, none, .lit 6 [(.t 237), (.t 238), (.t 239)]⟩, ⟨some 241, none, .load (some 6) (.t 17)⟩, ⟨some 242, none, .lit 6 [(.t 241)]⟩, ⟨some 243, none, .callf 135 [(.c (.pv (.int .u8 24))), (.c (.pv (.int .i64 8))), (.t 242)]⟩, ⟨some 244, none, .lit 6 [(.t 243)]⟩, ⟨some 245, none, .callf 135 [(.c (.pv (.int .u8 23))), (.c (.pv (.int .i64 32))), (.t 244)]⟩, ⟨some 246, none, .callf 134 [(.c (.pv (.int .i64 0))), (.t 245)]⟩, ⟨some 247, none, .lit 21 [(.t 246)]⟩, ⟨some 248, none, .callv (.t 236) [(.c (.pv (.str ⟨#[108, 98]⟩))), (.c (.pv (.int .i64 1))), (.c (.pv (.int .i64 1))), (.c (.pv (.int .i64 2))), (.c (.pv (.int .i64 0))), (.t 240), (.t 247)]⟩] [[], [], [], [], [1, 2, 3], [], [5], [5, 6], [5, 6, 7], [5, 6, 7, 8], [5, 6, 7, 8, 9], [5, 6, 7, 8, 9, 10], [0, 1, 2, 3, 4, 5, 6, 7, 8, 9, 10, 11]]) (.gh (.keep ⟨[0, 1, 5, 6, 7, 8, 9, 10, 12, 13, 14, 15, 16, 17, 18], [0, 1, 2, 3, 4, 5, 6, 7, 8, 9, 10, 11, 12, 13, 14, 15, 16, 17, 18], 19⟩) c_api_givenRisc_s23)
def c_api_givenRisc_s25 : C := .seq (.dreg [⟨some 225, none, .mov (.t 5)⟩, ⟨some 226, none, .load (some 6) (.t 6)⟩, ⟨some 227, none, .load (some 6) (.t 7)⟩, ⟨some 228, none, .load (some 6) (.t 9)⟩, ⟨some 229, none, .lit 6 [(.t 226), (.t 227), (.t 228)]⟩, ⟨some 230, none, .load (some 6) (.t 17)⟩, ⟨some 231, none, .lit 6 [(.t 230)]⟩, ⟨some 232, none, .callf 135 [(.c (.pv (.int .u8 24))), (.c (.pv (.int .i64 32))), (.t 231)]⟩, ⟨some 233, none, .callf 134 [(.c (.pv (.int .i64 0))), (.t 232)]⟩, ⟨some 234, none, .lit 21 [(.t 233)]⟩, ⟨some 235, none, .callv (.t 225) [(.c (.pv (.str ⟨#[108, 119]⟩))), (.c (.pv (.int .i64 1))), (.c (.pv (.int .i64 1))), (.c (.pv (.int .i64 2))), (.c (.pv (.int .i64 0))), (.t 229), (.t 234)]⟩] [[], [], [], [], [1, 2, 3], [], [5], [5, 6], [5, 6, 7], [5, 6, 7, 8], [0, 1, 2, 3, 4, 5, 6, 7, 8, 9]]) (.gh (.keep ⟨[0, 1, 5, 6, 7, 8, 9, 10, 12, 13, 14, 15, 16, 17, 18], [0, 1, 2, 3, 4, 5, 6, 7, 8, 9, 10, 11, 12, 13, 14, 15, 16, 17, 18], 19⟩) c_api_givenRisc_s24)
def c_api_givenRisc_s26 : C := .seq (.dreg [⟨some 214, none, .mov (.t 5)⟩, ⟨some 215, none, .load (some 6) (.t 6)⟩, ⟨some 216, none, .load (some 6) (.t 10)⟩, ⟨some 217, none, .lit 6 [(.t 215), (.t 216)]⟩, ⟨some 218, none, .load (some 6) (.t 15)⟩, ⟨some 219, none, .callf 138 [(.c (.pv (.int .i64 32))), (.c (.pv (.int .u64 16)))]⟩, ⟨some 220, none, .lit 6 [(.t 218), (.t 219)]⟩, ⟨some 221, none, .callf 135 [(.c (.pv (.int .u8 11))), (.c (.pv (.int .i64 32))), (.t 220)]⟩, ⟨some 222, none, .callf 134 [(.c (.pv (.int .i64 0))), (.t 221)]⟩, ⟨some 223, none, .lit 21 [(.t 222)]⟩, ⟨some 224, none, .callv (.t 214) [(.c (.pv (.str ⟨#[108, 117, 105]⟩))), (.c (.pv (.int .i64 0))), (.c (.pv (.int .i64 1))), (.c (.pv (.int .i64 1))), (.c (.pv (.int .i64 0))), (.t 217), (.t 223)]⟩] [[], [], [], [1, 2], [], [], [4, 5], [4, 5, 6], [4, 5, 6, 7], [4, 5, 6, 7, 8], [0, 1, 2, 3, 4, 5, 6, 7, 8, 9]]) (.gh (.keep ⟨[0, 1, 5, 6, 7, 8, 9, 10, 12, 13, 14, 15, 16, 17, 18], [0, 1, 2, 3, 4, 5, 6, 7, 8, 9, 10, 11, 12, 13, 14, 15, 16, 17, 18], 19⟩) c_api_givenRisc_s25)
def c_api_givenRisc_s27 : C := .seq (.seq (.reg [⟨some 189, none, .lit 1 [(.c (.pv (.int .u8 11))), (.c (.pv (.int .u8 12))), (.c (.pv (.int .u8 13)))]⟩, ⟨some 190, none, .len (.t 189)⟩, ⟨some 191, none, .mov (.c (.pv (.int .i64 0)))⟩]) (.blk 6 (.loop ⟨[0, 1, 5, 6, 7, 8, 9, 10, 11, 12, 13, 14, 15, 16, 17, 18, 19, 189, 190, 191], [0, 1, 2, 3, 4, 5, 6, 7, 8, 9, 10, 11, 12, 13, 14, 15, 16, 17, 18], 19⟩ (.seq (.reg [⟨some 192, none, .bin .lss (.t 191) (.t 190)⟩]) (.seq (.cond (.t 192) (.skip) (.ext 6)) (.seq (.blk 7 (.seq (.reg [⟨some 193, none, .mov (.t 191)⟩, ⟨some 194, none, .iad 1 (.t 189) (.t 191)⟩, ⟨some 195, none, .load none (.t 194)⟩, ⟨some 24, none, .mov (.t 193)⟩, ⟨some 25, none, .mov (.t 195)⟩]) (.dreg [⟨some 196, none, .mov (.t 5)⟩, ⟨some 197, none, .mov (.t 19)⟩, ⟨some 198, none, .mov (.t 24)⟩, ⟨some 199, none, .iad 1 (.t 197) (.t 198)⟩, ⟨some 200, none, .load none (.t 199)⟩, ⟨some 201, none, .load (some 6) (.t 6)⟩, ⟨some 202, none, .load (some 6) (.t 7)⟩, ⟨some 203, none, .load (some 6) (.t 11)⟩, ⟨some 204, none, .lit 6 [(.t 201), (.t 202), (.t 203)]⟩, ⟨some 205, none, .mov (.t 25)⟩, ⟨some 206, none, .load (some 6) (.t 12)⟩, ⟨some 207, none, .load (some 6) (.t 15)⟩, ⟨some 208, none, .lit 6 [(.t 206), (.t 207)]⟩, ⟨some 209, none, .callf 135 [(.t 205), (.c (.pv (.int .i64 32))), (.t 208)]⟩, ⟨some 210, none, .callf 134 [(.c (.pv (.int .i64 0))), (.t 209)]⟩, ⟨some 211, none, .lit 21 [(.t 210)]⟩, ⟨some 212, none, .callv (.t 196) [(.t 200), (.c (.pv (.int .i64 0))), (.c (.pv (.int .i64 1))), (.c (.pv (.int .i64 1))), (.c (.pv (.int .i64 0))), (.t 204), (.t 211)]⟩] [[], [], [], [1, 2], [1, 2, 3], [], [], [], [5, 6, 7], [], [], [], [10, 11], [9, 10, 11, 12], [9, 10, 11, 12, 13], [9, 10, 11, 12, 13, 14], [0, 1, 2, 3, 4, 5, 6, 7, 8, 9, 10, 11, 12, 13, 14, 15]]))) (.reg [⟨some 213, none, .bin .add (.t 191) (.c (.pv (.int .i64 1)))⟩, ⟨some 191, none, .mov (.t 213)⟩]))))))) (.gh (.keep ⟨[0, 1, 5, 6, 7, 8, 9, 10, 12, 13, 14, 15, 16, 17, 18], [0, 1, 2, 3, 4, 5, 6, 7, 8, 9, 10, 11, 12, 13, 14, 15, 16, 17, 18], 19⟩) c_api_givenRisc_s26)
def c_api_givenRisc_s28 : C := .seq (.reg [⟨some 188, none, .lit 1 [(.c (.pv (.str ⟨#[115, 104, 108, 105]⟩))), (.c (.pv (.str ⟨#[115, 104, 114, 105]⟩))), (.c (.pv (.str ⟨#[115, 97, 114, 105]⟩)))]⟩, ⟨some 19, none, .mov (.t 188)⟩]) (.gh (.keep ⟨[0, 1, 5, 6, 7, 8, 9, 10, 11, 12, 13, 14, 15, 16, 17, 18, 19], [0, 1, 2, 3, 4, 5, 6, 7, 8, 9, 10, 11, 12, 13, 14, 15, 16, 17, 18], 19⟩) c_api_givenRisc_s27)
def c_api_givenRisc_s29 : C := .seq (.seq (.reg [⟨some 163, none, .lit 1 [(.c (.pv (.int .u8 8))), (.c (.pv (.int .u8 9))), (.c (.pv (.int .u8 10)))]⟩, ⟨some 164, none, .len (.t 163)⟩, ⟨some 165, none, .mov (.c (.pv (.int .i64 0)))⟩]) (.blk 4 (.loop ⟨[0, 1, 5, 6, 7, 8, 9, 10, 11, 12, 13, 14, 15, 16, 17, 18, 19, 163, 164, 165], [0, 1, 2, 3, 4, 5, 6, 7, 8, 9, 10, 11, 12, 13, 14, 15, 16, 17, 18], 19⟩ (.seq (.reg [⟨some 166, none, .bin .lss (.t 165) (.t 164)⟩]) (.seq (.cond (.t 166) (.skip) (.ext 4)) (.seq (.blk 5 (.seq (.reg [⟨some 167, none, .mov (.t 165)⟩, ⟨some 168, none, .iad 1 (.t 163) (.t 165)⟩, ⟨some 169, none, .load none (.t 168)⟩, ⟨some 22, none, .mov (.t 167)⟩, ⟨some 23, none, .mov (.t 169)⟩]) (.dreg [⟨some 170, none, .mov (.t 5)⟩, ⟨some 171, none, .mov (.t 19)⟩, ⟨some 172, none, .mov (.t 22)⟩, ⟨some 173, none, .iad 1 (.t 171) (.t 172)⟩, ⟨some 174, none, .load none (.t 173)⟩, ⟨some 175, none, .load (some 6) (.t 6)⟩, ⟨some 176, none, .load (some 6) (.t 7)⟩, ⟨some 177, none, .load (some 6) (.t 10)⟩, ⟨some 178, none, .lit 6 [(.t 175), (.t 176), (.t 177)]⟩, ⟨some 179, none, .mov (.t 23)⟩, ⟨some 180, none, .load (some 6) (.t 12)⟩, ⟨some 181, none, .load (some 6) (.t 15)⟩, ⟨some 182, none, .lit 6 [(.t 180), (.t 181)]⟩, ⟨some 183, none, .callf 135 [(.t 179), (.c (.pv (.int .i64 32))), (.t 182)]⟩, ⟨some 184, none, .callf 134 [(.c (.pv (.int .i64 0))), (.t 183)]⟩, ⟨some 185, none, .lit 21 [(.t 184)]⟩, ⟨some 186, none, .callv (.t 170) [(.t 174), (.c (.pv (.int .i64 0))), (.c (.pv (.int .i64 1))), (.c (.pv (.int .i64 1))), (.c (.pv (.int .i64 0))), (.t 178), (.t 185)]⟩] [[], [], [], [1, 2], [1, 2, 3], [], [], [], [5, 6, 7], [], [], [], [10, 11], [9, 10, 11, 12], [9, 10, 11, 12, 13], [9, 10, 11, 12, 13, 14], [0, 1, 2, 3, 4, 5, 6, 7, 8, 9, 10, 11, 12, 13, 14, 15]]))) (.reg [⟨some 187, none, .bin .add (.t 165) (.c (.pv (.int .i64 1)))⟩, ⟨some 165, none, .mov (.t 187)⟩]))))))) (.gh (.keep ⟨[0, 1, 5, 6, 7, 8, 9, 10, 11, 12, 13, 14, 15, 16, 17, 18], [0, 1, 2, 3, 4, 5, 6, 7, 8, 9, 10, 11, 12, 13, 14, 15, 16, 17, 18], 19⟩) c_api_givenRisc_s28)
def c_api_givenRisc_s30 : C := .seq (.reg [⟨some 162, none, .lit 1 [(.c (.pv (.str ⟨#[97, 110, 100, 105]⟩))), (.c (.pv (.str ⟨#[111, 114, 105]⟩))), (.c (.pv (.str ⟨#[120, 111, 114, 105]⟩)))]⟩, ⟨some 19, none, .mov (.t 162)⟩]) (.gh (.keep ⟨[0, 1, 5, 6, 7, 8, 9, 10, 11, 12, 13, 14, 15, 16, 17, 18, 19], [0, 1, 2, 3, 4, 5, 6, 7, 8, 9, 10, 11, 12, 13, 14, 15, 16, 17, 18], 19⟩) c_api_givenRisc_s29)
def c_api_givenRisc_s31 : C := .seq (.dreg [⟨some 153, none, .mov (.t 5)⟩, ⟨some 154, none, .load (some 6) (.t 6)⟩, ⟨some 155, none, .load (some 6) (.t 7)⟩, ⟨some 156, none, .load (some 6) (.t 9)⟩, ⟨some 157, none, .lit 6 [(.t 154), (.t 155), (.t 156)]⟩, ⟨some 158, none, .load (some 6) (.t 17)⟩, ⟨some 159, none, .callf 134 [(.c (.pv (.int .i64 0))), (.t 158)]⟩, ⟨some 160, none, .lit 21 [(.t 159)]⟩, ⟨some 161, none, .callv (.t 153) [(.c (.pv (.str ⟨#[97, 100, 100, 105]⟩))), (.c (.pv (.int .i64 0))), (.c (.pv (.int .i64 1))), (.c (.pv (.int .i64 1))), (.c (.pv (.int .i64 0))), (.t 157), (.t 160)]⟩] [[], [], [], [], [1, 2, 3], [], [5], [5, 6], [0, 1, 2, 3, 4, 5, 6, 7]]) (.gh (.keep ⟨[0, 1, 5, 6, 7, 8, 9, 10, 11, 12, 13, 14, 15, 16, 17, 18], [0, 1, 2, 3, 4, 5, 6, 7, 8, 9, 10, 11, 12, 13, 14, 15, 16, 17, 18], 19⟩) c_api_givenRisc_s30)
def c_api_givenRisc_s32 : C := .seq (.dreg [⟨some 141, none, .mov (.t 5)⟩, ⟨some 142, none, .load (some 6) (.t 6)⟩, ⟨some 143, none, .load (some 6) (.t 7)⟩, ⟨some 144, none, .load (some 6) (.t 8)⟩, ⟨some 145, none, .lit 6 [(.t 142), (.t 143), (.t 144)]⟩, ⟨some 146, none, .load (some 6) (.t 12)⟩, ⟨some 147, none, .load (some 6) (.t 13)⟩, ⟨some 148, none, .lit 6 [(.t 146), (.t 147)]⟩, ⟨some 149, none, .callf 135 [(.c (.pv (.int .u8 15))), (.c (.pv (.int .i64 32))), (.t 148)]⟩, ⟨some 150, none, .callf 134 [(.c (.pv (.int .i64 0))), (.t 149)]⟩, ⟨some 151, none, .lit 21 [(.t 150)]⟩, ⟨some 152, none, .callv (.t 141) [(.c (.pv (.str ⟨#[117, 114, 101, 109]⟩))), (.c (.pv (.int .i64 2))), (.c (.pv (.int .i64 8))), (.c (.pv (.int .i64 8))), (.c (.pv (.int .i64 0))), (.t 145), (.t 151)]⟩] [[], [], [], [], [1, 2, 3], [], [], [5, 6], [5, 6, 7], [5, 6, 7, 8], [5, 6, 7, 8, 9], [0, 1, 2, 3, 4, 5, 6, 7, 8, 9, 10]]) (.gh (.keep ⟨[0, 1, 5, 6, 7, 8, 9, 10, 11, 12, 13, 14, 15, 16, 17, 18], [0, 1, 2, 3, 4, 5, 6, 7, 8, 9, 10, 11, 12, 13, 14, 15, 16, 17, 18], 19⟩) c_api_givenRisc_s31)
def c_api_givenRisc_s33 : C := .seq (.dreg [⟨some 129, none, .mov (.t 5)⟩, ⟨some 130, none, .load (some 6) (.t 6)⟩, ⟨some 131, none, .load (some 6) (.t 7)⟩, ⟨some 132, none, .load (some 6) (.t 8)⟩, ⟨some 133, none, .lit 6 [(.t 130), (.t 131), (.t 132)]⟩, ⟨some 134, none, .load (some 6) (.t 12)⟩, ⟨some 135, none, .load (some 6) (.t 13)⟩, ⟨some 136, none, .lit 6 [(.t 134), (.t 135)]⟩, ⟨some 137, none, .callf 135 [(.c (.pv (.int .u8 14))), (.c (.pv (.int .i64 32))), (.t 136)]⟩, ⟨some 138, none, .callf 134 [(.c (.pv (.int .i64 0))), (.t 137)]⟩, ⟨some 139, none, .lit 21 [(.t 138)]⟩, ⟨some 140, none, .callv (.t 129) [(.c (.pv (.str ⟨#[117, 100, 105, 118]⟩))), (.c (.pv (.int .i64 2))), (.c (.pv (.int .i64 8))), (.c (.pv (.int .i64 8))), (.c (.pv (.int .i64 0))), (.t 133), (.t 139)]⟩] [[], [], [], [], [1, 2, 3], [], [], [5, 6], [5, 6, 7], [5, 6, 7, 8], [5, 6, 7, 8, 9], [0, 1, 2, 3, 4, 5, 6, 7, 8, 9, 10]]) (.gh (.keep ⟨[0, 1, 5, 6, 7, 8, 9, 10, 11, 12, 13, 14, 15, 16, 17, 18], [0, 1, 2, 3, 4, 5, 6, 7, 8, 9, 10, 11, 12, 13, 14, 15, 16, 17, 18], 19⟩) c_api_givenRisc_s32)
def c_api_givenRisc_s34 : C := .seq (.dreg [⟨some 117, none, .mov (.t 5)⟩, ⟨some 118, none, .load (some 6) (.t 6)⟩, ⟨some 119, none, .load (some 6) (.t 7)⟩, ⟨some 120, none, .load (some 6) (.t 8)⟩, ⟨some 121, none, .lit 6 [(.t 118), (.t 119), (.t 120)]⟩, ⟨some 122, none, .load (some 6) (.t 12)⟩, ⟨some 123, none, .load (some 6) (.t 13)⟩, ⟨some 124, none, .lit 6 [(.t 122), (.t 123)]⟩, ⟨some 125, none, .callf 135 [(.c (.pv (.int .u8 7))), (.c (.pv (.int .i64 32))), (.t 124)]⟩, ⟨some 126, none, .callf 134 [(.c (.pv (.int .i64 0))), (.t 125)]⟩, ⟨some 127, none, .lit 21 [(.t 126)]⟩, ⟨some 128, none, .callv (.t 117) [(.c (.pv (.str ⟨#[109, 117, 108]⟩))), (.c (.pv (.int .i64 2))), (.c (.pv (.int .i64 1))), (.c (.pv (.int .i64 4))), (.c (.pv (.int .i64 0))), (.t 121), (.t 127)]⟩] [[], [], [], [], [1, 2, 3], [], [], [5, 6], [5, 6, 7], [5, 6, 7, 8], [5, 6, 7, 8, 9], [0, 1, 2, 3, 4, 5, 6, 7, 8, 9, 10]]) (.gh (.keep ⟨[0, 1, 5, 6, 7, 8, 9, 10, 11, 12, 13, 14, 15, 16, 17, 18], [0, 1, 2, 3, 4, 5, 6, 7, 8, 9, 10, 11, 12, 13, 14, 15, 16, 17, 18], 19⟩) c_api_givenRisc_s33)
def c_api_givenRisc_s35 : C := .seq (.seq (.reg [⟨some 92, none, .lit 1 [(.c (.pv (.int .u8 5))), (.c (.pv (.int .u8 6))), (.c (.pv (.int .u8 8))), (.c (.pv (.int .u8 9))), (.c (.pv (.int .u8 10))), (.c (.pv (.int .u8 11))), (.c (.pv (.int .u8 12))), (.c (.pv (.int .u8 13)))]⟩, ⟨some 93, none, .len (.t 92)⟩, ⟨some 94, none, .mov (.c (.pv (.int .i64 0)))⟩]) (.blk 2 (.loop ⟨[0, 1, 5, 6, 7, 8, 9, 10, 11, 12, 13, 14, 15, 16, 17, 18, 19, 92, 93, 94], [0, 1, 2, 3, 4, 5, 6, 7, 8, 9, 10, 11, 12, 13, 14, 15, 16, 17, 18], 19⟩ (.seq (.reg [⟨some 95, none, .bin .lss (.t 94) (.t 93)⟩]) (.seq (.cond (.t 95) (.skip) (.ext 2)) (.seq (.blk 3 (.seq (.reg [⟨some 96, none, .mov (.t 94)⟩, ⟨some 97, none, .iad 1 (.t 92) (.t 94)⟩, ⟨some 98, none, .load none (.t 97)⟩, ⟨some 20, none, .mov (.t 96)⟩, ⟨some 21, none, .mov (.t 98)⟩]) (.dreg [⟨some 99, none, .mov (.t 5)⟩, ⟨some 100, none, .mov (.t 19)⟩, ⟨some 101, none, .mov (.t 20)⟩, ⟨some 102, none, .iad 1 (.t 100) (.t 101)⟩, ⟨some 103, none, .load none (.t 102)⟩, ⟨some 104, none, .load (some 6) (.t 6)⟩, ⟨some 105, none, .load (some 6) (.t 7)⟩, ⟨some 106, none, .load (some 6) (.t 8)⟩, ⟨some 107, none, .lit 6 [(.t 104), (.t 105), (.t 106)]⟩, ⟨some 108, none, .mov (.t 21)⟩, ⟨some 109, none, .load (some 6) (.t 12)⟩, ⟨some 110, none, .load (some 6) (.t 13)⟩, ⟨some 111, none, .lit 6 [(.t 109), (.t 110)]⟩, ⟨some 112, none, .callf 135 [(.t 108), (.c (.pv (.int .i64 32))), (.t 111)]⟩, ⟨some 113, none, .callf 134 [(.c (.pv (.int .i64 0))), (.t 112)]⟩, ⟨some 114, none, .lit 21 [(.t 113)]⟩, ⟨some 115, none, .callv (.t 99) [(.t 103), (.c (.pv (.int .i64 0))), (.c (.pv (.int .i64 1))), (.c (.pv (.int .i64 1))), (.c (.pv (.int .i64 0))), (.t 107), (.t 114)]⟩] [[], [], [], [1, 2], [1, 2, 3], [], [], [], [5, 6, 7], [], [], [], [10, 11], [9, 10, 11, 12], [9, 10, 11, 12, 13], [9, 10, 11, 12, 13, 14], [0, 1, 2, 3, 4, 5, 6, 7, 8, 9, 10, 11, 12, 13, 14, 15]]))) (.reg [⟨some 116, none, .bin .add (.t 94) (.c (.pv (.int .i64 1)))⟩, ⟨some 94, none, .mov (.t 116)⟩]))))))) (.gh (.keep ⟨[0, 1, 5, 6, 7, 8, 9, 10, 11, 12, 13, 14, 15, 16, 17, 18], [0, 1, 2, 3, 4, 5, 6, 7, 8, 9, 10, 11, 12, 13, 14, 15, 16, 17, 18], 19⟩) c_api_givenRisc_s34)
def c_api_givenRisc_s36 : C := .seq (.reg [⟨some 91, none, .lit 1 [(.c (.pv (.str ⟨#[97, 100, 100]⟩))), (.c (.pv (.str ⟨#[115, 117, 98]⟩))), (.c (.pv (.str ⟨#[97, 110, 100]⟩))), (.c (.pv (.str ⟨#[111, 114]⟩))), (.c (.pv (.str ⟨#[120, 111, 114]⟩))), (.c (.pv (.str ⟨#[115, 104, 108]⟩))), (.c (.pv (.str ⟨#[115, 104, 114]⟩))), (.c (.pv (.str ⟨#[115, 97, 114]⟩)))]⟩, ⟨some 19, none, .mov (.t 91)⟩]) (.gh (.keep ⟨[0, 1, 5, 6, 7, 8, 9, 10, 11, 12, 13, 14, 15, 16, 17, 18, 19], [0, 1, 2, 3, 4, 5, 6, 7, 8, 9, 10, 11, 12, 13, 14, 15, 16, 17, 18], 19⟩) c_api_givenRisc_s35)
def c_api_givenRisc_s37 : C := .seq (.reg [⟨some 18, none, .mov (.c (.fn (.func 143) [] []))⟩]) (.gh (.keep ⟨[0, 1, 5, 6, 7, 8, 9, 10, 11, 12, 13, 14, 15, 16, 17, 18], [0, 1, 2, 3, 4, 5, 6, 7, 8, 9, 10, 11, 12, 13, 14, 15, 16, 17, 18], 19⟩) c_api_givenRisc_s36)
def c_api_givenRisc_s38 : C := .seq (.reg [⟨some 87, none, .load (some 6) (.t 12)⟩, ⟨some 88, none, .load (some 6) (.t 15)⟩, ⟨some 89, none, .lit 6 [(.t 87), (.t 88)]⟩, ⟨some 90, none, .callf 135 [(.c (.pv (.int .u8 5))), (.c (.pv (.int .i64 32))), (.t 89)]⟩, ⟨some 17, none, .alloc [.pv (.int .u8 0), .pv (.int .i64 0), .pv (.int .u64 0), .pv (.str ⟨#[]⟩), .pv (.int .i64 0), .nilS 6]⟩, ⟨none, none, .store 6 (.t 17) (.t 90)⟩]) (.gh (.keep ⟨[0, 1, 5, 6, 7, 8, 9, 10, 11, 12, 13, 14, 15, 16, 17], [0, 1, 2, 3, 4, 5, 6, 7, 8, 9, 10, 11, 12, 13, 14, 15, 16, 17, 18], 19⟩) c_api_givenRisc_s37)
def c_api_givenRisc_s39 : C := .seq (.reg [⟨some 82, none, .callf 133 [(.c (.pv (.str ⟨#[97]⟩))), (.c (.pv (.int .i64 32)))]⟩, ⟨some 83, none, .callf 133 [(.c (.pv (.str ⟨#[98]⟩))), (.c (.pv (.int .i64 32)))]⟩, ⟨some 84, none, .callf 133 [(.c (.pv (.str ⟨#[100]⟩))), (.c (.pv (.int .i64 32)))]⟩, ⟨some 85, none, .callf 133 [(.c (.pv (.str ⟨#[110]⟩))), (.c (.pv (.int .i64 32)))]⟩, ⟨some 86, none, .callf 133 [(.c (.pv (.str ⟨#[112, 99]⟩))), (.c (.pv (.int .i64 32)))]⟩, ⟨some 12, none, .alloc [.pv (.int .u8 0), .pv (.int .i64 0), .pv (.int .u64 0), .pv (.str ⟨#[]⟩), .pv (.int .i64 0), .nilS 6]⟩, ⟨some 13, none, .alloc [.pv (.int .u8 0), .pv (.int .i64 0), .pv (.int .u64 0), .pv (.str ⟨#[]⟩), .pv (.int .i64 0), .nilS 6]⟩, ⟨some 14, none, .alloc [.pv (.int .u8 0), .pv (.int .i64 0), .pv (.int .u64 0), .pv (.str ⟨#[]⟩), .pv (.int .i64 0), .nilS 6]⟩, ⟨some 15, none, .alloc [.pv (.int .u8 0), .pv (.int .i64 0), .pv (.int .u64 0), .pv (.str ⟨#[]⟩), .pv (.int .i64 0), .nilS 6]⟩, ⟨some 16, none, .alloc [.pv (.int .u8 0), .pv (.int .i64 0), .pv (.int .u64 0), .pv (.str ⟨#[]⟩), .pv (.int .i64 0), .nilS 6]⟩, ⟨none, none, .store 6 (.t 12) (.t 82)⟩, ⟨none, none, .store 6 (.t 13) (.t 83)⟩, ⟨none, none, .store 6 (.t 14) (.t 84)⟩, ⟨none, none, .store 6 (.t 15) (.t 85)⟩, ⟨none, none, .store 6 (.t 16) (.t 86)⟩]) (.gh (.keep ⟨[0, 1, 5, 6, 7, 8, 9, 10, 11, 12, 13, 14, 15, 16], [0, 1, 2, 3, 4, 5, 6, 7, 8, 9, 10, 11, 12, 13, 14, 15, 16, 17], 18⟩) c_api_givenRisc_s38)
def c_api_givenRisc_s40 : C := .seq (.reg [⟨some 73, none, .build [.pv (.int .i64 0), .pv (.int .i64 0)] [((0, 1), (.c (.pv (.int .i64 0)))), ((1, 1), (.c (.pv (.int .i64 16))))]⟩, ⟨some 74, none, .lit 2 [(.t 73)]⟩, ⟨some 75, none, .callf 132 [(.c (.pv (.str ⟨#[110]⟩))), (.c (.pv (.int .u8 2))), (.c (.pv (.int .i64 0))), (.c (.pv (.int .i64 0))), (.t 74)]⟩, ⟨some 76, none, .build [.pv (.int .i64 0), .pv (.int .i64 0)] [((0, 1), (.c (.pv (.int .i64 0)))), ((1, 1), (.c (.pv (.int .i64 16))))]⟩, ⟨some 77, none, .lit 2 [(.t 76)]⟩, ⟨some 78, none, .callf 132 [(.c (.pv (.str ⟨#[110]⟩))), (.c (.pv (.int .u8 3))), (.c (.pv (.int .i64 0))), (.c (.pv (.int .i64 0))), (.t 77)]⟩, ⟨some 79, none, .build [.pv (.int .i64 0), .pv (.int .i64 0)] [((0, 1), (.c (.pv (.int .i64 0)))), ((1, 1), (.c (.pv (.int .i64 5))))]⟩, ⟨some 80, none, .lit 2 [(.t 79)]⟩, ⟨some 81, none, .callf 132 [(.c (.pv (.str ⟨#[110]⟩))), (.c (.pv (.int .u8 3))), (.c (.pv (.int .i64 0))), (.c (.pv (.int .i64 0))), (.t 80)]⟩, ⟨some 9, none, .alloc [.pv (.str ⟨#[]⟩), .pv (.int .u8 0), .pv (.int .i64 0), .pv (.int .i64 0), .nilS 2, .pv (.int .i64 0)]⟩, ⟨some 10, none, .alloc [.pv (.str ⟨#[]⟩), .pv (.int .u8 0), .pv (.int .i64 0), .pv (.int .i64 0), .nilS 2, .pv (.int .i64 0)]⟩, ⟨some 11, none, .alloc [.pv (.str ⟨#[]⟩), .pv (.int .u8 0), .pv (.int .i64 0), .pv (.int .i64 0), .nilS 2, .pv (.int .i64 0)]⟩, ⟨none, none, .store 6 (.t 9) (.t 75)⟩, ⟨none, none, .store 6 (.t 10) (.t 78)⟩, ⟨none, none, .store 6 (.t 11) (.t 81)⟩]) (.gh (.keep ⟨[0, 1, 5, 6, 7, 8, 9, 10, 11], [0, 1, 2, 3, 4, 5, 6, 7, 8, 9, 10, 11, 12], 13⟩) c_api_givenRisc_s39)
def c_api_givenRisc_s41 : C := .seq (.reg [⟨some 64, none, .build [.pv (.int .i64 0), .pv (.int .i64 0)] [((0, 1), (.c (.pv (.int .i64 22)))), ((1, 1), (.c (.pv (.int .i64 4))))]⟩, ⟨some 65, none, .lit 2 [(.t 64)]⟩, ⟨some 66, none, .callf 132 [(.c (.pv (.str ⟨#[100]⟩))), (.c (.pv (.int .u8 1))), (.c (.pv (.int .i64 0))), (.c (.pv (.int .i64 0))), (.t 65)]⟩, ⟨some 67, none, .build [.pv (.int .i64 0), .pv (.int .i64 0)] [((0, 1), (.c (.pv (.int .i64 18)))), ((1, 1), (.c (.pv (.int .i64 4))))]⟩, ⟨some 68, none, .lit 2 [(.t 67)]⟩, ⟨some 69, none, .callf 132 [(.c (.pv (.str ⟨#[97]⟩))), (.c (.pv (.int .u8 1))), (.c (.pv (.int .i64 0))), (.c (.pv (.int .i64 0))), (.t 68)]⟩, ⟨some 70, none, .build [.pv (.int .i64 0), .pv (.int .i64 0)] [((0, 1), (.c (.pv (.int .i64 14)))), ((1, 1), (.c (.pv (.int .i64 4))))]⟩, ⟨some 71, none, .lit 2 [(.t 70)]⟩, ⟨some 72, none, .callf 132 [(.c (.pv (.str ⟨#[98]⟩))), (.c (.pv (.int .u8 1))), (.c (.pv (.int .i64 0))), (.c (.pv (.int .i64 0))), (.t 71)]⟩, ⟨some 6, none, .alloc [.pv (.str ⟨#[]⟩), .pv (.int .u8 0), .pv (.int .i64 0), .pv (.int .i64 0), .nilS 2, .pv (.int .i64 0)]⟩, ⟨some 7, none, .alloc [.pv (.str ⟨#[]⟩), .pv (.int .u8 0), .pv (.int .i64 0), .pv (.int .i64 0), .nilS 2, .pv (.int .i64 0)]⟩, ⟨some 8, none, .alloc [.pv (.str ⟨#[]⟩), .pv (.int .u8 0), .pv (.int .i64 0), .pv (.int .i64 0), .nilS 2, .pv (.int .i64 0)]⟩, ⟨none, none, .store 6 (.t 6) (.t 66)⟩, ⟨none, none, .store 6 (.t 7) (.t 69)⟩, ⟨none, none, .store 6 (.t 8) (.t 72)⟩]) (.gh (.keep ⟨[0, 1, 5, 6, 7, 8], [0, 1, 2, 3, 4, 5, 6, 7, 8, 9], 10⟩) c_api_givenRisc_s40)
def c_api_givenRisc_s42 : C := .seq (.reg [⟨some 63, none, .mkf (.func 142) [] [(.t 1)]⟩, ⟨some 5, none, .mov (.t 63)⟩]) (.gh (.keep ⟨[0, 1, 5], [0, 1, 2, 3, 4, 5, 6], 7⟩) c_api_givenRisc_s41)
def c_api_givenRisc_s43 : C := .seq (.reg [⟨some 60, none, .load (some 2) (.t 2)⟩, ⟨some 61, none, .lit 2 [(.t 60)]⟩, ⟨some 62, none, .fad 4 (.t 1)⟩, ⟨none, none, .store 1 (.t 62) (.t 61)⟩]) (.gh (.nrm 1) (.gh (.ownf 1 6 9) (.gh (.keep ⟨[0, 1], [0, 1, 2, 3, 4, 5, 6], 7⟩) c_api_givenRisc_s42)))
def c_api_givenRisc_s44 : C := .seq (.seq (.reg [⟨some 37, none, .callf 129 [(.c (.pv (.str ⟨#[114]⟩))), (.c (.pv (.int .i64 14)))]⟩, ⟨some 38, none, .lit 1 [(.c (.pv (.str ⟨#[115, 112]⟩))), (.c (.pv (.str ⟨#[108, 114]⟩)))]⟩, ⟨some 39, none, .app 1 16 (.t 37) (.t 38)⟩, ⟨some 40, none, .len (.t 39)⟩, ⟨some 41, none, .mov (.c (.pv (.int .i64 0)))⟩]) (.blk 0 (.loop ⟨[0, 1, 2, 39, 40, 41], [0, 1, 2, 3, 4, 5], 6⟩ (.seq (.reg [⟨some 42, none, .bin .lss (.t 41) (.t 40)⟩]) (.seq (.cond (.t 42) (.skip) (.ext 0)) (.seq (.blk 1 (.seq (.reg [⟨some 43, none, .mov (.t 41)⟩, ⟨some 44, none, .iad 1 (.t 39) (.t 41)⟩, ⟨some 45, none, .load none (.t 44)⟩, ⟨some 3, none, .mov (.t 43)⟩, ⟨some 4, none, .mov (.t 45)⟩]) (.seq (.reg [⟨some 46, none, .fad 3 (.t 1)⟩, ⟨some 47, none, .load none (.t 46)⟩, ⟨some 48, none, .mov (.t 4)⟩, ⟨some 49, none, .build [.pv (.str ⟨#[]⟩), .pv (.int .i64 0), .pv (.int .i64 0), .pv (.int .i64 0)] [((0, 1), (.t 48)), ((1, 1), (.c (.pv (.int .i64 32)))), ((2, 1), (.c (.pv (.int .i64 (-1)))))]⟩, ⟨some 50, none, .lit 4 [(.t 49)]⟩, ⟨some 51, none, .app 4 40 (.t 47) (.t 50)⟩, ⟨some 52, none, .fad 3 (.t 1)⟩, ⟨none, none, .store 1 (.t 52) (.t 51)⟩]) (.reg [⟨some 53, none, .fad 1 (.t 2)⟩, ⟨some 54, none, .load none (.t 53)⟩, ⟨some 55, none, .mov (.t 3)⟩, ⟨some 56, none, .lit 1 [(.t 55)]⟩, ⟨some 57, none, .app 1 8 (.t 54) (.t 56)⟩, ⟨some 58, none, .fad 1 (.t 2)⟩, ⟨none, none, .store 1 (.t 58) (.t 57)⟩])))) (.reg [⟨some 59, none, .bin .add (.t 41) (.c (.pv (.int .i64 1)))⟩, ⟨some 41, none, .mov (.t 59)⟩]))))))) (.gh (.keep ⟨[0, 1, 2], [0, 1, 2, 3, 4, 5], 6⟩) c_api_givenRisc_s43)
def c_api_givenRisc_s45 : C := .seq (.reg [⟨some 36, none, .build [.pv (.str ⟨#[]⟩), .nilS 1] [((0, 1), (.c (.pv (.str ⟨#[103, 112, 114]⟩))))]⟩, ⟨some 2, none, .alloc [.pv (.str ⟨#[]⟩), .nilS 1]⟩, ⟨none, none, .store 2 (.t 2) (.t 36)⟩]) (.gh (.ownf 2 1 1) (.gh (.keep ⟨[0, 1, 2], [0, 1, 2, 3, 4], 5⟩) c_api_givenRisc_s44))
def c_api_givenRisc_s46 : C := .seq (.reg [⟨some 31, none, .build [.pv (.str ⟨#[]⟩), .pv (.int .i64 0)] [((0, 1), (.c (.pv (.str ⟨#[97, 108, 117]⟩)))), ((1, 1), (.c (.pv (.int .i64 1))))]⟩, ⟨some 32, none, .build [.pv (.str ⟨#[]⟩), .pv (.int .i64 0)] [((0, 1), (.c (.pv (.str ⟨#[109, 101, 109]⟩)))), ((1, 1), (.c (.pv (.int .i64 1))))]⟩, ⟨some 33, none, .build [.pv (.str ⟨#[]⟩), .pv (.int .i64 0)] [((0, 1), (.c (.pv (.str ⟨#[109, 117, 108]⟩)))), ((1, 1), (.c (.pv (.int .i64 1))))]⟩, ⟨some 34, none, .lit 2 [(.t 31), (.t 32), (.t 33)]⟩, ⟨some 35, none, .build [.pv (.str ⟨#[]⟩), .pv (.int .i64 0), .pv (.int .i64 0), .nilS 4, .nilS 2, .nilS 2, .nilS 9] [((0, 1), (.c (.pv (.str ⟨#[114, 105, 115, 99]⟩)))), ((1, 1), (.c (.pv (.int .i64 4)))), ((2, 1), (.c (.pv (.int .i64 32)))), ((5, 1), (.t 34))]⟩, ⟨some 1, none, .alloc [.pv (.str ⟨#[]⟩), .pv (.int .i64 0), .pv (.int .i64 0), .nilS 4, .nilS 2, .nilS 2, .nilS 9]⟩, ⟨none, none, .store 7 (.t 1) (.t 35)⟩]) (.gh (.ownf 1 3 4) (.gh (.keep ⟨[0, 1], [0, 1, 2], 3⟩) c_api_givenRisc_s45))
def c_api_givenRisc : C :=
.seq (.reg [⟨some 0, none, .alloc [.pv (.str ⟨#[]⟩), .pv (.int .i64 0), .pv (.int .i64 0), .nilS 4, .nilS 2, .nilS 2, .nilS 9]⟩]) (.gh (.keep ⟨[0], [0], 1⟩) c_api_givenRisc_s46)
theorem k_api_givenRisc : FnOk Tryz.prog 98 449 c_api_givenRisc [.cell 0 (some 7)] := .mk' (fn := Tryz.f98) rfl rfl (by kernel_rfl) rfl (by kernel_rfl) (by kernel_rfl)
/- "retarget/api.givenFlagsWords" -/
def c_api_givenFlagsWords_s1 : C := .dreg [⟨some 279, none, .mov (.t 0)⟩, ⟨some 280, none, .load (some 6) (.t 2)⟩, ⟨some 281, none, .load (some 6) (.t 3)⟩, ⟨some 282, none, .lit 6 [(.t 280), (.t 281)]⟩, ⟨some 283, none, .load (some 6) (.t 9)⟩, ⟨some 284, none, .load (some 6) (.t 8)⟩, ⟨some 285, none, .lit 6 [(.t 283), (.t 284)]⟩, ⟨some 286, none, .callf 135 [(.c (.pv (.int .u8 16))), (.c (.pv (.int .i64 1))), (.t 285)]⟩, ⟨some 287, none, .callf 140 [(.c (.pv (.int .i64 16))), (.t 286)]⟩, ⟨some 288, none, .load (some 6) (.t 9)⟩, ⟨some 289, none, .load (some 6) (.t 8)⟩, ⟨some 290, none, .lit 6 [(.t 288), (.t 289)]⟩, ⟨some 291, none, .callf 135 [(.c (.pv (.int .u8 17))), (.c (.pv (.int .i64 1))), (.t 290)]⟩, ⟨some 292, none, .callf 140 [(.c (.pv (.int .i64 17))), (.t 291)]⟩, ⟨some 293, none, .load (some 6) (.t 9)⟩, ⟨some 294, none, .load (some 6) (.t 8)⟩, ⟨some 295, none, .lit 6 [(.t 293), (.t 294)]⟩, ⟨some 296, none, .callf 135 [(.c (.pv (.int .u8 18))), (.c (.pv (.int .i64 1))), (.t 295)]⟩, ⟨some 297, none, .callf 140 [(.c (.pv (.int .i64 18))), (.t 296)]⟩, ⟨some 298, none, .lit 21 [(.t 287), (.t 292), (.t 297)]⟩, ⟨some 299, none, .callf 159 [(.t 279), (.c (.pv (.str ⟨#[99, 109, 112]⟩))), (.c (.pv (.int .i64 1))), (.t 282), (.t 298)]⟩] [[], [], [], [1, 2], [], [], [4, 5], [4, 5, 6], [4, 5, 6, 7], [], [], [9, 10], [4, 5, 6, 7, 8, 9, 10, 11], [4, 5, 6, 7, 8, 9, 10, 11, 12], [], [], [14, 15], [4, 5, 6, 7, 8, 9, 10, 11, 12, 13, 14, 15, 16], [4, 5, 6, 7, 8, 9, 10, 11, 12, 13, 14, 15, 16, 17], [4, 5, 6, 7, 8, 9, 10, 11, 12, 13, 14, 15, 16, 17, 18], [0, 1, 2, 3, 4, 5, 6, 7, 8, 9, 10, 11, 12, 13, 14, 15, 16, 17, 18, 19]]
def c_api_givenFlagsWords_s2 : C := .seq (.dreg [⟨some 267, none, .mov (.t 0)⟩, ⟨some 268, none, .load (some 6) (.t 2)⟩, ⟨some 269, none, .load (some 6) (.t 4)⟩, ⟨some 270, none, .load (some 6) (.t 3)⟩, ⟨some 271, none, .lit 6 [(.t 268), (.t 269), (.t 270)]⟩, ⟨some 272, none, .load (some 6) (.t 7)⟩, ⟨some 273, none, .load (some 6) (.t 8)⟩, ⟨some 274, none, .lit 6 [(.t 272), (.t 273)]⟩, ⟨some 275, none, .callf 135 [(.c (.pv (.int .u8 15))), (.c (.pv (.int .i64 16))), (.t 274)]⟩, ⟨some 276, none, .callf 134 [(.c (.pv (.int .i64 0))), (.t 275)]⟩, ⟨some 277, none, .lit 21 [(.t 276)]⟩, ⟨some 278, none, .callf 159 [(.t 267), (.c (.pv (.str ⟨#[117, 114, 101, 109]⟩))), (.c (.pv (.int .i64 12))), (.t 271), (.t 277)]⟩] [[], [], [], [], [1, 2, 3], [], [], [5, 6], [5, 6, 7], [5, 6, 7, 8], [5, 6, 7, 8, 9], [0, 1, 2, 3, 4, 5, 6, 7, 8, 9, 10]]) (.gh (.keep ⟨[0, 2, 3, 8, 9], [0, 1, 2, 3, 4, 5, 6, 7, 8, 9, 10], 11⟩) c_api_givenFlagsWords_s1)
def c_api_givenFlagsWords_s3 : C := .seq (.dreg [⟨some 255, none, .mov (.t 0)⟩, ⟨some 256, none, .load (some 6) (.t 2)⟩, ⟨some 257, none, .load (some 6) (.t 4)⟩, ⟨some 258, none, .load (some 6) (.t 3)⟩, ⟨some 259, none, .lit 6 [(.t 256), (.t 257), (.t 258)]⟩, ⟨some 260, none, .load (some 6) (.t 7)⟩, ⟨some 261, none, .load (some 6) (.t 8)⟩, ⟨some 262, none, .lit 6 [(.t 260), (.t 261)]⟩, ⟨some 263, none, .callf 135 [(.c (.pv (.int .u8 14))), (.c (.pv (.int .i64 16))), (.t 262)]⟩, ⟨some 264, none, .callf 134 [(.c (.pv (.int .i64 0))), (.t 263)]⟩, ⟨some 265, none, .lit 21 [(.t 264)]⟩, ⟨some 266, none, .callf 159 [(.t 255), (.c (.pv (.str ⟨#[117, 100, 105, 118]⟩))), (.c (.pv (.int .i64 12))), (.t 259), (.t 265)]⟩] [[], [], [], [], [1, 2, 3], [], [], [5, 6], [5, 6, 7], [5, 6, 7, 8], [5, 6, 7, 8, 9], [0, 1, 2, 3, 4, 5, 6, 7, 8, 9, 10]]) (.gh (.keep ⟨[0, 2, 3, 4, 7, 8, 9], [0, 1, 2, 3, 4, 5, 6, 7, 8, 9, 10], 11⟩) c_api_givenFlagsWords_s2)
def c_api_givenFlagsWords_s4 : C := .seq (.dreg [⟨some 243, none, .mov (.t 0)⟩, ⟨some 244, none, .load (some 6) (.t 2)⟩, ⟨some 245, none, .load (some 6) (.t 4)⟩, ⟨some 246, none, .load (some 6) (.t 3)⟩, ⟨some 247, none, .lit 6 [(.t 244), (.t 245), (.t 246)]⟩, ⟨some 248, none, .load (some 6) (.t 7)⟩, ⟨some 249, none, .load (some 6) (.t 8)⟩, ⟨some 250, none, .lit 6 [(.t 248), (.t 249)]⟩, ⟨some 251, none, .callf 135 [(.c (.pv (.int .u8 7))), (.c (.pv (.int .i64 16))), (.t 250)]⟩, ⟨some 252, none, .callf 134 [(.c (.pv (.int .i64 0))), (.t 251)]⟩, ⟨some 253, none, .lit 21 [(.t 252)]⟩, ⟨some 254, none, .callf 159 [(.t 243), (.c (.pv (.str ⟨#[109, 117, 108]⟩))), (.c (.pv (.int .i64 6))), (.t 247), (.t 253)]⟩] [[], [], [], [], [1, 2, 3], [], [], [5, 6], [5, 6, 7], [5, 6, 7, 8], [5, 6, 7, 8, 9], [0, 1, 2, 3, 4, 5, 6, 7, 8, 9, 10]]) (.gh (.keep ⟨[0, 2, 3, 4, 7, 8, 9], [0, 1, 2, 3, 4, 5, 6, 7, 8, 9, 10], 11⟩) c_api_givenFlagsWords_s3)
def c_api_givenFlagsWords_s5 : C := .seq (.dreg [⟨some 233, none, .mov (.t 0)⟩, ⟨some 234, none, .load (some 6) (.t 2)⟩, ⟨some 235, none, .load (some 6) (.t 4)⟩, ⟨some 236, none, .lit 6 [(.t 234), (.t 235)]⟩, ⟨some 237, none, .load (some 6) (.t 7)⟩, ⟨some 238, none, .lit 6 [(.t 237)]⟩, ⟨some 239, none, .callf 135 [(.c (.pv (.int .u8 3))), (.c (.pv (.int .i64 16))), (.t 238)]⟩, ⟨some 240, none, .callf 134 [(.c (.pv (.int .i64 0))), (.t 239)]⟩, ⟨some 241, none, .lit 21 [(.t 240)]⟩, ⟨some 242, none, .callf 159 [(.t 233), (.c (.pv (.str ⟨#[110, 111, 116]⟩))), (.c (.pv (.int .i64 1))), (.t 236), (.t 241)]⟩] [[], [], [], [1, 2], [], [4], [4, 5], [4, 5, 6], [4, 5, 6, 7], [0, 1, 2, 3, 4, 5, 6, 7, 8]]) (.gh (.keep ⟨[0, 2, 3, 4, 7, 8, 9], [0, 1, 2, 3, 4, 5, 6, 7, 8, 9, 10], 11⟩) c_api_givenFlagsWords_s4)
def c_api_givenFlagsWords_s6 : C := .seq (.dreg [⟨some 223, none, .mov (.t 0)⟩, ⟨some 224, none, .load (some 6) (.t 2)⟩, ⟨some 225, none, .load (some 6) (.t 4)⟩, ⟨some 226, none, .lit 6 [(.t 224), (.t 225)]⟩, ⟨some 227, none, .load (some 6) (.t 7)⟩, ⟨some 228, none, .lit 6 [(.t 227)]⟩, ⟨some 229, none, .callf 135 [(.c (.pv (.int .u8 4))), (.c (.pv (.int .i64 16))), (.t 228)]⟩, ⟨some 230, none, .callf 134 [(.c (.pv (.int .i64 0))), (.t 229)]⟩, ⟨some 231, none, .lit 21 [(.t 230)]⟩, ⟨some 232, none, .callf 159 [(.t 223), (.c (.pv (.str ⟨#[110, 101, 103]⟩))), (.c (.pv (.int .i64 1))), (.t 226), (.t 231)]⟩] [[], [], [], [1, 2], [], [4], [4, 5], [4, 5, 6], [4, 5, 6, 7], [0, 1, 2, 3, 4, 5, 6, 7, 8]]) (.gh (.keep ⟨[0, 2, 3, 4, 7, 8, 9], [0, 1, 2, 3, 4, 5, 6, 7, 8, 9, 10], 11⟩) c_api_givenFlagsWords_s5)
def c_api_givenFlagsWords_s7 : C := .seq (.dreg [⟨some 211, none, .mov (.t 0)⟩, ⟨some 212, none, .load (some 6) (.t 2)⟩, ⟨some 213, none, .load (some 6) (.t 4)⟩, ⟨some 214, none, .load (some 6) (.t 6)⟩, ⟨some 215, none, .lit 6 [(.t 212), (.t 213), (.t 214)]⟩, ⟨some 216, none, .load (some 6) (.t 7)⟩, ⟨some 217, none, .load (some 6) (.t 10)⟩, ⟨some 218, none, .lit 6 [(.t 216), (.t 217)]⟩, ⟨some 219, none, .callf 135 [(.c (.pv (.int .u8 12))), (.c (.pv (.int .i64 16))), (.t 218)]⟩, ⟨some 220, none, .callf 134 [(.c (.pv (.int .i64 0))), (.t 219)]⟩, ⟨some 221, none, .lit 21 [(.t 220)]⟩, ⟨some 222, none, .callf 159 [(.t 211), (.c (.pv (.str ⟨#[115, 104, 114, 105]⟩))), (.c (.pv (.int .i64 1))), (.t 215), (.t 221)]⟩] [[], [], [], [], [1, 2, 3], [], [], [5, 6], [5, 6, 7], [5, 6, 7, 8], [5, 6, 7, 8, 9], [0, 1, 2, 3, 4, 5, 6, 7, 8, 9, 10]]) (.gh (.keep ⟨[0, 2, 3, 4, 7, 8, 9], [0, 1, 2, 3, 4, 5, 6, 7, 8, 9, 10], 11⟩) c_api_givenFlagsWords_s6)
def c_api_givenFlagsWords_s8 : C := .seq (.dreg [⟨some 199, none, .mov (.t 0)⟩, ⟨some 200, none, .load (some 6) (.t 2)⟩, ⟨some 201, none, .load (some 6) (.t 4)⟩, ⟨some 202, none, .load (some 6) (.t 6)⟩, ⟨some 203, none, .lit 6 [(.t 200), (.t 201), (.t 202)]⟩, ⟨some 204, none, .load (some 6) (.t 7)⟩, ⟨some 205, none, .load (some 6) (.t 10)⟩, ⟨some 206, none, .lit 6 [(.t 204), (.t 205)]⟩, ⟨some 207, none, .callf 135 [(.c (.pv (.int .u8 11))), (.c (.pv (.int .i64 16))), (.t 206)]⟩, ⟨some 208, none, .callf 134 [(.c (.pv (.int .i64 0))), (.t 207)]⟩, ⟨some 209, none, .lit 21 [(.t 208)]⟩, ⟨some 210, none, .callf 159 [(.t 199), (.c (.pv (.str ⟨#[115, 104, 108, 105]⟩))), (.c (.pv (.int .i64 1))), (.t 203), (.t 209)]⟩] [[], [], [], [], [1, 2, 3], [], [], [5, 6], [5, 6, 7], [5, 6, 7, 8], [5, 6, 7, 8, 9], [0, 1, 2, 3, 4, 5, 6, 7, 8, 9, 10]]) (.gh (.keep ⟨[0, 2, 3, 4, 6, 7, 8, 9, 10], [0, 1, 2, 3, 4, 5, 6, 7, 8, 9, 10], 11⟩) c_api_givenFlagsWords_s7)
def c_api_givenFlagsWords_s9 : C := .seq (.seq (.reg [⟨some 174, none, .lit 1 [(.c (.pv (.int .u8 11))), (.c (.pv (.int .u8 12))), (.c (.pv (.int .u8 13)))]⟩, ⟨some 175, none, .len (.t 174)⟩, ⟨some 176, none, .mov (.c (.pv (.int .i64 0)))⟩]) (.blk 2 (.loop ⟨[0, 2, 3, 4, 6, 7, 8, 9, 10, 11, 174, 175, 176], [0, 1, 2, 3, 4, 5, 6, 7, 8, 9, 10], 11⟩ (.seq (.reg [⟨some 177, none, .bin .lss (.t 176) (.t 175)⟩]) (.seq (.cond (.t 177) (.skip) (.ext 2)) (.seq (.blk 3 (.seq (.reg [⟨some 178, none, .mov (.t 176)⟩, ⟨some 179, none, .iad 1 (.t 174) (.t 176)⟩, ⟨some 180, none, .load none (.t 179)⟩, ⟨some 14, none, .mov (.t 178)⟩, ⟨some 15, none, .mov (.t 180)⟩]) (.dreg [⟨some 181, none, .mov (.t 0)⟩, ⟨some 182, none, .mov (.t 11)⟩, ⟨some 183, none, .mov (.t 14)⟩, ⟨some 184, none, .iad 1 (.t 182) (.t 183)⟩, ⟨some 185, none, .load none (.t 184)⟩, ⟨some 186, none, .load (some 6) (.t 2)⟩, ⟨some 187, none, .load (some 6) (.t 4)⟩, ⟨some 188, none, .load (some 6) (.t 3)⟩, ⟨some 189, none, .lit 6 [(.t 186), (.t 187), (.t 188)]⟩, ⟨some 190, none, .mov (.t 15)⟩, ⟨some 191, none, .load (some 6) (.t 7)⟩, ⟨some 192, none, .load (some 6) (.t 8)⟩, ⟨some 193, none, .lit 6 [(.t 191), (.t 192)]⟩, ⟨some 194, none, .callf 135 [(.t 190), (.c (.pv (.int .i64 16))), (.t 193)]⟩, ⟨some 195, none, .callf 134 [(.c (.pv (.int .i64 0))), (.t 194)]⟩, ⟨some 196, none, .lit 21 [(.t 195)]⟩, ⟨some 197, none, .callf 159 [(.t 181), (.t 185), (.c (.pv (.int .i64 1))), (.t 189), (.t 196)]⟩] [[], [], [], [1, 2], [1, 2, 3], [], [], [], [5, 6, 7], [], [], [], [10, 11], [9, 10, 11, 12], [9, 10, 11, 12, 13], [9, 10, 11, 12, 13, 14], [0, 1, 2, 3, 4, 5, 6, 7, 8, 9, 10, 11, 12, 13, 14, 15]]))) (.reg [⟨some 198, none, .bin .add (.t 176) (.c (.pv (.int .i64 1)))⟩, ⟨some 176, none, .mov (.t 198)⟩]))))))) (.gh (.keep ⟨[0, 2, 3, 4, 6, 7, 8, 9, 10], [0, 1, 2, 3, 4, 5, 6, 7, 8, 9, 10], 11⟩) c_api_givenFlagsWords_s8)
def c_api_givenFlagsWords_s10 : C := .seq (.reg [⟨some 173, none, .lit 1 [(.c (.pv (.str ⟨#[115, 104, 108]⟩))), (.c (.pv (.str ⟨#[115, 104, 114]⟩))), (.c (.pv (.str ⟨#[115, 97, 114]⟩)))]⟩, ⟨some 11, none, .mov (.t 173)⟩]) (.gh (.keep ⟨[0, 2, 3, 4, 6, 7, 8, 9, 10, 11], [0, 1, 2, 3, 4, 5, 6, 7, 8, 9, 10], 11⟩) c_api_givenFlagsWords_s9)
def c_api_givenFlagsWords_s11 : C := .seq (.dreg [⟨some 156, none, .mov (.t 0)⟩, ⟨some 157, none, .load (some 6) (.t 2)⟩, ⟨some 158, none, .load (some 6) (.t 4)⟩, ⟨some 159, none, .load (some 6) (.t 5)⟩, ⟨some 160, none, .lit 6 [(.t 157), (.t 158), (.t 159)]⟩, ⟨some 161, none, .load (some 6) (.t 7)⟩, ⟨some 162, none, .load (some 6) (.t 10)⟩, ⟨some 163, none, .lit 6 [(.t 161), (.t 162)]⟩, ⟨some 164, none, .callf 135 [(.c (.pv (.int .u8 5))), (.c (.pv (.int .i64 16))), (.t 163)]⟩, ⟨some 165, none, .callf 134 [(.c (.pv (.int .i64 0))), (.t 164)]⟩, ⟨some 166, none, .load (some 6) (.t 7)⟩, ⟨some 167, none, .load (some 6) (.t 10)⟩, ⟨some 168, none, .lit 6 [(.t 166), (.t 167)]⟩, ⟨some 169, none, .callf 135 [(.c (.pv (.int .u8 5))), (.c (.pv (.int .i64 16))), (.t 168)]⟩, ⟨some 170, none, .callf 160 [(.t 169)]⟩, ⟨some 171, none, .lit 21 [(.t 165), (.t 170)]⟩, ⟨some 172, none, .callf 159 [(.t 156), (.c (.pv (.str ⟨#[97, 100, 100, 105]⟩))), (.c (.pv (.int .i64 1))), (.t 160), (.t 171)]⟩] [[], [], [], [], [1, 2, 3], [], [], [5, 6], [5, 6, 7], [5, 6, 7, 8], [], [], [10, 11], [5, 6, 7, 8, 9, 10, 11, 12], [5, 6, 7, 8, 9, 10, 11, 12, 13], [5, 6, 7, 8, 9, 10, 11, 12, 13, 14], [0, 1, 2, 3, 4, 5, 6, 7, 8, 9, 10, 11, 12, 13, 14, 15]]) (.gh (.keep ⟨[0, 2, 3, 4, 6, 7, 8, 9, 10], [0, 1, 2, 3, 4, 5, 6, 7, 8, 9, 10], 11⟩) c_api_givenFlagsWords_s10)
def c_api_givenFlagsWords_s12 : C := .seq (.seq (.reg [⟨some 125, none, .lit 1 [(.c (.pv (.int .u8 8))), (.c (.pv (.int .u8 9))), (.c (.pv (.int .u8 10)))]⟩, ⟨some 126, none, .len (.t 125)⟩, ⟨some 127, none, .mov (.c (.pv (.int .i64 0)))⟩]) (.blk 0 (.loop ⟨[0, 2, 3, 4, 5, 6, 7, 8, 9, 10, 11, 125, 126, 127], [0, 1, 2, 3, 4, 5, 6, 7, 8, 9, 10], 11⟩ (.seq (.reg [⟨some 128, none, .bin .lss (.t 127) (.t 126)⟩]) (.seq (.cond (.t 128) (.skip) (.ext 0)) (.seq (.blk 1 (.seq (.reg [⟨some 129, none, .mov (.t 127)⟩, ⟨some 130, none, .iad 1 (.t 125) (.t 127)⟩, ⟨some 131, none, .load none (.t 130)⟩, ⟨some 12, none, .mov (.t 129)⟩, ⟨some 13, none, .mov (.t 131)⟩]) (.dreg [⟨some 132, none, .mov (.t 0)⟩, ⟨some 133, none, .mov (.t 11)⟩, ⟨some 134, none, .mov (.t 12)⟩, ⟨some 135, none, .iad 1 (.t 133) (.t 134)⟩, ⟨some 136, none, .load none (.t 135)⟩, ⟨some 137, none, .load (some 6) (.t 2)⟩, ⟨some 138, none, .load (some 6) (.t 4)⟩, ⟨some 139, none, .load (some 6) (.t 3)⟩, ⟨some 140, none, .lit 6 [(.t 137), (.t 138), (.t 139)]⟩, ⟨some 141, none, .mov (.t 13)⟩, ⟨some 142, none, .load (some 6) (.t 7)⟩, ⟨some 143, none, .load (some 6) (.t 8)⟩, ⟨some 144, none, .lit 6 [(.t 142), (.t 143)]⟩, ⟨some 145, none, .callf 135 [(.t 141), (.c (.pv (.int .i64 16))), (.t 144)]⟩, ⟨some 146, none, .callf 134 [(.c (.pv (.int .i64 0))), (.t 145)]⟩, ⟨some 147, none, .mov (.t 13)⟩, ⟨some 148, none, .load (some 6) (.t 7)⟩, ⟨some 149, none, .load (some 6) (.t 8)⟩, ⟨some 150, none, .lit 6 [(.t 148), (.t 149)]⟩, ⟨some 151, none, .callf 135 [(.t 147), (.c (.pv (.int .i64 16))), (.t 150)]⟩, ⟨some 152, none, .callf 160 [(.t 151)]⟩, ⟨some 153, none, .lit 21 [(.t 146), (.t 152)]⟩, ⟨some 154, none, .callf 159 [(.t 132), (.t 136), (.c (.pv (.int .i64 1))), (.t 140), (.t 153)]⟩] [[], [], [], [1, 2], [1, 2, 3], [], [], [], [5, 6, 7], [], [], [], [10, 11], [9, 10, 11, 12], [9, 10, 11, 12, 13], [], [], [], [16, 17], [9, 10, 11, 12, 13, 14, 15, 16, 17, 18], [9, 10, 11, 12, 13, 14, 15, 16, 17, 18, 19], [9, 10, 11, 12, 13, 14, 15, 16, 17, 18, 19, 20], [0, 1, 2, 3, 4, 5, 6, 7, 8, 9, 10, 11, 12, 13, 14, 15, 16, 17, 18, 19, 20, 21]]))) (.reg [⟨some 155, none, .bin .add (.t 127) (.c (.pv (.int .i64 1)))⟩, ⟨some 127, none, .mov (.t 155)⟩]))))))) (.gh (.keep ⟨[0, 2, 3, 4, 5, 6, 7, 8, 9, 10], [0, 1, 2, 3, 4, 5, 6, 7, 8, 9, 10], 11⟩) c_api_givenFlagsWords_s11)
def c_api_givenFlagsWords_s13 : C := .seq (.reg [⟨some 124, none, .lit 1 [(.c (.pv (.str ⟨#[97, 110, 100]⟩))), (.c (.pv (.str ⟨#[111, 114]⟩))), (.c (.pv (.str ⟨#[120, 111, 114]⟩)))]⟩, ⟨some 11, none, .mov (.t 124)⟩]) (.gh (.keep ⟨[0, 2, 3, 4, 5, 6, 7, 8, 9, 10, 11], [0, 1, 2, 3, 4, 5, 6, 7, 8, 9, 10], 11⟩) c_api_givenFlagsWords_s12)
def c_api_givenFlagsWords_s14 : C := .seq (.dreg [⟨some 97, none, .mov (.t 0)⟩, ⟨some 98, none, .load (some 6) (.t 2)⟩, ⟨some 99, none, .load (some 6) (.t 4)⟩, ⟨some 100, none, .load (some 6) (.t 3)⟩, ⟨some 101, none, .lit 6 [(.t 98), (.t 99), (.t 100)]⟩, ⟨some 102, none, .load (some 6) (.t 7)⟩, ⟨some 103, none, .load (some 6) (.t 8)⟩, ⟨some 104, none, .lit 6 [(.t 102), (.t 103)]⟩, ⟨some 105, none, .callf 135 [(.c (.pv (.int .u8 6))), (.c (.pv (.int .i64 16))), (.t 104)]⟩, ⟨some 106, none, .callf 134 [(.c (.pv (.int .i64 0))), (.t 105)]⟩, ⟨some 107, none, .load (some 6) (.t 7)⟩, ⟨some 108, none, .load (some 6) (.t 8)⟩, ⟨some 109, none, .lit 6 [(.t 107), (.t 108)]⟩, ⟨some 110, none, .callf 135 [(.c (.pv (.int .u8 16))), (.c (.pv (.int .i64 1))), (.t 109)]⟩, ⟨some 111, none, .callf 140 [(.c (.pv (.int .i64 16))), (.t 110)]⟩, ⟨some 112, none, .load (some 6) (.t 7)⟩, ⟨some 113, none, .load (some 6) (.t 8)⟩, ⟨some 114, none, .lit 6 [(.t 112), (.t 113)]⟩, ⟨some 115, none, .callf 135 [(.c (.pv (.int .u8 17))), (.c (.pv (.int .i64 1))), (.t 114)]⟩, ⟨some 116, none, .callf 140 [(.c (.pv (.int .i64 17))), (.t 115)]⟩, ⟨some 117, none, .load (some 6) (.t 7)⟩, ⟨some 118, none, .load (some 6) (.t 8)⟩, ⟨some 119, none, .lit 6 [(.t 117), (.t 118)]⟩, ⟨some 120, none, .callf 135 [(.c (.pv (.int .u8 18))), (.c (.pv (.int .i64 1))), (.t 119)]⟩, ⟨some 121, none, .callf 140 [(.c (.pv (.int .i64 18))), (.t 120)]⟩, ⟨some 122, none, .lit 21 [(.t 106), (.t 111), (.t 116), (.t 121)]⟩, ⟨some 123, none, .callf 159 [(.t 97), (.c (.pv (.str ⟨#[115, 117, 98]⟩))), (.c (.pv (.int .i64 1))), (.t 101), (.t 122)]⟩] [[], [], [], [], [1, 2, 3], [], [], [5, 6], [5, 6, 7], [5, 6, 7, 8], [], [], [10, 11], [5, 6, 7, 8, 9, 10, 11, 12], [5, 6, 7, 8, 9, 10, 11, 12, 13], [], [], [15, 16], [5, 6, 7, 8, 9, 10, 11, 12, 13, 14, 15, 16, 17], [5, 6, 7, 8, 9, 10, 11, 12, 13, 14, 15, 16, 17, 18], [], [], [20, 21], [5, 6, 7, 8, 9, 10, 11, 12, 13, 14, 15, 16, 17, 18, 19, 20, 21, 22], [5, 6, 7, 8, 9, 10, 11, 12, 13, 14, 15, 16, 17, 18, 19, 20, 21, 22, 23], [5, 6, 7, 8, 9, 10, 11, 12, 13, 14, 15, 16, 17, 18, 19, 20, 21, 22, 23, 24], [0, 1, 2, 3, 4, 5, 6, 7, 8, 9, 10, 11, 12, 13, 14, 15, 16, 17, 18, 19, 20, 21, 22, 23, 24, 25]]) (.gh (.keep ⟨[0, 2, 3, 4, 5, 6, 7, 8, 9, 10], [0, 1, 2, 3, 4, 5, 6, 7, 8, 9, 10], 11⟩) c_api_givenFlagsWords_s13)
def c_api_givenFlagsWords_s15 : C := .seq (.dreg [⟨some 67, none, .mov (.t 0)⟩, ⟨some 68, none, .load (some 6) (.t 2)⟩, ⟨some 69, none, .load (some 6) (.t 4)⟩, ⟨some 70, none, .load (some 6) (.t 3)⟩, ⟨some 71, none, .lit 6 [(.t 68), (.t 69), (.t 70)]⟩, ⟨some 72, none, .load (some 6) (.t 7)⟩, ⟨some 73, none, .load (some 6) (.t 8)⟩, ⟨some 74, none, .lit 6 [(.t 72), (.t 73)]⟩, ⟨some 75, none, .callf 135 [(.c (.pv (.int .u8 5))), (.c (.pv (.int .i64 16))), (.t 74)]⟩, ⟨some 76, none, .callf 134 [(.c (.pv (.int .i64 0))), (.t 75)]⟩, ⟨some 77, none, .load (some 6) (.t 7)⟩, ⟨some 78, none, .load (some 6) (.t 8)⟩, ⟨some 79, none, .lit 6 [(.t 77), (.t 78)]⟩, ⟨some 80, none, .callf 135 [(.c (.pv (.int .u8 5))), (.c (.pv (.int .i64 16))), (.t 79)]⟩, ⟨some 81, none, .callf 160 [(.t 80)]⟩, ⟨some 82, none, .load (some 6) (.t 7)⟩, ⟨some 83, none, .load (some 6) (.t 8)⟩, ⟨some 84, none, .lit 6 [(.t 82), (.t 83)]⟩, ⟨some 85, none, .callf 135 [(.c (.pv (.int .u8 5))), (.c (.pv (.int .i64 16))), (.t 84)]⟩, ⟨some 86, none, .load (some 6) (.t 7)⟩, ⟨some 87, none, .lit 6 [(.t 85), (.t 86)]⟩, ⟨some 88, none, .callf 135 [(.c (.pv (.int .u8 17))), (.c (.pv (.int .i64 1))), (.t 87)]⟩, ⟨some 89, none, .callf 140 [(.c (.pv (.int .i64 17))), (.t 88)]⟩, ⟨some 90, none, .load (some 6) (.t 7)⟩, ⟨some 91, none, .load (some 6) (.t 8)⟩, ⟨some 92, none, .lit 6 [(.t 90), (.t 91)]⟩, ⟨some 93, none, .callf 135 [(.c (.pv (.int .u8 5))), (.c (.pv (.int .i64 16))), (.t 92)]⟩, ⟨some 94, none, .callf 161 [(.t 93)]⟩, ⟨some 95, none, .lit 21 [(.t 76), (.t 81), (.t 89), (.t 94)]⟩, ⟨some 96, none, .callf 159 [(.t 67), (.c (.pv (.str ⟨#[97, 100, 100]⟩))), (.c (.pv (.int .i64 1))), (.t 71), (.t 95)]⟩] [[], [], [], [], [1, 2, 3], [], [], [5, 6], [5, 6, 7], [5, 6, 7, 8], [], [], [10, 11], [5, 6, 7, 8, 9, 10, 11, 12], [5, 6, 7, 8, 9, 10, 11, 12, 13], [], [], [15, 16], [5, 6, 7, 8, 9, 10, 11, 12, 13, 14, 15, 16, 17], [], [5, 6, 7, 8, 9, 10, 11, 12, 13, 14, 15, 16, 17, 18, 19], [5, 6, 7, 8, 9, 10, 11, 12, 13, 14, 15, 16, 17, 18, 19, 20], [5, 6, 7, 8, 9, 10, 11, 12, 13, 14, 15, 16, 17, 18, 19, 20, 21], [], [], [23, 24], [5, 6, 7, 8, 9, 10, 11, 12, 13, 14, 15, 16, 17, 18, 19, 20, 21, 22, 23, 24, 25], [5, 6, 7, 8, 9, 10, 11, 12, 13, 14, 15, 16, 17, 18, 19, 20, 21, 22, 23, 24, 25, 26], [5, 6, 7, 8, 9, 10, 11, 12, 13, 14, 15, 16, 17, 18, 19, 20, 21, 22, 23, 24, 25, 26, 27], [0, 1, 2, 3, 4, 5, 6, 7, 8, 9, 10, 11, 12, 13, 14, 15, 16, 17, 18, 19, 20, 21, 22, 23, 24, 25, 26, 27, 28]]) (.gh (.keep ⟨[0, 2, 3, 4, 5, 6, 7, 8, 9, 10], [0, 1, 2, 3, 4, 5, 6, 7, 8, 9, 10], 11⟩) c_api_givenFlagsWords_s14)
def c_api_givenFlagsWords_s16 : C := .seq (.dreg [⟨some 49, none, .mov (.t 0)⟩, ⟨some 50, none, .load (some 6) (.t 2)⟩, ⟨some 51, none, .load (some 6) (.t 4)⟩, ⟨some 52, none, .load (some 6) (.t 5)⟩, ⟨some 53, none, .lit 6 [(.t 50), (.t 51), (.t 52)]⟩, ⟨some 54, none, .load (some 6) (.t 10)⟩, ⟨some 55, none, .callf 138 [(.c (.pv (.int .i64 16))), (.c (.pv (.int .u64 9)))]⟩, ⟨some 56, none, .lit 6 [(.t 54), (.t 55)]⟩, ⟨some 57, none, .callf 135 [(.c (.pv (.int .u8 11))), (.c (.pv (.int .i64 16))), (.t 56)]⟩, ⟨some 58, none, .load (some 6) (.t 7)⟩, ⟨some 59, none, .callf 138 [(.c (.pv (.int .i64 16))), (.c (.pv (.int .u64 511)))]⟩, ⟨some 60, none, .lit 6 [(.t 58), (.t 59)]⟩, ⟨some 61, none, .callf 135 [(.c (.pv (.int .u8 8))), (.c (.pv (.int .i64 16))), (.t 60)]⟩, ⟨some 62, none, .lit 6 [(.t 57), (.t 61)]⟩, ⟨some 63, none, .callf 135 [(.c (.pv (.int .u8 9))), (.c (.pv (.int .i64 16))), (.t 62)]⟩, ⟨some 64, none, .callf 134 [(.c (.pv (.int .i64 0))), (.t 63)]⟩, ⟨some 65, none, .lit 21 [(.t 64)]⟩, ⟨some 66, none, .callf 159 [(.t 49), (.c (.pv (.str ⟨#[109, 111, 118, 104]⟩))), (.c (.pv (.int .i64 1))), (.t 53), (.t 65)]⟩] [[], [], [], [], [1, 2, 3], [], [], [5, 6], [5, 6, 7], [], [5, 6, 7, 8], [5, 6, 7, 8, 9, 10], [5, 6, 7, 8, 9, 10, 11], [5, 6, 7, 8, 9, 10, 11, 12], [5, 6, 7, 8, 9, 10, 11, 12, 13], [5, 6, 7, 8, 9, 10, 11, 12, 13, 14], [5, 6, 7, 8, 9, 10, 11, 12, 13, 14, 15], [0, 1, 2, 3, 4, 5, 6, 7, 8, 9, 10, 11, 12, 13, 14, 15, 16]]) (.gh (.keep ⟨[0, 2, 3, 4, 5, 6, 7, 8, 9, 10], [0, 1, 2, 3, 4, 5, 6, 7, 8, 9, 10], 11⟩) c_api_givenFlagsWords_s15)
def c_api_givenFlagsWords_s17 : C := .seq (.dreg [⟨some 41, none, .mov (.t 0)⟩, ⟨some 42, none, .load (some 6) (.t 2)⟩, ⟨some 43, none, .load (some 6) (.t 5)⟩, ⟨some 44, none, .lit 6 [(.t 42), (.t 43)]⟩, ⟨some 45, none, .load (some 6) (.t 10)⟩, ⟨some 46, none, .callf 134 [(.c (.pv (.int .i64 0))), (.t 45)]⟩, ⟨some 47, none, .lit 21 [(.t 46)]⟩, ⟨some 48, none, .callf 159 [(.t 41), (.c (.pv (.str ⟨#[109, 111, 118, 105]⟩))), (.c (.pv (.int .i64 1))), (.t 44), (.t 47)]⟩] [[], [], [], [1, 2], [], [4], [4, 5], [0, 1, 2, 3, 4, 5, 6]]) (.gh (.keep ⟨[0, 2, 3, 4, 5, 6, 7, 8, 9, 10], [0, 1, 2, 3, 4, 5, 6, 7, 8, 9, 10], 11⟩) c_api_givenFlagsWords_s16)
def c_api_givenFlagsWords_s18 : C := .seq (.dreg [⟨some 33, none, .mov (.t 0)⟩, ⟨some 34, none, .load (some 6) (.t 2)⟩, ⟨some 35, none, .load (some 6) (.t 3)⟩, ⟨some 36, none, .lit 6 [(.t 34), (.t 35)]⟩, ⟨some 37, none, .load (some 6) (.t 8)⟩, ⟨some 38, none, .callf 134 [(.c (.pv (.int .i64 0))), (.t 37)]⟩, ⟨some 39, none, .lit 21 [(.t 38)]⟩, ⟨some 40, none, .callf 159 [(.t 33), (.c (.pv (.str ⟨#[109, 111, 118]⟩))), (.c (.pv (.int .i64 1))), (.t 36), (.t 39)]⟩] [[], [], [], [1, 2], [], [4], [4, 5], [0, 1, 2, 3, 4, 5, 6]]) (.gh (.keep ⟨[0, 2, 3, 4, 5, 6, 7, 8, 9, 10], [0, 1, 2, 3, 4, 5, 6, 7, 8, 9, 10], 11⟩) c_api_givenFlagsWords_s17)
def c_api_givenFlagsWords_s19 : C := .seq (.reg [⟨some 29, none, .callf 133 [(.c (.pv (.str ⟨#[97]⟩))), (.c (.pv (.int .i64 16)))]⟩, ⟨some 30, none, .callf 133 [(.c (.pv (.str ⟨#[115]⟩))), (.c (.pv (.int .i64 16)))]⟩, ⟨some 31, none, .callf 133 [(.c (.pv (.str ⟨#[100]⟩))), (.c (.pv (.int .i64 16)))]⟩, ⟨some 32, none, .callf 133 [(.c (.pv (.str ⟨#[110]⟩))), (.c (.pv (.int .i64 16)))]⟩, ⟨some 7, none, .alloc [.pv (.int .u8 0), .pv (.int .i64 0), .pv (.int .u64 0), .pv (.str ⟨#[]⟩), .pv (.int .i64 0), .nilS 6]⟩, ⟨some 8, none, .alloc [.pv (.int .u8 0), .pv (.int .i64 0), .pv (.int .u64 0), .pv (.str ⟨#[]⟩), .pv (.int .i64 0), .nilS 6]⟩, ⟨some 9, none, .alloc [.pv (.int .u8 0), .pv (.int .i64 0), .pv (.int .u64 0), .pv (.str ⟨#[]⟩), .pv (.int .i64 0), .nilS 6]⟩, ⟨some 10, none, .alloc [.pv (.int .u8 0), .pv (.int .i64 0), .pv (.int .u64 0), .pv (.str ⟨#[]⟩), .pv (.int .i64 0), .nilS 6]⟩, ⟨none, none, .store 6 (.t 7) (.t 29)⟩, ⟨none, none, .store 6 (.t 8) (.t 30)⟩, ⟨none, none, .store 6 (.t 9) (.t 31)⟩, ⟨none, none, .store 6 (.t 10) (.t 32)⟩]) (.gh (.keep ⟨[0, 2, 3, 4, 5, 6, 7, 8, 9, 10], [0, 1, 2, 3, 4, 5, 6, 7, 8, 9, 10], 11⟩) c_api_givenFlagsWords_s18)
def c_api_givenFlagsWords_s20 : C := .seq (.reg [⟨some 23, none, .build [.pv (.int .i64 0), .pv (.int .i64 0)] [((0, 1), (.c (.pv (.int .i64 0)))), ((1, 1), (.c (.pv (.int .i64 7))))]⟩, ⟨some 24, none, .lit 2 [(.t 23)]⟩, ⟨some 25, none, .callf 132 [(.c (.pv (.str ⟨#[110]⟩))), (.c (.pv (.int .u8 2))), (.c (.pv (.int .i64 0))), (.c (.pv (.int .i64 0))), (.t 24)]⟩, ⟨some 26, none, .build [.pv (.int .i64 0), .pv (.int .i64 0)] [((0, 1), (.c (.pv (.int .i64 0)))), ((1, 1), (.c (.pv (.int .i64 4))))]⟩, ⟨some 27, none, .lit 2 [(.t 26)]⟩, ⟨some 28, none, .callf 132 [(.c (.pv (.str ⟨#[110]⟩))), (.c (.pv (.int .u8 3))), (.c (.pv (.int .i64 0))), (.c (.pv (.int .i64 0))), (.t 27)]⟩, ⟨some 5, none, .alloc [.pv (.str ⟨#[]⟩), .pv (.int .u8 0), .pv (.int .i64 0), .pv (.int .i64 0), .nilS 2, .pv (.int .i64 0)]⟩, ⟨some 6, none, .alloc [.pv (.str ⟨#[]⟩), .pv (.int .u8 0), .pv (.int .i64 0), .pv (.int .i64 0), .nilS 2, .pv (.int .i64 0)]⟩, ⟨none, none, .store 6 (.t 5) (.t 25)⟩, ⟨none, none, .store 6 (.t 6) (.t 28)⟩]) (.gh (.keep ⟨[0, 2, 3, 4, 5, 6], [0, 1, 2, 3, 4, 5, 6], 7⟩) c_api_givenFlagsWords_s19)
def c_api_givenFlagsWords_s21 : C := .seq (.reg [⟨some 22, none, .callf 136 [(.c (.pv (.str ⟨#[97]⟩))), (.c (.pv (.int .i64 0))), (.c (.pv (.int .i64 0)))]⟩, ⟨some 4, none, .alloc [.pv (.str ⟨#[]⟩), .pv (.int .u8 0), .pv (.int .i64 0), .pv (.int .i64 0), .nilS 2, .pv (.int .i64 0)]⟩, ⟨none, none, .store 6 (.t 4) (.t 22)⟩]) (.gh (.keep ⟨[0, 2, 3, 4], [0, 1, 2, 3, 4], 5⟩) c_api_givenFlagsWords_s20)
def c_api_givenFlagsWords : C :=
.seq (.reg [⟨some 16, none, .build [.pv (.int .i64 0), .pv (.int .i64 0)] [((0, 1), (.c (.pv (.int .i64 7)))), ((1, 1), (.c (.pv (.int .i64 3))))]⟩, ⟨some 17, none, .lit 2 [(.t 16)]⟩, ⟨some 18, none, .callf 132 [(.c (.pv (.str ⟨#[100]⟩))), (.c (.pv (.int .u8 1))), (.c (.pv (.int .i64 0))), (.c (.pv (.int .i64 0))), (.t 17)]⟩, ⟨some 19, none, .build [.pv (.int .i64 0), .pv (.int .i64 0)] [((0, 1), (.c (.pv (.int .i64 4)))), ((1, 1), (.c (.pv (.int .i64 3))))]⟩, ⟨some 20, none, .lit 2 [(.t 19)]⟩, ⟨some 21, none, .callf 132 [(.c (.pv (.str ⟨#[115]⟩))), (.c (.pv (.int .u8 1))), (.c (.pv (.int .i64 0))), (.c (.pv (.int .i64 0))), (.t 20)]⟩, ⟨some 2, none, .alloc [.pv (.str ⟨#[]⟩), .pv (.int .u8 0), .pv (.int .i64 0), .pv (.int .i64 0), .nilS 2, .pv (.int .i64 0)]⟩, ⟨some 3, none, .alloc [.pv (.str ⟨#[]⟩), .pv (.int .u8 0), .pv (.int .i64 0), .pv (.int .i64 0), .nilS 2, .pv (.int .i64 0)]⟩, ⟨none, none, .store 6 (.t 2) (.t 18)⟩, ⟨none, none, .store 6 (.t 3) (.t 21)⟩]) (.gh (.keep ⟨[0, 2, 3], [0, 1, 2, 3], 4⟩) c_api_givenFlagsWords_s21)
theorem k_api_givenFlagsWords : FnOk Tryz.prog 126 300 c_api_givenFlagsWords [] := .mk' (fn := Tryz.f126) rfl rfl (by kernel_rfl) rfl (by kernel_rfl) (by kernel_rfl)
/- "retarget/api.givenFlagsBytes" -/
def c_api_givenFlagsBytes_s1 : C := .dreg [⟨some 118, none, .mov (.t 0)⟩, ⟨some 119, none, .load (some 6) (.t 2)⟩, ⟨some 120, none, .load (some 6) (.t 5)⟩, ⟨some 121, none, .lit 6 [(.t 119), (.t 120)]⟩, ⟨some 122, none, .callf 133 [(.c (.pv (.str ⟨#[115]⟩))), (.c (.pv (.int .i64 8)))]⟩, ⟨some 123, none, .lit 6 [(.t 122)]⟩, ⟨some 124, none, .callf 135 [(.c (.pv (.int .u8 23))), (.c (.pv (.int .i64 16))), (.t 123)]⟩, ⟨some 125, none, .callf 134 [(.c (.pv (.int .i64 0))), (.t 124)]⟩, ⟨some 126, none, .lit 21 [(.t 125)]⟩, ⟨some 127, none, .callf 159 [(.t 118), (.c (.pv (.str ⟨#[115, 101, 120, 116]⟩))), (.c (.pv (.int .i64 1))), (.t 121), (.t 126)]⟩] [[], [], [], [1, 2], [], [4], [4, 5], [4, 5, 6], [4, 5, 6, 7], [0, 1, 2, 3, 4, 5, 6, 7, 8]]
def c_api_givenFlagsBytes_s2 : C := .seq (.dreg [⟨some 108, none, .mov (.t 0)⟩, ⟨some 109, none, .load (some 6) (.t 2)⟩, ⟨some 110, none, .load (some 6) (.t 5)⟩, ⟨some 111, none, .lit 6 [(.t 109), (.t 110)]⟩, ⟨some 112, none, .callf 133 [(.c (.pv (.str ⟨#[115]⟩))), (.c (.pv (.int .i64 8)))]⟩, ⟨some 113, none, .lit 6 [(.t 112)]⟩, ⟨some 114, none, .callf 135 [(.c (.pv (.int .u8 22))), (.c (.pv (.int .i64 16))), (.t 113)]⟩, ⟨some 115, none, .callf 134 [(.c (.pv (.int .i64 0))), (.t 114)]⟩, ⟨some 116, none, .lit 21 [(.t 115)]⟩, ⟨some 117, none, .callf 159 [(.t 108), (.c (.pv (.str ⟨#[122, 101, 120, 116]⟩))), (.c (.pv (.int .i64 1))), (.t 111), (.t 116)]⟩] [[], [], [], [1, 2], [], [4], [4, 5], [4, 5, 6], [4, 5, 6, 7], [0, 1, 2, 3, 4, 5, 6, 7, 8]]) (.gh (.keep ⟨[0, 2, 5], [0, 1, 2, 3, 4, 5, 6, 7, 8, 9, 10, 11], 12⟩) c_api_givenFlagsBytes_s1)
def c_api_givenFlagsBytes_s3 : C := .seq (.dreg [⟨some 96, none, .mov (.t 0)⟩, ⟨some 97, none, .load (some 6) (.t 4)⟩, ⟨some 98, none, .load (some 6) (.t 6)⟩, ⟨some 99, none, .load (some 6) (.t 5)⟩, ⟨some 100, none, .lit 6 [(.t 97), (.t 98), (.t 99)]⟩, ⟨some 101, none, .callf 133 [(.c (.pv (.str ⟨#[97]⟩))), (.c (.pv (.int .i64 8)))]⟩, ⟨some 102, none, .callf 133 [(.c (.pv (.str ⟨#[115]⟩))), (.c (.pv (.int .i64 8)))]⟩, ⟨some 103, none, .lit 6 [(.t 101), (.t 102)]⟩, ⟨some 104, none, .callf 135 [(.c (.pv (.int .u8 5))), (.c (.pv (.int .i64 8))), (.t 103)]⟩, ⟨some 105, none, .callf 134 [(.c (.pv (.int .i64 0))), (.t 104)]⟩, ⟨some 106, none, .lit 21 [(.t 105)]⟩, ⟨some 107, none, .callf 159 [(.t 96), (.c (.pv (.str ⟨#[97, 100, 100, 98]⟩))), (.c (.pv (.int .i64 1))), (.t 100), (.t 106)]⟩] [[], [], [], [], [1, 2, 3], [], [5], [5, 6], [5, 6, 7], [5, 6, 7, 8], [5, 6, 7, 8, 9], [0, 1, 2, 3, 4, 5, 6, 7, 8, 9, 10]]) (.gh (.keep ⟨[0, 2, 5], [0, 1, 2, 3, 4, 5, 6, 7, 8, 9, 10, 11], 12⟩) c_api_givenFlagsBytes_s2)
def c_api_givenFlagsBytes_s4 : C := .seq (.dreg [⟨some 88, none, .mov (.t 0)⟩, ⟨some 89, none, .load (some 6) (.t 4)⟩, ⟨some 90, none, .load (some 6) (.t 5)⟩, ⟨some 91, none, .lit 6 [(.t 89), (.t 90)]⟩, ⟨some 92, none, .callf 133 [(.c (.pv (.str ⟨#[115]⟩))), (.c (.pv (.int .i64 8)))]⟩, ⟨some 93, none, .callf 134 [(.c (.pv (.int .i64 0))), (.t 92)]⟩, ⟨some 94, none, .lit 21 [(.t 93)]⟩, ⟨some 95, none, .callf 159 [(.t 88), (.c (.pv (.str ⟨#[109, 111, 118, 98]⟩))), (.c (.pv (.int .i64 1))), (.t 91), (.t 94)]⟩] [[], [], [], [1, 2], [], [4], [4, 5], [0, 1, 2, 3, 4, 5, 6]]) (.gh (.keep ⟨[0, 2, 4, 5, 6], [0, 1, 2, 3, 4, 5, 6, 7, 8, 9, 10, 11], 12⟩) c_api_givenFlagsBytes_s3)
def c_api_givenFlagsBytes_s5 : C := .seq (.dreg [⟨some 75, none, .mov (.t 0)⟩, ⟨some 76, none, .load (some 6) (.t 4)⟩, ⟨some 77, none, .load (some 6) (.t 3)⟩, ⟨some 78, none, .load (some 6) (.t 7)⟩, ⟨some 79, none, .lit 6 [(.t 76), (.t 77), (.t 78)]⟩, ⟨some 80, none, .load (some 6) (.t 9)⟩, ⟨some 81, none, .load (some 6) (.t 11)⟩, ⟨some 82, none, .lit 6 [(.t 80), (.t 81)]⟩, ⟨some 83, none, .callf 135 [(.c (.pv (.int .u8 5))), (.c (.pv (.int .i64 16))), (.t 82)]⟩, ⟨some 84, none, .callf 133 [(.c (.pv (.str ⟨#[100]⟩))), (.c (.pv (.int .i64 8)))]⟩, ⟨some 85, none, .callf 137 [(.t 83), (.t 84)]⟩, ⟨some 86, none, .lit 21 [(.t 85)]⟩, ⟨some 87, none, .callf 159 [(.t 75), (.c (.pv (.str ⟨#[115, 116, 98]⟩))), (.c (.pv (.int .i64 1))), (.t 79), (.t 86)]⟩] [[], [], [], [], [1, 2, 3], [], [], [5, 6], [5, 6, 7], [5, 6, 7, 8], [5, 6, 7, 8, 9], [5, 6, 7, 8, 9, 10], [0, 1, 2, 3, 4, 5, 6, 7, 8, 9, 10, 11]]) (.gh (.keep ⟨[0, 2, 4, 5, 6], [0, 1, 2, 3, 4, 5, 6, 7, 8, 9, 10, 11], 12⟩) c_api_givenFlagsBytes_s4)
def c_api_givenFlagsBytes_s6 : C := .seq (.dreg [⟨some 61, none, .mov (.t 0)⟩, ⟨some 62, none, .load (some 6) (.t 4)⟩, ⟨some 63, none, .load (some 6) (.t 3)⟩, ⟨some 64, none, .load (some 6) (.t 7)⟩, ⟨some 65, none, .lit 6 [(.t 62), (.t 63), (.t 64)]⟩, ⟨some 66, none, .load (some 6) (.t 9)⟩, ⟨some 67, none, .load (some 6) (.t 11)⟩, ⟨some 68, none, .lit 6 [(.t 66), (.t 67)]⟩, ⟨some 69, none, .callf 135 [(.c (.pv (.int .u8 5))), (.c (.pv (.int .i64 16))), (.t 68)]⟩, ⟨some 70, none, .lit 6 [(.t 69)]⟩, ⟨some 71, none, .callf 135 [(.c (.pv (.int .u8 24))), (.c (.pv (.int .i64 8))), (.t 70)]⟩, ⟨some 72, none, .callf 134 [(.c (.pv (.int .i64 0))), (.t 71)]⟩, ⟨some 73, none, .lit 21 [(.t 72)]⟩, ⟨some 74, none, .callf 159 [(.t 61), (.c (.pv (.str ⟨#[108, 100, 98]⟩))), (.c (.pv (.int .i64 2))), (.t 65), (.t 73)]⟩] [[], [], [], [], [1, 2, 3], [], [], [5, 6], [5, 6, 7], [5, 6, 7, 8], [5, 6, 7, 8, 9], [5, 6, 7, 8, 9, 10], [5, 6, 7, 8, 9, 10, 11], [0, 1, 2, 3, 4, 5, 6, 7, 8, 9, 10, 11, 12]]) (.gh (.keep ⟨[0, 2, 3, 4, 5, 6, 7, 9, 11], [0, 1, 2, 3, 4, 5, 6, 7, 8, 9, 10, 11], 12⟩) c_api_givenFlagsBytes_s5)
def c_api_givenFlagsBytes_s7 : C := .seq (.dreg [⟨some 48, none, .mov (.t 0)⟩, ⟨some 49, none, .load (some 6) (.t 2)⟩, ⟨some 50, none, .load (some 6) (.t 3)⟩, ⟨some 51, none, .load (some 6) (.t 8)⟩, ⟨some 52, none, .lit 6 [(.t 49), (.t 50), (.t 51)]⟩, ⟨some 53, none, .load (some 6) (.t 9)⟩, ⟨some 54, none, .load (some 6) (.t 11)⟩, ⟨some 55, none, .lit 6 [(.t 53), (.t 54)]⟩, ⟨some 56, none, .callf 135 [(.c (.pv (.int .u8 5))), (.c (.pv (.int .i64 16))), (.t 55)]⟩, ⟨some 57, none, .load (some 6) (.t 10)⟩, ⟨some 58, none, .callf 137 [(.t 56), (.t 57)]⟩, ⟨some 59, none, .lit 21 [(.t 58)]⟩, ⟨some 60, none, .callf 159 [(.t 48), (.c (.pv (.str ⟨#[115, 116]⟩))), (.c (.pv (.int .i64 1))), (.t 52), (.t 59)]⟩] [[], [], [], [], [1, 2, 3], [], [], [5, 6], [5, 6, 7], [], [5, 6, 7, 8, 9], [5, 6, 7, 8, 9, 10], [0, 1, 2, 3, 4, 5, 6, 7, 8, 9, 10, 11]]) (.gh (.keep ⟨[0, 2, 3, 4, 5, 6, 7, 9, 11], [0, 1, 2, 3, 4, 5, 6, 7, 8, 9, 10, 11], 12⟩) c_api_givenFlagsBytes_s6)
def c_api_givenFlagsBytes_s8 : C := .seq (.dreg [⟨some 34, none, .mov (.t 0)⟩, ⟨some 35, none, .load (some 6) (.t 2)⟩, ⟨some 36, none, .load (some 6) (.t 3)⟩, ⟨some 37, none, .load (some 6) (.t 8)⟩, ⟨some 38, none, .lit 6 [(.t 35), (.t 36), (.t 37)]⟩, ⟨some 39, none, .load (some 6) (.t 9)⟩, ⟨some 40, none, .load (some 6) (.t 11)⟩, ⟨some 41, none, .lit 6 [(.t 39), (.t 40)]⟩, ⟨some 42, none, .callf 135 [(.c (.pv (.int .u8 5))), (.c (.pv (.int .i64 16))), (.t 41)]⟩, ⟨some 43, none, .lit 6 [(.t 42)]⟩, ⟨some 44, none, .callf 135 [(.c (.pv (.int .u8 24))), (.c (.pv (.int .i64 16))), (.t 43)]⟩, ⟨some 45, none, .callf 134 [(.c (.pv (.int .i64 0))), (.t 44)]⟩, ⟨some 46, none, .lit 21 [(.t 45)]⟩, ⟨some 47, none, .callf 159 [(.t 34), (.c (.pv (.str ⟨#[108, 100]⟩))), (.c (.pv (.int .i64 2))), (.t 38), (.t 46)]⟩] [[], [], [], [], [1, 2, 3], [], [], [5, 6], [5, 6, 7], [5, 6, 7, 8], [5, 6, 7, 8, 9], [5, 6, 7, 8, 9, 10], [5, 6, 7, 8, 9, 10, 11], [0, 1, 2, 3, 4, 5, 6, 7, 8, 9, 10, 11, 12]]) (.gh (.keep ⟨[0, 2, 3, 4, 5, 6, 7, 8, 9, 10, 11], [0, 1, 2, 3, 4, 5, 6, 7, 8, 9, 10, 11], 12⟩) c_api_givenFlagsBytes_s7)
def c_api_givenFlagsBytes_s9 : C := .seq (.reg [⟨some 31, none, .callf 133 [(.c (.pv (.str ⟨#[115]⟩))), (.c (.pv (.int .i64 16)))]⟩, ⟨some 32, none, .callf 133 [(.c (.pv (.str ⟨#[100]⟩))), (.c (.pv (.int .i64 16)))]⟩, ⟨some 33, none, .callf 133 [(.c (.pv (.str ⟨#[110]⟩))), (.c (.pv (.int .i64 16)))]⟩, ⟨some 9, none, .alloc [.pv (.int .u8 0), .pv (.int .i64 0), .pv (.int .u64 0), .pv (.str ⟨#[]⟩), .pv (.int .i64 0), .nilS 6]⟩, ⟨some 10, none, .alloc [.pv (.int .u8 0), .pv (.int .i64 0), .pv (.int .u64 0), .pv (.str ⟨#[]⟩), .pv (.int .i64 0), .nilS 6]⟩, ⟨some 11, none, .alloc [.pv (.int .u8 0), .pv (.int .i64 0), .pv (.int .u64 0), .pv (.str ⟨#[]⟩), .pv (.int .i64 0), .nilS 6]⟩, ⟨none, none, .store 6 (.t 9) (.t 31)⟩, ⟨none, none, .store 6 (.t 10) (.t 32)⟩, ⟨none, none, .store 6 (.t 11) (.t 33)⟩]) (.gh (.keep ⟨[0, 2, 3, 4, 5, 6, 7, 8, 9, 10, 11], [0, 1, 2, 3, 4, 5, 6, 7, 8, 9, 10, 11], 12⟩) c_api_givenFlagsBytes_s8)
def c_api_givenFlagsBytes_s10 : C := .seq (.reg [⟨some 25, none, .build [.pv (.int .i64 0), .pv (.int .i64 0)] [((0, 1), (.c (.pv (.int .i64 0)))), ((1, 1), (.c (.pv (.int .i64 4))))]⟩, ⟨some 26, none, .lit 2 [(.t 25)]⟩, ⟨some 27, none, .callf 132 [(.c (.pv (.str ⟨#[110]⟩))), (.c (.pv (.int .u8 3))), (.c (.pv (.int .i64 0))), (.c (.pv (.int .i64 0))), (.t 26)]⟩, ⟨some 28, none, .build [.pv (.int .i64 0), .pv (.int .i64 0)] [((0, 1), (.c (.pv (.int .i64 0)))), ((1, 1), (.c (.pv (.int .i64 4))))]⟩, ⟨some 29, none, .lit 2 [(.t 28)]⟩, ⟨some 30, none, .callf 132 [(.c (.pv (.str ⟨#[110]⟩))), (.c (.pv (.int .u8 3))), (.c (.pv (.int .i64 0))), (.c (.pv (.int .i64 1))), (.t 29)]⟩, ⟨some 7, none, .alloc [.pv (.str ⟨#[]⟩), .pv (.int .u8 0), .pv (.int .i64 0), .pv (.int .i64 0), .nilS 2, .pv (.int .i64 0)]⟩, ⟨some 8, none, .alloc [.pv (.str ⟨#[]⟩), .pv (.int .u8 0), .pv (.int .i64 0), .pv (.int .i64 0), .nilS 2, .pv (.int .i64 0)]⟩, ⟨none, none, .store 6 (.t 7) (.t 27)⟩, ⟨none, none, .store 6 (.t 8) (.t 30)⟩]) (.gh (.keep ⟨[0, 2, 3, 4, 5, 6, 7, 8], [0, 1, 2, 3, 4, 5, 6, 7, 8], 9⟩) c_api_givenFlagsBytes_s9)
def c_api_givenFlagsBytes_s11 : C := .seq (.reg [⟨some 24, none, .callf 136 [(.c (.pv (.str ⟨#[97]⟩))), (.c (.pv (.int .i64 1))), (.c (.pv (.int .i64 0)))]⟩, ⟨some 6, none, .alloc [.pv (.str ⟨#[]⟩), .pv (.int .u8 0), .pv (.int .i64 0), .pv (.int .i64 0), .nilS 2, .pv (.int .i64 0)]⟩, ⟨none, none, .store 6 (.t 6) (.t 24)⟩]) (.gh (.keep ⟨[0, 2, 3, 4, 5, 6], [0, 1, 2, 3, 4, 5, 6], 7⟩) c_api_givenFlagsBytes_s10)
def c_api_givenFlagsBytes_s12 : C := .seq (.reg [⟨some 18, none, .build [.pv (.int .i64 0), .pv (.int .i64 0)] [((0, 1), (.c (.pv (.int .i64 7)))), ((1, 1), (.c (.pv (.int .i64 3))))]⟩, ⟨some 19, none, .lit 2 [(.t 18)]⟩, ⟨some 20, none, .callf 132 [(.c (.pv (.str ⟨#[100]⟩))), (.c (.pv (.int .u8 1))), (.c (.pv (.int .i64 1))), (.c (.pv (.int .i64 0))), (.t 19)]⟩, ⟨some 21, none, .build [.pv (.int .i64 0), .pv (.int .i64 0)] [((0, 1), (.c (.pv (.int .i64 4)))), ((1, 1), (.c (.pv (.int .i64 3))))]⟩, ⟨some 22, none, .lit 2 [(.t 21)]⟩, ⟨some 23, none, .callf 132 [(.c (.pv (.str ⟨#[115]⟩))), (.c (.pv (.int .u8 1))), (.c (.pv (.int .i64 1))), (.c (.pv (.int .i64 0))), (.t 22)]⟩, ⟨some 4, none, .alloc [.pv (.str ⟨#[]⟩), .pv (.int .u8 0), .pv (.int .i64 0), .pv (.int .i64 0), .nilS 2, .pv (.int .i64 0)]⟩, ⟨some 5, none, .alloc [.pv (.str ⟨#[]⟩), .pv (.int .u8 0), .pv (.int .i64 0), .pv (.int .i64 0), .nilS 2, .pv (.int .i64 0)]⟩, ⟨none, none, .store 6 (.t 4) (.t 20)⟩, ⟨none, none, .store 6 (.t 5) (.t 23)⟩]) (.gh (.keep ⟨[0, 2, 3, 4, 5], [0, 1, 2, 3, 4, 5], 6⟩) c_api_givenFlagsBytes_s11)
def c_api_givenFlagsBytes : C :=
.seq (.reg [⟨some 12, none, .build [.pv (.int .i64 0), .pv (.int .i64 0)] [((0, 1), (.c (.pv (.int .i64 7)))), ((1, 1), (.c (.pv (.int .i64 3))))]⟩, ⟨some 13, none, .lit 2 [(.t 12)]⟩, ⟨some 14, none, .callf 132 [(.c (.pv (.str ⟨#[100]⟩))), (.c (.pv (.int .u8 1))), (.c (.pv (.int .i64 0))), (.c (.pv (.int .i64 0))), (.t 13)]⟩, ⟨some 15, none, .build [.pv (.int .i64 0), .pv (.int .i64 0)] [((0, 1), (.c (.pv (.int .i64 4)))), ((1, 1), (.c (.pv (.int .i64 3))))]⟩, ⟨some 16, none, .lit 2 [(.t 15)]⟩, ⟨some 17, none, .callf 132 [(.c (.pv (.str ⟨#[115]⟩))), (.c (.pv (.int .u8 1))), (.c (.pv (.int .i64 0))), (.c (.pv (.int .i64 0))), (.t 16)]⟩, ⟨some 2, none, .alloc [.pv (.str ⟨#[]⟩), .pv (.int .u8 0), .pv (.int .i64 0), .pv (.int .i64 0), .nilS 2, .pv (.int .i64 0)]⟩, ⟨some 3, none, .alloc [.pv (.str ⟨#[]⟩), .pv (.int .u8 0), .pv (.int .i64 0), .pv (.int .i64 0), .nilS 2, .pv (.int .i64 0)]⟩, ⟨none, none, .store 6 (.t 2) (.t 14)⟩, ⟨none, none, .store 6 (.t 3) (.t 17)⟩]) (.gh (.keep ⟨[0, 2, 3], [0, 1, 2, 3], 4⟩) c_api_givenFlagsBytes_s12)
theorem k_api_givenFlagsBytes : FnOk Tryz.prog 127 128 c_api_givenFlagsBytes [] := .mk' (fn := Tryz.f127) rfl rfl (by kernel_rfl) rfl (by kernel_rfl) (by kernel_rfl)
/- "retarget/api.givenFlagsJumps" -/
def c_api_givenFlagsJumps_s1 : C := .dreg [⟨some 228, none, .mov (.t 0)⟩, ⟨some 229, none, .load (some 6) (.t 2)⟩, ⟨some 230, none, .load (some 6) (.t 22)⟩, ⟨some 231, none, .lit 6 [(.t 229), (.t 230)]⟩, ⟨some 232, none, .load (some 6) (.t 12)⟩, ⟨some 233, none, .load (some 6) (.t 8)⟩, ⟨some 234, none, .callf 138 [(.c (.pv (.int .i64 16))), (.c (.pv (.int .u64 0)))]⟩, ⟨some 235, none, .lit 6 [(.t 233), (.t 234)]⟩, ⟨some 236, none, .callf 135 [(.c (.pv (.int .u8 16))), (.c (.pv (.int .i64 1))), (.t 235)]⟩, ⟨some 237, none, .lit 6 [(.t 236)]⟩, ⟨some 238, none, .callf 135 [(.c (.pv (.int .u8 3))), (.c (.pv (.int .i64 1))), (.t 237)]⟩, ⟨some 239, none, .callf 139 [(.t 232), (.t 238)]⟩, ⟨some 240, none, .lit 21 [(.t 239)]⟩, ⟨some 241, none, .callf 159 [(.t 228), (.c (.pv (.str ⟨#[98, 114, 110, 122]⟩))), (.c (.pv (.int .i64 1))), (.t 231), (.t 240)]⟩] [[], [], [], [1, 2], [], [], [], [5, 6], [5, 6, 7], [5, 6, 7, 8], [5, 6, 7, 8, 9], [4, 5, 6, 7, 8, 9, 10], [4, 5, 6, 7, 8, 9, 10, 11], [0, 1, 2, 3, 4, 5, 6, 7, 8, 9, 10, 11, 12]]
def c_api_givenFlagsJumps_s2 : C := .seq (.reg [⟨some 225, none, .build [.pv (.int .i64 0), .pv (.int .i64 0)] [((0, 1), (.c (.pv (.int .i64 0)))), ((1, 1), (.c (.pv (.int .i64 7))))]⟩, ⟨some 226, none, .lit 2 [(.t 225)]⟩, ⟨some 227, none, .callf 132 [(.c (.pv (.str ⟨#[116, 111]⟩))), (.c (.pv (.int .u8 4))), (.c (.pv (.int .i64 0))), (.c (.pv (.int .i64 0))), (.t 226)]⟩, ⟨some 22, none, .alloc [.pv (.str ⟨#[]⟩), .pv (.int .u8 0), .pv (.int .i64 0), .pv (.int .i64 0), .nilS 2, .pv (.int .i64 0)]⟩, ⟨none, none, .store 6 (.t 22) (.t 227)⟩]) (.gh (.keep ⟨[0, 2, 8, 12, 22], [0, 1, 2, 3, 4, 5, 6, 7, 8, 9, 10, 11, 12, 13, 18, 19], 20⟩) c_api_givenFlagsJumps_s1)
def c_api_givenFlagsJumps_s3 : C := .seq (.seq (.reg [⟨some 198, none, .lit 1 [(.c (.pv (.int .u8 16))), (.c (.pv (.int .u8 17))), (.c (.pv (.int .u8 18)))]⟩, ⟨some 199, none, .len (.t 198)⟩, ⟨some 200, none, .mov (.c (.pv (.int .i64 0)))⟩]) (.blk 4 (.loop ⟨[0, 2, 3, 4, 6, 7, 8, 12, 13, 198, 199, 200], [0, 1, 2, 3, 4, 5, 6, 7, 8, 9, 10, 11, 12, 13, 18], 19⟩ (.seq (.reg [⟨some 201, none, .bin .lss (.t 200) (.t 199)⟩]) (.seq (.cond (.t 201) (.skip) (.ext 4)) (.seq (.blk 5 (.seq (.reg [⟨some 202, none, .mov (.t 200)⟩, ⟨some 203, none, .iad 1 (.t 198) (.t 200)⟩, ⟨some 204, none, .load none (.t 203)⟩, ⟨some 20, none, .mov (.t 202)⟩, ⟨some 21, none, .mov (.t 204)⟩]) (.dreg [⟨some 205, none, .mov (.t 0)⟩, ⟨some 206, none, .mov (.t 13)⟩, ⟨some 207, none, .mov (.t 20)⟩, ⟨some 208, none, .iad 1 (.t 206) (.t 207)⟩, ⟨some 209, none, .load none (.t 208)⟩, ⟨some 210, none, .load (some 6) (.t 2)⟩, ⟨some 211, none, .load (some 6) (.t 4)⟩, ⟨some 212, none, .load (some 6) (.t 3)⟩, ⟨some 213, none, .lit 6 [(.t 210), (.t 211), (.t 212)]⟩, ⟨some 214, none, .mov (.t 21)⟩, ⟨some 215, none, .load (some 6) (.t 6)⟩, ⟨some 216, none, .load (some 6) (.t 7)⟩, ⟨some 217, none, .lit 6 [(.t 215), (.t 216)]⟩, ⟨some 218, none, .callf 135 [(.t 214), (.c (.pv (.int .i64 1))), (.t 217)]⟩, ⟨some 219, none, .lit 6 [(.t 218)]⟩, ⟨some 220, none, .callf 135 [(.c (.pv (.int .u8 22))), (.c (.pv (.int .i64 16))), (.t 219)]⟩, ⟨some 221, none, .callf 134 [(.c (.pv (.int .i64 0))), (.t 220)]⟩, ⟨some 222, none, .lit 21 [(.t 221)]⟩, ⟨some 223, none, .callf 159 [(.t 205), (.t 209), (.c (.pv (.int .i64 1))), (.t 213), (.t 222)]⟩] [[], [], [], [1, 2], [1, 2, 3], [], [], [], [5, 6, 7], [], [], [], [10, 11], [9, 10, 11, 12], [9, 10, 11, 12, 13], [9, 10, 11, 12, 13, 14], [9, 10, 11, 12, 13, 14, 15], [9, 10, 11, 12, 13, 14, 15, 16], [0, 1, 2, 3, 4, 5, 6, 7, 8, 9, 10, 11, 12, 13, 14, 15, 16, 17]]))) (.reg [⟨some 224, none, .bin .add (.t 200) (.c (.pv (.int .i64 1)))⟩, ⟨some 200, none, .mov (.t 224)⟩]))))))) (.gh (.keep ⟨[0, 2, 8, 12], [0, 1, 2, 3, 4, 5, 6, 7, 8, 9, 10, 11, 12, 13, 18], 19⟩) c_api_givenFlagsJumps_s2)
def c_api_givenFlagsJumps_s4 : C := .seq (.reg [⟨some 197, none, .lit 1 [(.c (.pv (.str ⟨#[101, 113]⟩))), (.c (.pv (.str ⟨#[117, 108, 116]⟩))), (.c (.pv (.str ⟨#[115, 108, 116]⟩)))]⟩, ⟨some 13, none, .mov (.t 197)⟩]) (.gh (.keep ⟨[0, 2, 3, 4, 6, 7, 8, 12, 13], [0, 1, 2, 3, 4, 5, 6, 7, 8, 9, 10, 11, 12, 13, 18], 19⟩) c_api_givenFlagsJumps_s3)
def c_api_givenFlagsJumps_s5 : C := .seq (.reg [⟨some 195, none, .mov (.t 0)⟩, ⟨some 196, none, .callf 159 [(.t 195), (.c (.pv (.str ⟨#[110, 111, 112]⟩))), (.c (.pv (.int .i64 1))), (.c (.nilS 6)), (.c (.nilS 21))]⟩]) (.gh (.keep ⟨[0, 2, 3, 4, 6, 7, 8, 12], [0, 1, 2, 3, 4, 5, 6, 7, 8, 9, 10, 11, 12, 13, 18], 19⟩) c_api_givenFlagsJumps_s4)
def c_api_givenFlagsJumps_s6 : C := .seq (.dreg [⟨some 188, none, .mov (.t 0)⟩, ⟨some 189, none, .load (some 6) (.t 3)⟩, ⟨some 190, none, .lit 6 [(.t 189)]⟩, ⟨some 191, none, .load (some 6) (.t 7)⟩, ⟨some 192, none, .callf 141 [(.t 191)]⟩, ⟨some 193, none, .lit 21 [(.t 192)]⟩, ⟨some 194, none, .callf 159 [(.t 188), (.c (.pv (.str ⟨#[104, 97, 108, 116]⟩))), (.c (.pv (.int .i64 1))), (.t 190), (.t 193)]⟩] [[], [], [1], [], [3], [3, 4], [0, 1, 2, 3, 4, 5]]) (.gh (.keep ⟨[0, 2, 3, 4, 6, 7, 8, 12], [0, 1, 2, 3, 4, 5, 6, 7, 8, 9, 10, 11, 12, 13, 18], 19⟩) c_api_givenFlagsJumps_s5)
def c_api_givenFlagsJumps_s7 : C := .seq (.dreg [⟨some 178, none, .mov (.t 0)⟩, ⟨some 179, none, .load (some 6) (.t 3)⟩, ⟨some 180, none, .lit 6 [(.t 179)]⟩, ⟨some 181, none, .callf 138 [(.c (.pv (.int .i64 1))), (.c (.pv (.int .u64 1)))]⟩, ⟨some 182, none, .load (some 6) (.t 7)⟩, ⟨some 183, none, .lit 6 [(.t 181), (.t 182)]⟩, ⟨some 184, none, .callf 135 [(.c (.pv (.int .u8 20))), (.c (.pv (.int .i64 17))), (.t 183)]⟩, ⟨some 185, none, .callf 141 [(.t 184)]⟩, ⟨some 186, none, .lit 21 [(.t 185)]⟩, ⟨some 187, none, .callf 159 [(.t 178), (.c (.pv (.str ⟨#[116, 101, 108, 108]⟩))), (.c (.pv (.int .i64 1))), (.t 180), (.t 186)]⟩] [[], [], [1], [], [], [3, 4], [3, 4, 5], [3, 4, 5, 6], [3, 4, 5, 6, 7], [0, 1, 2, 3, 4, 5, 6, 7, 8]]) (.gh (.keep ⟨[0, 2, 3, 4, 6, 7, 8, 12], [0, 1, 2, 3, 4, 5, 6, 7, 8, 9, 10, 11, 12, 13, 18], 19⟩) c_api_givenFlagsJumps_s6)
def c_api_givenFlagsJumps_s8 : C := .seq (.dreg [⟨some 171, none, .mov (.t 0)⟩, ⟨some 172, none, .load (some 6) (.t 5)⟩, ⟨some 173, none, .lit 6 [(.t 172)]⟩, ⟨some 174, none, .load (some 6) (.t 9)⟩, ⟨some 175, none, .callf 141 [(.t 174)]⟩, ⟨some 176, none, .lit 21 [(.t 175)]⟩, ⟨some 177, none, .callf 159 [(.t 171), (.c (.pv (.str ⟨#[116, 114, 97, 112]⟩))), (.c (.pv (.int .i64 1))), (.t 173), (.t 176)]⟩] [[], [], [1], [], [3], [3, 4], [0, 1, 2, 3, 4, 5]]) (.gh (.keep ⟨[0, 2, 3, 4, 6, 7, 8, 12], [0, 1, 2, 3, 4, 5, 6, 7, 8, 9, 10, 11, 12, 13, 18], 19⟩) c_api_givenFlagsJumps_s7)
def c_api_givenFlagsJumps_s9 : C := .seq (.dreg [⟨some 157, none, .mov (.t 0)⟩, ⟨some 158, none, .load (some 6) (.t 2)⟩, ⟨some 159, none, .lit 6 [(.t 158)]⟩, ⟨some 160, none, .load (some 6) (.t 11)⟩, ⟨some 161, none, .lit 6 [(.t 160)]⟩, ⟨some 162, none, .callf 135 [(.c (.pv (.int .u8 24))), (.c (.pv (.int .i64 16))), (.t 161)]⟩, ⟨some 163, none, .callf 134 [(.c (.pv (.int .i64 0))), (.t 162)]⟩, ⟨some 164, none, .load (some 6) (.t 11)⟩, ⟨some 165, none, .callf 138 [(.c (.pv (.int .i64 16))), (.c (.pv (.int .u64 2)))]⟩, ⟨some 166, none, .lit 6 [(.t 164), (.t 165)]⟩, ⟨some 167, none, .callf 135 [(.c (.pv (.int .u8 5))), (.c (.pv (.int .i64 16))), (.t 166)]⟩, ⟨some 168, none, .callf 140 [(.c (.pv (.int .i64 7))), (.t 167)]⟩, ⟨some 169, none, .lit 21 [(.t 163), (.t 168)]⟩, ⟨some 170, none, .callf 159 [(.t 157), (.c (.pv (.str ⟨#[112, 111, 112]⟩))), (.c (.pv (.int .i64 2))), (.t 159), (.t 169)]⟩] [[], [], [1], [], [3], [3, 4], [3, 4, 5], [], [3, 4, 5, 6], [3, 4, 5, 6, 7, 8], [3, 4, 5, 6, 7, 8, 9], [3, 4, 5, 6, 7, 8, 9, 10], [3, 4, 5, 6, 7, 8, 9, 10, 11], [0, 1, 2, 3, 4, 5, 6, 7, 8, 9, 10, 11, 12]]) (.gh (.keep ⟨[0, 2, 3, 4, 5, 6, 7, 8, 9, 12], [0, 1, 2, 3, 4, 5, 6, 7, 8, 9, 10, 11, 12, 13, 18], 19⟩) c_api_givenFlagsJumps_s8)
def c_api_givenFlagsJumps_s10 : C := .seq (.dreg [⟨some 147, none, .mov (.t 0)⟩, ⟨some 148, none, .load (some 6) (.t 3)⟩, ⟨some 149, none, .lit 6 [(.t 148)]⟩, ⟨some 150, none, .load (some 6) (.t 19)⟩, ⟨some 151, none, .load (some 6) (.t 7)⟩, ⟨some 152, none, .callf 137 [(.t 150), (.t 151)]⟩, ⟨some 153, none, .load (some 6) (.t 19)⟩, ⟨some 154, none, .callf 140 [(.c (.pv (.int .i64 7))), (.t 153)]⟩, ⟨some 155, none, .lit 21 [(.t 152), (.t 154)]⟩, ⟨some 156, none, .callf 159 [(.t 147), (.c (.pv (.str ⟨#[112, 117, 115, 104]⟩))), (.c (.pv (.int .i64 1))), (.t 149), (.t 155)]⟩] [[], [], [1], [], [], [3, 4], [], [3, 4, 5, 6], [3, 4, 5, 6, 7], [0, 1, 2, 3, 4, 5, 6, 7, 8]]) (.gh (.keep ⟨[0, 2, 3, 4, 5, 6, 7, 8, 9, 11, 12], [0, 1, 2, 3, 4, 5, 6, 7, 8, 9, 10, 11, 12, 13, 18], 19⟩) c_api_givenFlagsJumps_s9)
def c_api_givenFlagsJumps_s11 : C := .seq (.dreg [⟨some 134, none, .mov (.t 0)⟩, ⟨some 135, none, .load (some 6) (.t 11)⟩, ⟨some 136, none, .callf 138 [(.c (.pv (.int .i64 16))), (.c (.pv (.int .u64 2)))]⟩, ⟨some 137, none, .lit 6 [(.t 135), (.t 136)]⟩, ⟨some 138, none, .callf 135 [(.c (.pv (.int .u8 5))), (.c (.pv (.int .i64 16))), (.t 137)]⟩, ⟨some 139, none, .callf 140 [(.c (.pv (.int .i64 7))), (.t 138)]⟩, ⟨some 140, none, .load (some 6) (.t 11)⟩, ⟨some 141, none, .lit 6 [(.t 140)]⟩, ⟨some 142, none, .callf 135 [(.c (.pv (.int .u8 24))), (.c (.pv (.int .i64 16))), (.t 141)]⟩, ⟨some 143, none, .build [.pv (.int .u8 0), .pv (.int .i64 0), .pv (.int .u64 0), .pv (.str ⟨#[]⟩), .pv (.int .i64 0), .nilS 6] []⟩, ⟨some 144, none, .callf 139 [(.t 142), (.t 143)]⟩, ⟨some 145, none, .lit 21 [(.t 139), (.t 144)]⟩, ⟨some 146, none, .callf 159 [(.t 134), (.c (.pv (.str ⟨#[114, 101, 116]⟩))), (.c (.pv (.int .i64 2))), (.c (.nilS 6)), (.t 145)]⟩] [[], [], [], [1, 2], [1, 2, 3], [1, 2, 3, 4], [], [6], [1, 2, 3, 4, 5, 6, 7], [], [1, 2, 3, 4, 5, 6, 7, 8, 9], [1, 2, 3, 4, 5, 6, 7, 8, 9, 10], [0, 1, 2, 3, 4, 5, 6, 7, 8, 9, 10, 11]]) (.gh (.keep ⟨[0, 2, 3, 4, 5, 6, 7, 8, 9, 11, 12, 19], [0, 1, 2, 3, 4, 5, 6, 7, 8, 9, 10, 11, 12, 13, 18], 19⟩) c_api_givenFlagsJumps_s10)
def c_api_givenFlagsJumps_s12 : C := .seq (.dreg [⟨some 118, none, .mov (.t 0)⟩, ⟨some 119, none, .load (some 6) (.t 16)⟩, ⟨some 120, none, .lit 6 [(.t 119)]⟩, ⟨some 121, none, .load (some 6) (.t 19)⟩, ⟨some 122, none, .load (some 6) (.t 10)⟩, ⟨some 123, none, .callf 138 [(.c (.pv (.int .i64 16))), (.c (.pv (.int .u64 2)))]⟩, ⟨some 124, none, .lit 6 [(.t 122), (.t 123)]⟩, ⟨some 125, none, .callf 135 [(.c (.pv (.int .u8 5))), (.c (.pv (.int .i64 16))), (.t 124)]⟩, ⟨some 126, none, .callf 137 [(.t 121), (.t 125)]⟩, ⟨some 127, none, .load (some 6) (.t 19)⟩, ⟨some 128, none, .callf 140 [(.c (.pv (.int .i64 7))), (.t 127)]⟩, ⟨some 129, none, .load (some 6) (.t 12)⟩, ⟨some 130, none, .build [.pv (.int .u8 0), .pv (.int .i64 0), .pv (.int .u64 0), .pv (.str ⟨#[]⟩), .pv (.int .i64 0), .nilS 6] []⟩, ⟨some 131, none, .callf 139 [(.t 129), (.t 130)]⟩, ⟨some 132, none, .lit 21 [(.t 126), (.t 128), (.t 131)]⟩, ⟨some 133, none, .callf 159 [(.t 118), (.c (.pv (.str ⟨#[99, 97, 108, 108]⟩))), (.c (.pv (.int .i64 1))), (.t 120), (.t 132)]⟩] [[], [], [1], [], [], [], [4, 5], [4, 5, 6], [3, 4, 5, 6, 7], [], [3, 4, 5, 6, 7, 8, 9], [], [], [3, 4, 5, 6, 7, 8, 9, 10, 11, 12], [3, 4, 5, 6, 7, 8, 9, 10, 11, 12, 13], [0, 1, 2, 3, 4, 5, 6, 7, 8, 9, 10, 11, 12, 13, 14]]) (.gh (.keep ⟨[0, 2, 3, 4, 5, 6, 7, 8, 9, 11, 12, 19], [0, 1, 2, 3, 4, 5, 6, 7, 8, 9, 10, 11, 12, 13, 18], 19⟩) c_api_givenFlagsJumps_s11)
def c_api_givenFlagsJumps_s13 : C := .seq (.dreg [⟨some 114, none, .load (some 6) (.t 11)⟩, ⟨some 115, none, .callf 138 [(.c (.pv (.int .i64 16))), (.c (.pv (.int .u64 2)))]⟩, ⟨some 116, none, .lit 6 [(.t 114), (.t 115)]⟩, ⟨some 117, none, .callf 135 [(.c (.pv (.int .u8 6))), (.c (.pv (.int .i64 16))), (.t 116)]⟩, ⟨some 19, none, .alloc [.pv (.int .u8 0), .pv (.int .i64 0), .pv (.int .u64 0), .pv (.str ⟨#[]⟩), .pv (.int .i64 0), .nilS 6]⟩, ⟨none, none, .store 6 (.t 19) (.t 117)⟩] [[], [], [0, 1], [0, 1, 2], [], [0, 1, 2, 3, 4]]) (.gh (.keep ⟨[0, 2, 3, 4, 5, 6, 7, 8, 9, 10, 11, 12, 16, 19], [0, 1, 2, 3, 4, 5, 6, 7, 8, 9, 10, 11, 12, 13, 18], 19⟩) c_api_givenFlagsJumps_s12)
def c_api_givenFlagsJumps_s14 : C := .seq (.dreg [⟨some 106, none, .mov (.t 0)⟩, ⟨some 107, none, .load (some 6) (.t 3)⟩, ⟨some 108, none, .lit 6 [(.t 107)]⟩, ⟨some 109, none, .load (some 6) (.t 7)⟩, ⟨some 110, none, .build [.pv (.int .u8 0), .pv (.int .i64 0), .pv (.int .u64 0), .pv (.str ⟨#[]⟩), .pv (.int .i64 0), .nilS 6] []⟩, ⟨some 111, none, .callf 139 [(.t 109), (.t 110)]⟩, ⟨some 112, none, .lit 21 [(.t 111)]⟩, ⟨some 113, none, .callf 159 [(.t 106), (.c (.pv (.str ⟨#[106, 114]⟩))), (.c (.pv (.int .i64 1))), (.t 108), (.t 112)]⟩] [[], [], [1], [], [], [3, 4], [3, 4, 5], [0, 1, 2, 3, 4, 5, 6]]) (.gh (.keep ⟨[0, 2, 3, 4, 5, 6, 7, 8, 9, 10, 11, 12, 16], [0, 1, 2, 3, 4, 5, 6, 7, 8, 9, 10, 11, 12, 13], 14⟩) c_api_givenFlagsJumps_s13)
def c_api_givenFlagsJumps_s15 : C := .seq (.dreg [⟨some 98, none, .mov (.t 0)⟩, ⟨some 99, none, .load (some 6) (.t 16)⟩, ⟨some 100, none, .lit 6 [(.t 99)]⟩, ⟨some 101, none, .load (some 6) (.t 12)⟩, ⟨some 102, none, .build [.pv (.int .u8 0), .pv (.int .i64 0), .pv (.int .u64 0), .pv (.str ⟨#[]⟩), .pv (.int .i64 0), .nilS 6] []⟩, ⟨some 103, none, .callf 139 [(.t 101), (.t 102)]⟩, ⟨some 104, none, .lit 21 [(.t 103)]⟩, ⟨some 105, none, .callf 159 [(.t 98), (.c (.pv (.str ⟨#[106, 109, 112]⟩))), (.c (.pv (.int .i64 1))), (.t 100), (.t 104)]⟩] [[], [], [1], [], [], [3, 4], [3, 4, 5], [0, 1, 2, 3, 4, 5, 6]]) (.gh (.keep ⟨[0, 2, 3, 4, 5, 6, 7, 8, 9, 10, 11, 12, 16], [0, 1, 2, 3, 4, 5, 6, 7, 8, 9, 10, 11, 12, 13], 14⟩) c_api_givenFlagsJumps_s14)
def c_api_givenFlagsJumps_s16 : C := .seq (.dreg [⟨some 88, none, .mov (.t 0)⟩, ⟨some 89, none, .load (some 6) (.t 16)⟩, ⟨some 90, none, .lit 6 [(.t 89)]⟩, ⟨some 91, none, .load (some 6) (.t 12)⟩, ⟨some 92, none, .callf 162 [(.c (.pv (.str ⟨#[122, 102]⟩)))]⟩, ⟨some 93, none, .lit 6 [(.t 92)]⟩, ⟨some 94, none, .callf 135 [(.c (.pv (.int .u8 3))), (.c (.pv (.int .i64 1))), (.t 93)]⟩, ⟨some 95, none, .callf 139 [(.t 91), (.t 94)]⟩, ⟨some 96, none, .lit 21 [(.t 95)]⟩, ⟨some 97, none, .callf 159 [(.t 88), (.c (.pv (.str ⟨#[106, 110, 122]⟩))), (.c (.pv (.int .i64 1))), (.t 90), (.t 96)]⟩] [[], [], [1], [], [], [4], [4, 5], [3, 4, 5, 6], [3, 4, 5, 6, 7], [0, 1, 2, 3, 4, 5, 6, 7, 8]]) (.gh (.keep ⟨[0, 2, 3, 4, 5, 6, 7, 8, 9, 10, 11, 12, 16], [0, 1, 2, 3, 4, 5, 6, 7, 8, 9, 10, 11, 12, 13], 14⟩) c_api_givenFlagsJumps_s15)
def c_api_givenFlagsJumps_s17 : C := .seq (.seq (.reg [⟨some 67, none, .lit 1 [(.c (.pv (.str ⟨#[122, 102]⟩))), (.c (.pv (.str ⟨#[99, 102]⟩))), (.c (.pv (.str ⟨#[115, 102]⟩)))]⟩, ⟨some 68, none, .len (.t 67)⟩, ⟨some 69, none, .mov (.c (.pv (.int .i64 0)))⟩]) (.blk 2 (.loop ⟨[0, 2, 3, 4, 5, 6, 7, 8, 9, 10, 11, 12, 13, 16, 67, 68, 69], [0, 1, 2, 3, 4, 5, 6, 7, 8, 9, 10, 11, 12, 13], 14⟩ (.seq (.reg [⟨some 70, none, .bin .lss (.t 69) (.t 68)⟩]) (.seq (.cond (.t 70) (.skip) (.ext 2)) (.seq (.blk 3 (.seq (.reg [⟨some 71, none, .mov (.t 69)⟩, ⟨some 72, none, .iad 1 (.t 67) (.t 69)⟩, ⟨some 73, none, .load none (.t 72)⟩, ⟨some 17, none, .mov (.t 71)⟩, ⟨some 18, none, .mov (.t 73)⟩]) (.dreg [⟨some 74, none, .mov (.t 0)⟩, ⟨some 75, none, .mov (.t 13)⟩, ⟨some 76, none, .mov (.t 17)⟩, ⟨some 77, none, .iad 1 (.t 75) (.t 76)⟩, ⟨some 78, none, .load none (.t 77)⟩, ⟨some 79, none, .load (some 6) (.t 16)⟩, ⟨some 80, none, .lit 6 [(.t 79)]⟩, ⟨some 81, none, .load (some 6) (.t 12)⟩, ⟨some 82, none, .mov (.t 18)⟩, ⟨some 83, none, .callf 162 [(.t 82)]⟩, ⟨some 84, none, .callf 139 [(.t 81), (.t 83)]⟩, ⟨some 85, none, .lit 21 [(.t 84)]⟩, ⟨some 86, none, .callf 159 [(.t 74), (.t 78), (.c (.pv (.int .i64 1))), (.t 80), (.t 85)]⟩] [[], [], [], [1, 2], [1, 2, 3], [], [5], [], [], [8], [7, 8, 9], [7, 8, 9, 10], [0, 1, 2, 3, 4, 5, 6, 7, 8, 9, 10, 11]]))) (.reg [⟨some 87, none, .bin .add (.t 69) (.c (.pv (.int .i64 1)))⟩, ⟨some 69, none, .mov (.t 87)⟩]))))))) (.gh (.keep ⟨[0, 2, 3, 4, 5, 6, 7, 8, 9, 10, 11, 12, 16], [0, 1, 2, 3, 4, 5, 6, 7, 8, 9, 10, 11, 12, 13], 14⟩) c_api_givenFlagsJumps_s16)
def c_api_givenFlagsJumps_s18 : C := .seq (.reg [⟨some 66, none, .lit 1 [(.c (.pv (.str ⟨#[106, 122]⟩))), (.c (.pv (.str ⟨#[106, 99]⟩))), (.c (.pv (.str ⟨#[106, 115]⟩)))]⟩, ⟨some 13, none, .mov (.t 66)⟩]) (.gh (.keep ⟨[0, 2, 3, 4, 5, 6, 7, 8, 9, 10, 11, 12, 13, 16], [0, 1, 2, 3, 4, 5, 6, 7, 8, 9, 10, 11, 12, 13], 14⟩) c_api_givenFlagsJumps_s17)
def c_api_givenFlagsJumps_s19 : C := .seq (.reg [⟨some 63, none, .build [.pv (.int .i64 0), .pv (.int .i64 0)] [((0, 1), (.c (.pv (.int .i64 0)))), ((1, 1), (.c (.pv (.int .i64 10))))]⟩, ⟨some 64, none, .lit 2 [(.t 63)]⟩, ⟨some 65, none, .callf 132 [(.c (.pv (.str ⟨#[116, 111]⟩))), (.c (.pv (.int .u8 4))), (.c (.pv (.int .i64 0))), (.c (.pv (.int .i64 0))), (.t 64)]⟩, ⟨some 16, none, .alloc [.pv (.str ⟨#[]⟩), .pv (.int .u8 0), .pv (.int .i64 0), .pv (.int .i64 0), .nilS 2, .pv (.int .i64 0)]⟩, ⟨none, none, .store 6 (.t 16) (.t 65)⟩]) (.gh (.keep ⟨[0, 2, 3, 4, 5, 6, 7, 8, 9, 10, 11, 12, 16], [0, 1, 2, 3, 4, 5, 6, 7, 8, 9, 10, 11, 12, 13], 14⟩) c_api_givenFlagsJumps_s18)
def c_api_givenFlagsJumps_s20 : C := .seq (.seq (.reg [⟨some 41, none, .lit 1 [(.c (.pv (.str ⟨#[122, 102]⟩))), (.c (.pv (.str ⟨#[99, 102]⟩))), (.c (.pv (.str ⟨#[115, 102]⟩)))]⟩, ⟨some 42, none, .len (.t 41)⟩, ⟨some 43, none, .mov (.c (.pv (.int .i64 0)))⟩]) (.blk 0 (.loop ⟨[0, 2, 3, 4, 5, 6, 7, 8, 9, 10, 11, 12, 13, 41, 42, 43], [0, 1, 2, 3, 4, 5, 6, 7, 8, 9, 10, 11, 12], 13⟩ (.seq (.reg [⟨some 44, none, .bin .lss (.t 43) (.t 42)⟩]) (.seq (.cond (.t 44) (.skip) (.ext 0)) (.seq (.blk 1 (.seq (.reg [⟨some 45, none, .mov (.t 43)⟩, ⟨some 46, none, .iad 1 (.t 41) (.t 43)⟩, ⟨some 47, none, .load none (.t 46)⟩, ⟨some 14, none, .mov (.t 45)⟩, ⟨some 15, none, .mov (.t 47)⟩]) (.dreg [⟨some 48, none, .mov (.t 0)⟩, ⟨some 49, none, .mov (.t 13)⟩, ⟨some 50, none, .mov (.t 14)⟩, ⟨some 51, none, .iad 1 (.t 49) (.t 50)⟩, ⟨some 52, none, .load none (.t 51)⟩, ⟨some 53, none, .load (some 6) (.t 2)⟩, ⟨some 54, none, .lit 6 [(.t 53)]⟩, ⟨some 55, none, .mov (.t 15)⟩, ⟨some 56, none, .callf 162 [(.t 55)]⟩, ⟨some 57, none, .lit 6 [(.t 56)]⟩, ⟨some 58, none, .callf 135 [(.c (.pv (.int .u8 22))), (.c (.pv (.int .i64 16))), (.t 57)]⟩, ⟨some 59, none, .callf 134 [(.c (.pv (.int .i64 0))), (.t 58)]⟩, ⟨some 60, none, .lit 21 [(.t 59)]⟩, ⟨some 61, none, .callf 159 [(.t 48), (.t 52), (.c (.pv (.int .i64 1))), (.t 54), (.t 60)]⟩] [[], [], [], [1, 2], [1, 2, 3], [], [5], [], [7], [7, 8], [7, 8, 9], [7, 8, 9, 10], [7, 8, 9, 10, 11], [0, 1, 2, 3, 4, 5, 6, 7, 8, 9, 10, 11, 12]]))) (.reg [⟨some 62, none, .bin .add (.t 43) (.c (.pv (.int .i64 1)))⟩, ⟨some 43, none, .mov (.t 62)⟩]))))))) (.gh (.keep ⟨[0, 2, 3, 4, 5, 6, 7, 8, 9, 10, 11, 12], [0, 1, 2, 3, 4, 5, 6, 7, 8, 9, 10, 11, 12], 13⟩) c_api_givenFlagsJumps_s19)
def c_api_givenFlagsJumps_s21 : C := .seq (.reg [⟨some 40, none, .lit 1 [(.c (.pv (.str ⟨#[115, 101, 116, 122]⟩))), (.c (.pv (.str ⟨#[115, 101, 116, 99]⟩))), (.c (.pv (.str ⟨#[115, 101, 116, 115]⟩)))]⟩, ⟨some 13, none, .mov (.t 40)⟩]) (.gh (.keep ⟨[0, 2, 3, 4, 5, 6, 7, 8, 9, 10, 11, 12, 13], [0, 1, 2, 3, 4, 5, 6, 7, 8, 9, 10, 11, 12], 13⟩) c_api_givenFlagsJumps_s20)
def c_api_givenFlagsJumps_s22 : C := .seq (.reg [⟨some 38, none, .callf 133 [(.c (.pv (.str ⟨#[114, 46, 115, 112]⟩))), (.c (.pv (.int .i64 16)))]⟩, ⟨some 39, none, .callf 133 [(.c (.pv (.str ⟨#[116, 111]⟩))), (.c (.pv (.int .i64 16)))]⟩, ⟨some 11, none, .alloc [.pv (.int .u8 0), .pv (.int .i64 0), .pv (.int .u64 0), .pv (.str ⟨#[]⟩), .pv (.int .i64 0), .nilS 6]⟩, ⟨some 12, none, .alloc [.pv (.int .u8 0), .pv (.int .i64 0), .pv (.int .u64 0), .pv (.str ⟨#[]⟩), .pv (.int .i64 0), .nilS 6]⟩, ⟨none, none, .store 6 (.t 11) (.t 38)⟩, ⟨none, none, .store 6 (.t 12) (.t 39)⟩]) (.gh (.keep ⟨[0, 2, 3, 4, 5, 6, 7, 8, 9, 10, 11, 12], [0, 1, 2, 3, 4, 5, 6, 7, 8, 9, 10, 11, 12], 13⟩) c_api_givenFlagsJumps_s21)
def c_api_givenFlagsJumps_s23 : C := .seq (.reg [⟨some 33, none, .callf 133 [(.c (.pv (.str ⟨#[97]⟩))), (.c (.pv (.int .i64 16)))]⟩, ⟨some 34, none, .callf 133 [(.c (.pv (.str ⟨#[115]⟩))), (.c (.pv (.int .i64 16)))]⟩, ⟨some 35, none, .callf 133 [(.c (.pv (.str ⟨#[100]⟩))), (.c (.pv (.int .i64 16)))]⟩, ⟨some 36, none, .callf 133 [(.c (.pv (.str ⟨#[110]⟩))), (.c (.pv (.int .i64 16)))]⟩, ⟨some 37, none, .callf 133 [(.c (.pv (.str ⟨#[112, 99]⟩))), (.c (.pv (.int .i64 16)))]⟩, ⟨some 6, none, .alloc [.pv (.int .u8 0), .pv (.int .i64 0), .pv (.int .u64 0), .pv (.str ⟨#[]⟩), .pv (.int .i64 0), .nilS 6]⟩, ⟨some 7, none, .alloc [.pv (.int .u8 0), .pv (.int .i64 0), .pv (.int .u64 0), .pv (.str ⟨#[]⟩), .pv (.int .i64 0), .nilS 6]⟩, ⟨some 8, none, .alloc [.pv (.int .u8 0), .pv (.int .i64 0), .pv (.int .u64 0), .pv (.str ⟨#[]⟩), .pv (.int .i64 0), .nilS 6]⟩, ⟨some 9, none, .alloc [.pv (.int .u8 0), .pv (.int .i64 0), .pv (.int .u64 0), .pv (.str ⟨#[]⟩), .pv (.int .i64 0), .nilS 6]⟩, ⟨some 10, none, .alloc [.pv (.int .u8 0), .pv (.int .i64 0), .pv (.int .u64 0), .pv (.str ⟨#[]⟩), .pv (.int .i64 0), .nilS 6]⟩, ⟨none, none, .store 6 (.t 6) (.t 33)⟩, ⟨none, none, .store 6 (.t 7) (.t 34)⟩, ⟨none, none, .store 6 (.t 8) (.t 35)⟩, ⟨none, none, .store 6 (.t 9) (.t 36)⟩, ⟨none, none, .store 6 (.t 10) (.t 37)⟩]) (.gh (.keep ⟨[0, 2, 3, 4, 5, 6, 7, 8, 9, 10], [0, 1, 2, 3, 4, 5, 6, 7, 8, 9, 10], 11⟩) c_api_givenFlagsJumps_s22)
def c_api_givenFlagsJumps_s24 : C := .seq (.reg [⟨some 29, none, .callf 136 [(.c (.pv (.str ⟨#[97]⟩))), (.c (.pv (.int .i64 0))), (.c (.pv (.int .i64 0)))]⟩, ⟨some 30, none, .build [.pv (.int .i64 0), .pv (.int .i64 0)] [((0, 1), (.c (.pv (.int .i64 0)))), ((1, 1), (.c (.pv (.int .i64 4))))]⟩, ⟨some 31, none, .lit 2 [(.t 30)]⟩, ⟨some 32, none, .callf 132 [(.c (.pv (.str ⟨#[110]⟩))), (.c (.pv (.int .u8 3))), (.c (.pv (.int .i64 0))), (.c (.pv (.int .i64 0))), (.t 31)]⟩, ⟨some 4, none, .alloc [.pv (.str ⟨#[]⟩), .pv (.int .u8 0), .pv (.int .i64 0), .pv (.int .i64 0), .nilS 2, .pv (.int .i64 0)]⟩, ⟨some 5, none, .alloc [.pv (.str ⟨#[]⟩), .pv (.int .u8 0), .pv (.int .i64 0), .pv (.int .i64 0), .nilS 2, .pv (.int .i64 0)]⟩, ⟨none, none, .store 6 (.t 4) (.t 29)⟩, ⟨none, none, .store 6 (.t 5) (.t 32)⟩]) (.gh (.keep ⟨[0, 2, 3, 4, 5], [0, 1, 2, 3, 4, 5], 6⟩) c_api_givenFlagsJumps_s23)
def c_api_givenFlagsJumps : C :=
.seq (.reg [⟨some 23, none, .build [.pv (.int .i64 0), .pv (.int .i64 0)] [((0, 1), (.c (.pv (.int .i64 7)))), ((1, 1), (.c (.pv (.int .i64 3))))]⟩, ⟨some 24, none, .lit 2 [(.t 23)]⟩, ⟨some 25, none, .callf 132 [(.c (.pv (.str ⟨#[100]⟩))), (.c (.pv (.int .u8 1))), (.c (.pv (.int .i64 0))), (.c (.pv (.int .i64 0))), (.t 24)]⟩, ⟨some 26, none, .build [.pv (.int .i64 0), .pv (.int .i64 0)] [((0, 1), (.c (.pv (.int .i64 4)))), ((1, 1), (.c (.pv (.int .i64 3))))]⟩, ⟨some 27, none, .lit 2 [(.t 26)]⟩, ⟨some 28, none, .callf 132 [(.c (.pv (.str ⟨#[115]⟩))), (.c (.pv (.int .u8 1))), (.c (.pv (.int .i64 0))), (.c (.pv (.int .i64 0))), (.t 27)]⟩, ⟨some 2, none, .alloc [.pv (.str ⟨#[]⟩), .pv (.int .u8 0), .pv (.int .i64 0), .pv (.int .i64 0), .nilS 2, .pv (.int .i64 0)]⟩, ⟨some 3, none, .alloc [.pv (.str ⟨#[]⟩), .pv (.int .u8 0), .pv (.int .i64 0), .pv (.int .i64 0), .nilS 2, .pv (.int .i64 0)]⟩, ⟨none, none, .store 6 (.t 2) (.t 25)⟩, ⟨none, none, .store 6 (.t 3) (.t 28)⟩]) (.gh (.keep ⟨[0, 2, 3], [0, 1, 2, 3], 4⟩) c_api_givenFlagsJumps_s24)
theorem k_api_givenFlagsJumps : FnOk Tryz.prog 128 242 c_api_givenFlagsJumps [] := .mk' (fn := Tryz.f128) rfl rfl (by kernel_rfl) rfl (by kernel_rfl) (by kernel_rfl)
/- "retarget/api.givenNames" -/
def c_api_givenNames : C :=
.seq (.reg [⟨some 4, none, .mov (.c (.nilS 1))⟩]) (.seq (.reg [⟨some 5, none, .mov (.c (.nilS 1))⟩]) (.seq (.seq (.reg [⟨some 8, none, .mov (.t 1)⟩, ⟨some 9, none, .mov (.c (.pv (.int .i64 0)))⟩]) (.blk 0 (.gh (.own 5 1) (.loop ⟨[0, 5, 8, 9], [0], 1⟩ (.seq (.reg [⟨some 10, none, .bin .lss (.t 9) (.t 8)⟩]) (.seq (.cond (.t 10) (.skip) (.ext 0)) (.seq (.blk 1 (.seq (.reg [⟨some 11, none, .mov (.t 9)⟩, ⟨some 6, none, .mov (.t 11)⟩]) (.seq (.reg [⟨some 12, none, .mov (.t 0)⟩, ⟨some 7, none, .mov (.t 12)⟩]) (.seq (.seq (.reg [⟨some 13, none, .mov (.t 6)⟩, ⟨some 14, none, .bin .gtr (.t 13) (.c (.pv (.int .i64 9)))⟩]) (.cond (.t 14) (.reg [⟨some 15, none, .mov (.t 7)⟩, ⟨some 16, none, .mov (.t 6)⟩, ⟨some 17, none, .bin .quo (.t 16) (.c (.pv (.int .i64 10)))⟩, ⟨some 18, none, .bin .add (.c (.pv (.int .i64 48))) (.t 17)⟩, ⟨some 19, none, .conv .u8 (.t 18)⟩, ⟨some 20, none, .lit 1 [(.t 19)]⟩, ⟨some 21, none, .b2s (.t 20)⟩, ⟨some 22, none, .bin .add (.t 15) (.t 21)⟩, ⟨some 7, none, .mov (.t 22)⟩]) (.skip))) (.reg [⟨some 23, none, .mov (.t 5)⟩, ⟨some 24, none, .mov (.t 7)⟩, ⟨some 25, none, .mov (.t 6)⟩, ⟨some 26, none, .bin .rem (.t 25) (.c (.pv (.int .i64 10)))⟩, ⟨some 27, none, .bin .add (.c (.pv (.int .i64 48))) (.t 26)⟩, ⟨some 28, none, .conv .u8 (.t 27)⟩, ⟨some 29, none, .lit 1 [(.t 28)]⟩, ⟨some 30, none, .b2s (.t 29)⟩, ⟨some 31, none, .bin .add (.t 24) (.t 30)⟩, ⟨some 32, none, .lit 1 [(.t 31)]⟩, ⟨some 33, none, .app 1 16 (.t 23) (.t 32)⟩, ⟨some 5, none, .mov (.t 33)⟩]))))) (.reg [⟨some 34, none, .bin .add (.t 9) (.c (.pv (.int .i64 1)))⟩, ⟨some 9, none, .mov (.t 34)⟩])))))))) (.seq (.reg [⟨some 35, none, .mov (.t 5)⟩, ⟨some 4, none, .mov (.t 35)⟩]) (.ret))))
theorem k_api_givenNames : FnOk Tryz.prog 129 36 c_api_givenNames [.raw 4] := .mk' (fn := Tryz.f129) rfl rfl (by kernel_rfl) rfl (by kernel_rfl) (by kernel_rfl)
/- "retarget/api.givenField" -/
def c_api_givenField : C :=
.seq (.reg [⟨some 10, none, .alloc [.pv (.str ⟨#[]⟩), .pv (.int .u8 0), .pv (.int .i64 0), .pv (.int .i64 0), .nilS 2, .pv (.int .i64 0)]⟩]) (.seq (.reg [⟨some 11, none, .mov (.t 0)⟩, ⟨some 12, none, .mov (.t 1)⟩, ⟨some 13, none, .mov (.t 2)⟩, ⟨some 14, none, .mov (.t 3)⟩, ⟨some 15, none, .mov (.t 4)⟩, ⟨some 16, none, .build [.pv (.str ⟨#[]⟩), .pv (.int .u8 0), .pv (.int .i64 0), .pv (.int .i64 0), .nilS 2, .pv (.int .i64 0)] [((0, 1), (.t 11)), ((1, 1), (.t 12)), ((2, 1), (.t 13)), ((3, 1), (.t 14)), ((4, 1), (.t 15)), ((5, 1), (.c (.pv (.int .i64 (-1)))))]⟩, ⟨none, none, .store 6 (.t 10) (.t 16)⟩]) (.ret))
theorem k_api_givenField : FnOk Tryz.prog 132 17 c_api_givenField [.cell 10 (some 6)] := .mk' (fn := Tryz.f132) rfl rfl (by kernel_rfl) rfl (by kernel_rfl) (by kernel_rfl)
/- "retarget/api.givenVar" -/
def c_api_givenVar : C :=
.seq (.reg [⟨some 4, none, .alloc [.pv (.int .u8 0), .pv (.int .i64 0), .pv (.int .u64 0), .pv (.str ⟨#[]⟩), .pv (.int .i64 0), .nilS 6]⟩]) (.seq (.reg [⟨some 5, none, .mov (.t 1)⟩, ⟨some 6, none, .mov (.t 0)⟩, ⟨some 7, none, .build [.pv (.int .u8 0), .pv (.int .i64 0), .pv (.int .u64 0), .pv (.str ⟨#[]⟩), .pv (.int .i64 0), .nilS 6] [((0, 1), (.c (.pv (.int .u8 2)))), ((1, 1), (.t 5)), ((3, 1), (.t 6))]⟩, ⟨none, none, .store 6 (.t 4) (.t 7)⟩]) (.ret))
theorem k_api_givenVar : FnOk Tryz.prog 133 8 c_api_givenVar [.cell 4 (some 6)] := .mk' (fn := Tryz.f133) rfl rfl (by kernel_rfl) rfl (by kernel_rfl) (by kernel_rfl)
/- "retarget/api.givenSet" -/
def c_api_givenSet : C :=
.seq (.reg [⟨some 3, none, .box 6 (.t 1)⟩, ⟨some 4, none, .alloc [.pv (.int .u8 0), .pv (.int .i64 0), .pv (.int .i64 0), .pv (.int .u8 0), .pv (.int .i64 0), .pv (.int .u64 0), .pv (.str ⟨#[]⟩), .pv (.int .i64 0), .nilS 6, .pv (.int .u8 0), .pv (.int .i64 0), .pv (.int .u64 0), .pv (.str ⟨#[]⟩), .pv (.int .i64 0), .nilS 6, .pv (.int .u8 0), .pv (.int .i64 0), .pv (.int .u64 0), .pv (.str ⟨#[]⟩), .pv (.int .i64 0), .nilS 6]⟩]) (.seq (.reg [⟨some 5, none, .mov (.t 0)⟩, ⟨some 6, none, .load (some 6) (.t 3)⟩, ⟨some 7, none, .build [.pv (.int .u8 0), .pv (.int .i64 0), .pv (.int .i64 0), .pv (.int .u8 0), .pv (.int .i64 0), .pv (.int .u64 0), .pv (.str ⟨#[]⟩), .pv (.int .i64 0), .nilS 6, .pv (.int .u8 0), .pv (.int .i64 0), .pv (.int .u64 0), .pv (.str ⟨#[]⟩), .pv (.int .i64 0), .nilS 6, .pv (.int .u8 0), .pv (.int .i64 0), .pv (.int .u64 0), .pv (.str ⟨#[]⟩), .pv (.int .i64 0), .nilS 6] [((0, 1), (.c (.pv (.int .u8 1)))), ((1, 1), (.t 5)), ((9, 6), (.t 6))]⟩, ⟨none, none, .store 21 (.t 4) (.t 7)⟩]) (.ret))
theorem k_api_givenSet : FnOk Tryz.prog 134 8 c_api_givenSet [.cell 4 (some 21)] := .mk' (fn := Tryz.f134) rfl rfl (by kernel_rfl) rfl (by kernel_rfl) (by kernel_rfl)
/- "retarget/api.givenOp" -/
def c_api_givenOp : C :=
.seq (.reg [⟨some 6, none, .alloc [.pv (.int .u8 0), .pv (.int .i64 0), .pv (.int .u64 0), .pv (.str ⟨#[]⟩), .pv (.int .i64 0), .nilS 6]⟩]) (.seq (.reg [⟨some 7, none, .mov (.t 0)⟩, ⟨some 8, none, .mov (.t 1)⟩, ⟨some 9, none, .mov (.t 2)⟩, ⟨some 10, none, .build [.pv (.int .u8 0), .pv (.int .i64 0), .pv (.int .u64 0), .pv (.str ⟨#[]⟩), .pv (.int .i64 0), .nilS 6] [((0, 1), (.t 7)), ((1, 1), (.t 8)), ((5, 1), (.t 9))]⟩, ⟨none, none, .store 6 (.t 6) (.t 10)⟩]) (.ret))
theorem k_api_givenOp : FnOk Tryz.prog 135 11 c_api_givenOp [.cell 6 (some 6)] := .mk' (fn := Tryz.f135) rfl rfl (by kernel_rfl) rfl (by kernel_rfl) (by kernel_rfl)
/- "retarget/api.givenTied" -/
def c_api_givenTied : C :=
.seq (.reg [⟨some 6, none, .alloc [.pv (.str ⟨#[]⟩), .pv (.int .u8 0), .pv (.int .i64 0), .pv (.int .i64 0), .nilS 2, .pv (.int .i64 0)]⟩]) (.seq (.reg [⟨some 7, none, .mov (.t 0)⟩, ⟨some 8, none, .mov (.t 1)⟩, ⟨some 9, none, .mov (.t 2)⟩, ⟨some 10, none, .build [.pv (.str ⟨#[]⟩), .pv (.int .u8 0), .pv (.int .i64 0), .pv (.int .i64 0), .nilS 2, .pv (.int .i64 0)] [((0, 1), (.t 7)), ((1, 1), (.c (.pv (.int .u8 1)))), ((2, 1), (.t 8)), ((5, 1), (.t 9))]⟩, ⟨none, none, .store 6 (.t 6) (.t 10)⟩]) (.ret))
theorem k_api_givenTied : FnOk Tryz.prog 136 11 c_api_givenTied [.cell 6 (some 6)] := .mk' (fn := Tryz.f136) rfl rfl (by kernel_rfl) rfl (by kernel_rfl) (by kernel_rfl)
/- "retarget/api.givenStore" -/
def c_api_givenStore : C :=
.seq (.reg [⟨some 2, none, .box 6 (.t 0)⟩, ⟨some 3, none, .box 6 (.t 1)⟩, ⟨some 4, none, .alloc [.pv (.int .u8 0), .pv (.int .i64 0), .pv (.int .i64 0), .pv (.int .u8 0), .pv (.int .i64 0), .pv (.int .u64 0), .pv (.str ⟨#[]⟩), .pv (.int .i64 0), .nilS 6, .pv (.int .u8 0), .pv (.int .i64 0), .pv (.int .u64 0), .pv (.str ⟨#[]⟩), .pv (.int .i64 0), .nilS 6, .pv (.int .u8 0), .pv (.int .i64 0), .pv (.int .u64 0), .pv (.str ⟨#[]⟩), .pv (.int .i64 0), .nilS 6]⟩]) (.seq (.reg [⟨some 5, none, .load (some 6) (.t 2)⟩, ⟨some 6, none, .load (some 6) (.t 3)⟩, ⟨some 7, none, .build [.pv (.int .u8 0), .pv (.int .i64 0), .pv (.int .i64 0), .pv (.int .u8 0), .pv (.int .i64 0), .pv (.int .u64 0), .pv (.str ⟨#[]⟩), .pv (.int .i64 0), .nilS 6, .pv (.int .u8 0), .pv (.int .i64 0), .pv (.int .u64 0), .pv (.str ⟨#[]⟩), .pv (.int .i64 0), .nilS 6, .pv (.int .u8 0), .pv (.int .i64 0), .pv (.int .u64 0), .pv (.str ⟨#[]⟩), .pv (.int .i64 0), .nilS 6] [((0, 1), (.c (.pv (.int .u8 2)))), ((3, 6), (.t 5)), ((9, 6), (.t 6))]⟩, ⟨none, none, .store 21 (.t 4) (.t 7)⟩]) (.ret))
theorem k_api_givenStore : FnOk Tryz.prog 137 8 c_api_givenStore [.cell 4 (some 21)] := .mk' (fn := Tryz.f137) rfl rfl (by kernel_rfl) rfl (by kernel_rfl) (by kernel_rfl)
/- "retarget/api.givenNum" -/
def c_api_givenNum : C :=
.seq (.reg [⟨some 4, none, .alloc [.pv (.int .u8 0), .pv (.int .i64 0), .pv (.int .u64 0), .pv (.str ⟨#[]⟩), .pv (.int .i64 0), .nilS 6]⟩]) (.seq (.reg [⟨some 5, none, .mov (.t 0)⟩, ⟨some 6, none, .mov (.t 1)⟩, ⟨some 7, none, .build [.pv (.int .u8 0), .pv (.int .i64 0), .pv (.int .u64 0), .pv (.str ⟨#[]⟩), .pv (.int .i64 0), .nilS 6] [((0, 1), (.c (.pv (.int .u8 1)))), ((1, 1), (.t 5)), ((2, 1), (.t 6))]⟩, ⟨none, none, .store 6 (.t 4) (.t 7)⟩]) (.ret))
theorem k_api_givenNum : FnOk Tryz.prog 138 8 c_api_givenNum [.cell 4 (some 6)] := .mk' (fn := Tryz.f138) rfl rfl (by kernel_rfl) rfl (by kernel_rfl) (by kernel_rfl)
/- "retarget/api.givenJump" -/
def c_api_givenJump : C :=
.seq (.reg [⟨some 2, none, .box 6 (.t 0)⟩, ⟨some 3, none, .box 6 (.t 1)⟩, ⟨some 4, none, .alloc [.pv (.int .u8 0), .pv (.int .i64 0), .pv (.int .i64 0), .pv (.int .u8 0), .pv (.int .i64 0), .pv (.int .u64 0), .pv (.str ⟨#[]⟩), .pv (.int .i64 0), .nilS 6, .pv (.int .u8 0), .pv (.int .i64 0), .pv (.int .u64 0), .pv (.str ⟨#[]⟩), .pv (.int .i64 0), .nilS 6, .pv (.int .u8 0), .pv (.int .i64 0), .pv (.int .u64 0), .pv (.str ⟨#[]⟩), .pv (.int .i64 0), .nilS 6]⟩]) (.seq (.reg [⟨some 5, none, .load (some 6) (.t 2)⟩, ⟨some 6, none, .load (some 6) (.t 3)⟩, ⟨some 7, none, .build [.pv (.int .u8 0), .pv (.int .i64 0), .pv (.int .i64 0), .pv (.int .u8 0), .pv (.int .i64 0), .pv (.int .u64 0), .pv (.str ⟨#[]⟩), .pv (.int .i64 0), .nilS 6, .pv (.int .u8 0), .pv (.int .i64 0), .pv (.int .u64 0), .pv (.str ⟨#[]⟩), .pv (.int .i64 0), .nilS 6, .pv (.int .u8 0), .pv (.int .i64 0), .pv (.int .u64 0), .pv (.str ⟨#[]⟩), .pv (.int .i64 0), .nilS 6] [((0, 1), (.c (.pv (.int .u8 3)))), ((9, 6), (.t 5)), ((15, 6), (.t 6))]⟩, ⟨none, none, .store 21 (.t 4) (.t 7)⟩]) (.ret))
theorem k_api_givenJump : FnOk Tryz.prog 139 8 c_api_givenJump [.cell 4 (some 21)] := .mk' (fn := Tryz.f139) rfl rfl (by kernel_rfl) rfl (by kernel_rfl) (by kernel_rfl)
/- "retarget/api.givenFixed" -/
def c_api_givenFixed : C :=
.seq (.reg [⟨some 3, none, .box 6 (.t 1)⟩, ⟨some 4, none, .alloc [.pv (.int .u8 0), .pv (.int .i64 0), .pv (.int .i64 0), .pv (.int .u8 0), .pv (.int .i64 0), .pv (.int .u64 0), .pv (.str ⟨#[]⟩), .pv (.int .i64 0), .nilS 6, .pv (.int .u8 0), .pv (.int .i64 0), .pv (.int .u64 0), .pv (.str ⟨#[]⟩), .pv (.int .i64 0), .nilS 6, .pv (.int .u8 0), .pv (.int .i64 0), .pv (.int .u64 0), .pv (.str ⟨#[]⟩), .pv (.int .i64 0), .nilS 6]⟩]) (.seq (.reg [⟨some 5, none, .mov (.t 0)⟩, ⟨some 6, none, .load (some 6) (.t 3)⟩, ⟨some 7, none, .build [.pv (.int .u8 0), .pv (.int .i64 0), .pv (.int .i64 0), .pv (.int .u8 0), .pv (.int .i64 0), .pv (.int .u64 0), .pv (.str ⟨#[]⟩), .pv (.int .i64 0), .nilS 6, .pv (.int .u8 0), .pv (.int .i64 0), .pv (.int .u64 0), .pv (.str ⟨#[]⟩), .pv (.int .i64 0), .nilS 6, .pv (.int .u8 0), .pv (.int .i64 0), .pv (.int .u64 0), .pv (.str ⟨#[]⟩), .pv (.int .i64 0), .nilS 6] [((0, 1), (.c (.pv (.int .u8 1)))), ((1, 1), (.c (.pv (.int .i64 (-1))))), ((2, 1), (.t 5)), ((9, 6), (.t 6))]⟩, ⟨none, none, .store 21 (.t 4) (.t 7)⟩]) (.ret))
theorem k_api_givenFixed : FnOk Tryz.prog 140 8 c_api_givenFixed [.cell 4 (some 21)] := .mk' (fn := Tryz.f140) rfl rfl (by kernel_rfl) rfl (by kernel_rfl) (by kernel_rfl)
/- "retarget/api.givenTrap" -/
def c_api_givenTrap : C :=
.seq (.reg [⟨some 1, none, .box 6 (.t 0)⟩, ⟨some 2, none, .alloc [.pv (.int .u8 0), .pv (.int .i64 0), .pv (.int .i64 0), .pv (.int .u8 0), .pv (.int .i64 0), .pv (.int .u64 0), .pv (.str ⟨#[]⟩), .pv (.int .i64 0), .nilS 6, .pv (.int .u8 0), .pv (.int .i64 0), .pv (.int .u64 0), .pv (.str ⟨#[]⟩), .pv (.int .i64 0), .nilS 6, .pv (.int .u8 0), .pv (.int .i64 0), .pv (.int .u64 0), .pv (.str ⟨#[]⟩), .pv (.int .i64 0), .nilS 6]⟩]) (.seq (.reg [⟨some 3, none, .load (some 6) (.t 1)⟩, ⟨some 4, none, .build [.pv (.int .u8 0), .pv (.int .i64 0), .pv (.int .i64 0), .pv (.int .u8 0), .pv (.int .i64 0), .pv (.int .u64 0), .pv (.str ⟨#[]⟩), .pv (.int .i64 0), .nilS 6, .pv (.int .u8 0), .pv (.int .i64 0), .pv (.int .u64 0), .pv (.str ⟨#[]⟩), .pv (.int .i64 0), .nilS 6, .pv (.int .u8 0), .pv (.int .i64 0), .pv (.int .u64 0), .pv (.str ⟨#[]⟩), .pv (.int .i64 0), .nilS 6] [((0, 1), (.c (.pv (.int .u8 4)))), ((9, 6), (.t 3))]⟩, ⟨none, none, .store 21 (.t 2) (.t 4)⟩]) (.ret))
theorem k_api_givenTrap : FnOk Tryz.prog 141 5 c_api_givenTrap [.cell 2 (some 21)] := .mk' (fn := Tryz.f141) rfl rfl (by kernel_rfl) rfl (by kernel_rfl) (by kernel_rfl)
/- "retarget/api.givenRisc$1" -/
def c_api_givenRisc_1 : C :=
.seq (.reg [⟨some 17, none, .fad 6 (.t 7)⟩, ⟨some 18, none, .load none (.t 17)⟩, ⟨some 19, none, .len (.t 18)⟩, ⟨some 15, none, .mov (.t 19)⟩]) (.seq (.reg [⟨some 20, none, .mov (.t 0)⟩, ⟨some 21, none, .mov (.t 15)⟩, ⟨some 22, none, .conv .u64 (.t 21)⟩, ⟨some 23, none, .bin .shl (.t 22) (.c (.pv (.int .u64 26)))⟩, ⟨some 24, none, .mov (.t 5)⟩, ⟨some 25, none, .mov (.t 6)⟩, ⟨some 26, none, .mov (.t 1)⟩, ⟨some 27, none, .mov (.t 2)⟩, ⟨some 28, none, .mov (.t 3)⟩, ⟨some 29, none, .mov (.t 4)⟩, ⟨some 30, none, .build [.pv (.str ⟨#[]⟩), .pv (.int .u64 0), .pv (.int .u64 0), .nilS 6, .nilS 21, .pv (.int .i64 0), .pv (.int .i64 0), .pv (.int .i64 0), .pv (.int .i64 0)] [((0, 1), (.t 20)), ((1, 1), (.c (.pv (.int .u64 4227858432)))), ((2, 1), (.t 23)), ((3, 1), (.t 24)), ((4, 1), (.t 25)), ((5, 1), (.t 26)), ((6, 1), (.t 27)), ((7, 1), (.t 28)), ((8, 1), (.t 29))]⟩, ⟨some 16, none, .alloc [.pv (.str ⟨#[]⟩), .pv (.int .u64 0), .pv (.int .u64 0), .nilS 6, .nilS 21, .pv (.int .i64 0), .pv (.int .i64 0), .pv (.int .i64 0), .pv (.int .i64 0)]⟩, ⟨none, none, .store 9 (.t 16) (.t 30)⟩]) (.reg [⟨some 31, none, .fad 6 (.t 7)⟩, ⟨some 32, none, .load none (.t 31)⟩, ⟨some 33, none, .load (some 9) (.t 16)⟩, ⟨some 34, none, .lit 9 [(.t 33)]⟩, ⟨some 35, none, .app 9 112 (.t 32) (.t 34)⟩, ⟨some 36, none, .fad 6 (.t 7)⟩, ⟨none, none, .store 1 (.t 36) (.t 35)⟩]))
theorem k_api_givenRisc_1 : FnOk Tryz.prog 142 37 c_api_givenRisc_1 [] := .mk' (fn := Tryz.f142) rfl rfl (by kernel_rfl) rfl (by kernel_rfl) (by kernel_rfl)
/- "retarget/api.givenRisc$2" -/
def c_api_givenRisc_2 : C :=
.seq (.reg [⟨some 1, none, .box 6 (.t 0)⟩, ⟨some 2, none, .alloc [.pv (.int .u8 0), .pv (.int .i64 0), .pv (.int .u64 0), .pv (.str ⟨#[]⟩), .pv (.int .i64 0), .nilS 6]⟩]) (.seq (.reg [⟨some 3, none, .load (some 6) (.t 1)⟩, ⟨some 4, none, .lit 6 [(.t 3)]⟩, ⟨some 5, none, .callf 135 [(.c (.pv (.int .u8 22))), (.c (.pv (.int .i64 32))), (.t 4)]⟩, ⟨none, none, .store 6 (.t 2) (.t 5)⟩]) (.ret))
theorem k_api_givenRisc_2 : FnOk Tryz.prog 143 6 c_api_givenRisc_2 [.cell 2 (some 6)] := .mk' (fn := Tryz.f143) rfl rfl (by kernel_rfl) rfl (by kernel_rfl) (by kernel_rfl)
/- "retarget/api.givenAdd" -/
def c_api_givenAdd : C :=
.seq (.reg [⟨some 12, none, .mov (.t 0)⟩, ⟨some 13, none, .nilc (.t 12)⟩, ⟨some 14, none, .fad 6 (.t 13)⟩, ⟨some 15, none, .load none (.t 14)⟩, ⟨some 16, none, .len (.t 15)⟩, ⟨some 10, none, .mov (.t 16)⟩]) (.seq (.reg [⟨some 17, none, .mov (.t 1)⟩, ⟨some 18, none, .mov (.t 10)⟩, ⟨some 19, none, .conv .u64 (.t 18)⟩, ⟨some 20, none, .bin .shl (.t 19) (.c (.pv (.int .u64 10)))⟩, ⟨some 21, none, .mov (.t 3)⟩, ⟨some 22, none, .mov (.t 4)⟩, ⟨some 23, none, .mov (.t 2)⟩, ⟨some 24, none, .build [.pv (.str ⟨#[]⟩), .pv (.int .u64 0), .pv (.int .u64 0), .nilS 6, .nilS 21, .pv (.int .i64 0), .pv (.int .i64 0), .pv (.int .i64 0), .pv (.int .i64 0)] [((0, 1), (.t 17)), ((1, 1), (.c (.pv (.int .u64 64512)))), ((2, 1), (.t 20)), ((3, 1), (.t 21)), ((4, 1), (.t 22)), ((6, 1), (.c (.pv (.int .i64 1)))), ((7, 1), (.t 23))]⟩, ⟨some 11, none, .alloc [.pv (.str ⟨#[]⟩), .pv (.int .u64 0), .pv (.int .u64 0), .nilS 6, .nilS 21, .pv (.int .i64 0), .pv (.int .i64 0), .pv (.int .i64 0), .pv (.int .i64 0)]⟩, ⟨none, none, .store 9 (.t 11) (.t 24)⟩]) (.dreg [⟨some 25, none, .mov (.t 0)⟩, ⟨some 26, none, .mov (.t 0)⟩, ⟨some 27, none, .nilc (.t 26)⟩, ⟨some 28, none, .fad 6 (.t 27)⟩, ⟨some 29, none, .load none (.t 28)⟩, ⟨some 30, none, .load (some 9) (.t 11)⟩, ⟨some 31, none, .lit 9 [(.t 30)]⟩, ⟨some 32, none, .app 9 112 (.t 29) (.t 31)⟩, ⟨some 33, none, .nilc (.t 25)⟩, ⟨some 34, none, .fad 6 (.t 33)⟩, ⟨none, none, .store 1 (.t 34) (.t 32)⟩] [[], [], [1], [1, 2], [1, 2, 3], [], [5], [1, 2, 3, 4, 5, 6], [0, 1, 2, 3, 4, 5, 6, 7], [0, 1, 2, 3, 4, 5, 6, 7, 8], [0, 1, 2, 3, 4, 5, 6, 7, 8, 9]]))
theorem k_api_givenAdd : FnOk Tryz.prog 159 35 c_api_givenAdd [] := .mk' (fn := Tryz.f159) rfl rfl (by kernel_rfl) rfl (by kernel_rfl) (by kernel_rfl)
/- "retarget/api.givenZero" -/
def c_api_givenZero : C :=
.seq (.reg [⟨some 1, none, .box 6 (.t 0)⟩, ⟨some 2, none, .alloc [.pv (.int .u8 0), .pv (.int .i64 0), .pv (.int .i64 0), .pv (.int .u8 0), .pv (.int .i64 0), .pv (.int .u64 0), .pv (.str ⟨#[]⟩), .pv (.int .i64 0), .nilS 6, .pv (.int .u8 0), .pv (.int .i64 0), .pv (.int .u64 0), .pv (.str ⟨#[]⟩), .pv (.int .i64 0), .nilS 6, .pv (.int .u8 0), .pv (.int .i64 0), .pv (.int .u64 0), .pv (.str ⟨#[]⟩), .pv (.int .i64 0), .nilS 6]⟩]) (.seq (.dreg [⟨some 3, none, .load (some 6) (.t 1)⟩, ⟨some 4, none, .fad 1 (.t 1)⟩, ⟨some 5, none, .load none (.t 4)⟩, ⟨some 6, none, .callf 138 [(.t 5), (.c (.pv (.int .u64 0)))]⟩, ⟨some 7, none, .lit 6 [(.t 3), (.t 6)]⟩, ⟨some 8, none, .callf 135 [(.c (.pv (.int .u8 16))), (.c (.pv (.int .i64 1))), (.t 7)]⟩, ⟨some 9, none, .callf 140 [(.c (.pv (.int .i64 16))), (.t 8)]⟩, ⟨none, none, .store 21 (.t 2) (.t 9)⟩] [[], [], [1], [1, 2], [0, 1, 2, 3], [0, 1, 2, 3, 4], [0, 1, 2, 3, 4, 5], [0, 1, 2, 3, 4, 5, 6]]) (.ret))
theorem k_api_givenZero : FnOk Tryz.prog 160 10 c_api_givenZero [.cell 2 (some 21)] := .mk' (fn := Tryz.f160) rfl rfl (by kernel_rfl) rfl (by kernel_rfl) (by kernel_rfl)
/- "retarget/api.givenSign" -/
def c_api_givenSign : C :=
.seq (.reg [⟨some 1, none, .box 6 (.t 0)⟩, ⟨some 2, none, .alloc [.pv (.int .u8 0), .pv (.int .i64 0), .pv (.int .i64 0), .pv (.int .u8 0), .pv (.int .i64 0), .pv (.int .u64 0), .pv (.str ⟨#[]⟩), .pv (.int .i64 0), .nilS 6, .pv (.int .u8 0), .pv (.int .i64 0), .pv (.int .u64 0), .pv (.str ⟨#[]⟩), .pv (.int .i64 0), .nilS 6, .pv (.int .u8 0), .pv (.int .i64 0), .pv (.int .u64 0), .pv (.str ⟨#[]⟩), .pv (.int .i64 0), .nilS 6]⟩]) (.seq (.dreg [⟨some 3, none, .load (some 6) (.t 1)⟩, ⟨some 4, none, .fad 1 (.t 1)⟩, ⟨some 5, none, .load none (.t 4)⟩, ⟨some 6, none, .callf 138 [(.t 5), (.c (.pv (.int .u64 0)))]⟩, ⟨some 7, none, .lit 6 [(.t 3), (.t 6)]⟩, ⟨some 8, none, .callf 135 [(.c (.pv (.int .u8 18))), (.c (.pv (.int .i64 1))), (.t 7)]⟩, ⟨some 9, none, .callf 140 [(.c (.pv (.int .i64 18))), (.t 8)]⟩, ⟨none, none, .store 21 (.t 2) (.t 9)⟩] [[], [], [1], [1, 2], [0, 1, 2, 3], [0, 1, 2, 3, 4], [0, 1, 2, 3, 4, 5], [0, 1, 2, 3, 4, 5, 6]]) (.ret))
theorem k_api_givenSign : FnOk Tryz.prog 161 10 c_api_givenSign [.cell 2 (some 21)] := .mk' (fn := Tryz.f161) rfl rfl (by kernel_rfl) rfl (by kernel_rfl) (by kernel_rfl)
/- "retarget/api.givenFlag" -/
def c_api_givenFlag : C :=
.seq (.reg [⟨some 2, none, .alloc [.pv (.int .u8 0), .pv (.int .i64 0), .pv (.int .u64 0), .pv (.str ⟨#[]⟩), .pv (.int .i64 0), .nilS 6]⟩]) (.seq (.reg [⟨some 3, none, .mov (.t 0)⟩, ⟨some 4, none, .bin .add (.c (.pv (.str ⟨#[114, 46]⟩))) (.t 3)⟩, ⟨some 5, none, .callf 133 [(.t 4), (.c (.pv (.int .i64 1)))]⟩, ⟨none, none, .store 6 (.t 2) (.t 5)⟩]) (.ret))
theorem k_api_givenFlag : FnOk Tryz.prog 162 6 c_api_givenFlag [.cell 2 (some 6)] := .mk' (fn := Tryz.f162) rfl rfl (by kernel_rfl) rfl (by kernel_rfl) (by kernel_rfl)
end Go.Proofs.YteiampdhhigjcaaGreatDoorV

/- A call that looks at a row which may still be written: a function that gives plain data for a list gives the same for a row of an object. -/
namespace Go.Proofs.YteiampdhhigjcaaGreatDoorV
open Go

/-- Numbers, strings, bools. -/
def PV.isLit : PV → Bool
  | .int _ _ | .str _ | .bool _ => true
  | _ => false
theorem PRep.lit_any {m m' : Mem} {p : PV} {v : Value} (hp : p.isLit = true) (h : PRep m p v) : PRep m' p v := by
  cases h <;> simp [PV.isLit] at hp
  · exact .int ‹_› ‹_›
  · exact .bool
  · exact .str ‹_›
/-- More numbers than the call's objects have. -/
theorem ACall.more {P : Program} {gl : Glob} {f : Fn} {n n' n2 : Nat} {ds : List DV} {H H' : Heap} {d : DV} (h : ACall P gl f n ds H d H' n') (hn : n' ≤ n2) : ACall P gl f n ds H d H' n2 where
  enter := h.enter
  isFn := h.isFn
  le := Nat.le_trans h.le hn
  args := h.args
  obs := h.obs
  res := DV.nm_mono (fun i hi => Nat.lt_of_lt_of_le hi hn) d h.res
  obs' i o hi := ⟨Nat.lt_of_lt_of_le (h.obs' i o hi).1 hn, Ob.nm_mono (fun j hj => Nat.lt_of_lt_of_le hj hn) (h.obs' i o hi).2⟩
  run K w0 g w vs hH hl ha := (h.run K w0 g w vs hH hl ha).mono fun e w' ⟨v, g', h1, h2, h3, h4⟩ => ⟨v, g', h1, h2, h3.frmono fun i hi => Nat.le_trans hn hi, h4⟩
theorem PCall.view {P : Program} {gl : Glob} {f : FuncId} {sz : Nat} {xs : List PV} {r : List DV} {p : PV} (hc : PCall P gl f (.pv (.lst sz xs) :: r) (.pv p)) (hp : p.isLit = true) (hz : 0 < sz) (hcs : ∀ x ∈ xs, x.cells.length = sz) (hone : ∀ c ∈ flat xs, c.one = true) :
    ACall P gl (.func f) 1 (.mrow 0 0 xs.length sz :: r) [(0, .box ((flat xs).map .pv))] (.pv p) [(0, .box ((flat xs).map .pv))] 1 where
  enter fid h vs w := by obtain rfl := Fn.func.inj h; exact hc.enter vs w
  isFn := .inl ⟨f, rfl⟩
  le := Nat.le_refl _
  args x hx := by
    rcases List.mem_cons.1 hx with rfl | hx
    · exact DV.nm_mrow.2 (by omega)
    · exact DV.nm_mono (fun _ h => h.elim) x (hc.args x (.tail _ hx))
  obs i o h := by
    simp only [hget] at h
    split at h
    · rename_i hi
      obtain rfl := Option.some.inj h
      refine ⟨by omega, fun c hc => ?_⟩
      obtain ⟨q, -, rfl⟩ := List.mem_map.1 hc
      exact DV.nm_pv
    · simp at h
  obs' i o h := by
    simp only [hget] at h
    split at h
    · rename_i hi
      obtain rfl := Option.some.inj h
      refine ⟨by omega, fun c hc => ?_⟩
      obtain ⟨q, -, rfl⟩ := List.mem_map.1 hc
      exact DV.nm_pv
    · simp at h
  res := DV.nm_pv
  run K w0 g w vs hH hlen ha := by
    have hob := hH.obj 0 (.box ((flat xs).map .pv)) (by simp [hget])
    obtain ⟨B, us, e, hμ, hB, hle, honec, hrep, hmB⟩ := hob
    have hBlt : B < w.heap.size := (Array.getElem?_eq_some_iff.1 hB).1
    have hKB : ¬ K B := hH.off 0 (.box ((flat xs).map .pv)) B (by simp [hget]) hμ
    let g1 : Gh := { m := fun b o => if b = B then us[o]? else g.m b o, μ := fun _ => none, τ := fun _ _ => none }
    have hm1 : MemLe g.m g1.m := fun b o v h => by
      show (if b = B then us[o]? else g.m b o) = some v
      by_cases hb : b = B
      · subst hb; rw [hmB] at h; simp at h
      · rw [if_neg hb]; exact h
    have hgg1 : GLe (fun _ => False) (fun _ => False) g g1 := ⟨hm1, fun _ h => h.elim, fun _ h => h.elim, fun _ h => h.elim⟩
    have hcell : ∀ (o : Nat) v, us[o]? = some v → w.cell? ⟨B, o, none⟩ = some v := fun o v h => by
      unfold World.cell?
      simp [hB, h]
    have hH1 : SimH gl (fun b => b < w.heap.size) w (fun _ => none) (fun _ => True) g1 w :=
      { os := rfl, tape := rfl, output := rfl, size := Nat.le_refl _, kept := fun _ _ => rfl, old := fun _ h => h
        mem := fun b o v h => by
          have h : (if b = B then us[o]? else g.m b o) = some v := h
          by_cases hb : b = B
          · subst hb; rw [if_pos rfl] at h; exact hcell o v h
          · rw [if_neg hb] at h; exact hH.mem b o v h
        ids := fun _ _ h => by simp at h
        low := fun _ _ => ⟨rfl, fun _ => rfl⟩, obj := fun _ _ h => by simp at h, nm := fun _ _ h => by simp at h, inj := fun _ _ _ _ _ h => by simp at h, off := fun _ _ _ h => by simp at h
        glo := fun b cs hb j c hc => let ⟨k1, u, k2, k3⟩ := hH.glo b cs hb j c hc; ⟨k1, u, hm1 _ _ _ k2, k3.mono hm1⟩ }
    have harg : ∀ (j : Nat) (d : DV) (v : Value), (DV.pv (.lst sz xs) :: r)[j]? = some d → vs[j]? = some v → DRep g1 d v := by
      intro j d v hd hv
      cases j with
      | zero =>
        simp only [List.getElem?_cons_zero, Option.some.injEq] at hd
        subst hd
        have h0 := ha 0 _ v rfl hv
        have h1 : DRep { g1 with μ := g.μ } (.mrow 0 0 xs.length sz) v := by
          cases h0 with
          | mrow a b c => exact .mrow a b c
        have h2 := frz_row (g' := { g1 with μ := g.μ }) (B := B) (xs := xs) h1 hμ (fun j c hc => by
          have hjl : j < (flat xs).length := (List.getElem?_eq_some_iff.1 hc).1
          have hju : j < us.size := by simp at hle; omega
          have hu : us[j]? = some us[j] := Array.getElem?_eq_getElem hju
          refine ⟨us[j], by show (if B = B then us[j]? else g.m B j) = _; rw [if_pos rfl, hu], ?_, honec _ (by simp)⟩
          have h3 := hrep j (.pv c) us[j] (by simp [hc]) hu
          cases h3 with
          | pv h3 => exact h3.mono hm1) rfl hz hcs hone
        cases h2 with
        | pv h2 => exact .pv h2
      | succ j =>
        have hd' : r[j]? = some d := by simpa using hd
        exact (ha (j + 1) d v (by simpa using hd') hv).mono hgg1 (hc.args d (.tail _ (List.mem_of_getElem? hd')))
    show Calls P f vs w _
    refine (hc.run _ w g1 w vs hH1 (by simpa using hlen) harg).mono ?_
    rintro en w' ⟨v, g', rfl, hd, h1, hg⟩
    let g2 : Gh := { m := fun b o => if b = B then none else g'.m b o, μ := g.μ, τ := g.τ }
    have hold : ∀ b, K b → b < w.heap.size := fun b hb => Nat.lt_of_lt_of_le (hH.old b hb) hH.size
    have hm2 : MemLe g.m g2.m := fun b o v h => by
      show (if b = B then none else g'.m b o) = some v
      by_cases hb : b = B
      · subst hb; rw [hmB] at h; simp at h
      · rw [if_neg hb]; exact hg.m b o v (hm1 b o v h)
    have hgg : GLe K (fun i => i < 1) g g2 := ⟨hm2, fun b hb o => by
      have hbB : b ≠ B := fun h => hKB (h ▸ hb)
      show (if b = B then none else g'.m b o) = g.m b o
      rw [if_neg hbB, hg.fix b (hold b hb) o]
      show (if b = B then us[o]? else g.m b o) = g.m b o
      rw [if_neg hbB], fun _ _ => rfl, fun _ _ _ _ h => h⟩
    have hlit : DRep g2 (.pv p) v := by
      cases hd with
      | pv h => exact .pv (h.lit_any hp)
    refine ⟨v, g2, rfl, hlit, ?_, hgg⟩
    exact
      { os := h1.os.trans hH.os, tape := h1.tape.trans hH.tape, output := h1.output.trans hH.output, size := Nat.le_trans hH.size h1.size
        kept := fun b hb => (h1.kept b (hold b hb)).trans (hH.kept b hb), old := hH.old
        mem := fun b o v h => by
          have h : (if b = B then none else g'.m b o) = some v := h
          by_cases hb : b = B
          · rw [if_pos hb] at h; simp at h
          · rw [if_neg hb] at h; exact h1.mem b o v h
        ids := hH.ids, low := hH.low
        obj := fun i o hi => (hH.obj i o hi).mono (p := fun i => i < 1) hgg (by
            have := hi; simp only [hget] at this
            split at this
            · omega
            · simp at this) (by
            have := hi; simp only [hget] at this
            split at this
            · obtain rfl := Option.some.inj this
              intro c hc
              obtain ⟨q, -, rfl⟩ := List.mem_map.1 hc
              exact DV.nm_pv
            · simp at this) rfl fun B' hB' => by
          have hi0 : B' = B := by
            have := hi; simp only [hget] at this
            split at this
            · rename_i he
              obtain rfl := Option.some.inj this
              subst he
              have : g.μ 0 = some B' := hB'
              rw [hμ] at this; exact (Option.some.inj this).symm
            · simp at this
          subst hi0
          refine ⟨h1.kept B' hBlt, fun x => ?_⟩
          show (if B' = B' then none else g'.m B' x) = g.m B' x
          rw [if_pos rfl, hmB]
        nm := hH.nm, inj := fun i j o o' B h2 h3 h4 h5 => hH.inj i j o o' B h2 h3 (by cases o <;> exact h4) (by cases o' <;> exact h5)
        off := fun i o B h2 h3 => hH.off i o B h2 (by cases o <;> exact h3)
        glo := fun b cs hb j c hc => let ⟨k1, u, k2, k3⟩ := hH.glo b cs hb j c hc; ⟨k1, u, hm2 _ _ _ k2, k3.mono hm2⟩ }
end Go.Proofs.YteiampdhhigjcaaGreatDoorV

/- The parts that the given machines are made of. -/
namespace Go.Proofs.YteiampdhhigjcaaGreatDoorV
open Go
set_option maxRecDepth 100000
set_option maxHeartbeats 4000000

/-! ### A loop that is run round by round -/
def LoopN (P : Program) (gl : Glob) (n0 : Nat) (k : Kp) (x : C) (Q : Ex → St → Prop) : Nat → St → Prop
  | 0, _ => False
  | n + 1, s => k.ok n0 s ∧ vc P gl n0 x (fun e s' => match e with | .nrm => LoopN P gl n0 k x Q n s' | e => Q e s') (k.st s)
def kroundL (P : Program) (gl : Glob) (n0 : Nat) (k : Kp) (x : C) (Q : Ex → St → Prop) (n : Nat) : Ex → St → Prop := fun e s' => match e with | .nrm => LoopN P gl n0 k x Q n s' | e => Q e s'
@[simp] theorem kroundL_nrm {P : Program} {gl : Glob} {n0 : Nat} {k : Kp} {x : C} {Q : Ex → St → Prop} {n : Nat} {s : St} : kroundL P gl n0 k x Q n .nrm s = LoopN P gl n0 k x Q n s := rfl
@[simp] theorem kroundL_ext {P : Program} {gl : Glob} {n0 : Nat} {k : Kp} {x : C} {Q : Ex → St → Prop} {n i : Nat} {s : St} : kroundL P gl n0 k x Q n (.ext i) s = Q (.ext i) s := rfl
@[simp] theorem kroundL_ret {P : Program} {gl : Glob} {n0 : Nat} {k : Kp} {x : C} {Q : Ex → St → Prop} {n : Nat} {s : St} : kroundL P gl n0 k x Q n .ret s = Q .ret s := rfl
theorem LoopN_succ {P : Program} {gl : Glob} {n0 : Nat} {k : Kp} {x : C} {Q : Ex → St → Prop} {n : Nat} {s : St} : LoopN P gl n0 k x Q (n + 1) s = (k.ok n0 s ∧ vc P gl n0 x (kroundL P gl n0 k x Q n) (k.st s)) := rfl
theorem Loop.rounds {P : Program} {gl : Glob} {n0 : Nat} {k : Kp} {x : C} {Q : Ex → St → Prop} (n : Nat) {s : St} (h : LoopN P gl n0 k x Q (n + 1) s) : Loop P gl n0 k x Q s := by
  refine Loop.intro (α := Nat × St) (fun y => k.st y.2) (·.1) (fun y => LoopN P gl n0 k x Q (y.1 + 1) y.2) (n, s) h.1 h rfl ?_
  rintro ⟨m, t⟩ ht
  refine vc_mono x (fun e s' hs => ?_) ht.2
  cases e with
  | nrm =>
    simp only at hs
    cases m with
    | zero => exact hs.elim
    | succ m => exact ⟨hs.1, (m, s'), hs, Nat.lt_succ_self _, rfl⟩
  | ext i => exact hs
  | ret => exact hs

/-! ### Lists that come of lists of ours -/
class IsMap {α : Type} (f : α → PV) (l : List PV) (xs : outParam (List α)) : Prop where
  eq : l = xs.map f
instance {α : Type} (f : α → PV) : IsMap f [] [] := ⟨rfl⟩
instance {α : Type} (f : α → PV) (x : α) (l : List PV) (xs : List α) [h : IsMap f l xs] : IsMap f (f x :: l) (x :: xs) := ⟨by rw [h.eq]; rfl⟩
instance {α : Type} (f : α → PV) (xs : List α) : IsMap f (xs.map f) xs := ⟨rfl⟩

/-! ### Terms -/
def gVar (s : ByteArray) (w : Int) : Tm := { op := 2, width := w, val := 0, name := s, low := 0, sub := [] }
def gNum (w x : Int) : Tm := { op := 1, width := w, val := x, name := ⟨#[]⟩, low := 0, sub := [] }
def gOp (k w : Int) (l : List Tm) : Tm := { op := k, width := w, val := 0, name := ⟨#[]⟩, low := 0, sub := l }
def gNone : Tm := { op := 0, width := 0, val := 0, name := ⟨#[]⟩, low := 0, sub := [] }
/-! ### Operands, effects, instructions -/
def gField (s : ByteArray) (k b sc : Int) (l : List Piece) : Opnd := { name := s, kind := k, bank := b, scale := sc, pieces := l, tied := -1 }
def gTied (s : ByteArray) (b of : Int) : Opnd := { name := s, kind := 1, bank := b, scale := 0, pieces := [], tied := of }
def gSet (o : Int) (v : Tm) : Eff := { kind := 1, operand := o, reg := 0, addr := gNone, value := v, cond := gNone }
def gFixed (r : Int) (v : Tm) : Eff := { kind := 1, operand := -1, reg := r, addr := gNone, value := v, cond := gNone }
def gStore (a v : Tm) : Eff := { kind := 2, operand := 0, reg := 0, addr := a, value := v, cond := gNone }
def gJump (v c : Tm) : Eff := { kind := 3, operand := 0, reg := 0, addr := gNone, value := v, cond := c }
def gTrap (v : Tm) : Eff := { kind := 4, operand := 0, reg := 0, addr := gNone, value := v, cond := gNone }

theorem p_givenVar (gl : Glob) (s : ByteArray) (w : Int) : PCall Tryz.prog gl 133 [.pv (.str s), .pv (.int .i64 w)] (.pv (gVar s w).pv) := by
  refine k_api_givenVar.pcall (by simp) (by simp) (by simp) fun hwf => ?_
  simp [c_api_givenVar]
  rw [Tm.pv_eq]
  rfl
theorem p_givenNum (gl : Glob) (w x : Int) : PCall Tryz.prog gl 138 [.pv (.int .i64 w), .pv (.int .u64 x)] (.pv (gNum w x).pv) := by
  refine k_api_givenNum.pcall (by simp) (by simp) (by simp) fun hwf => ?_
  simp [c_api_givenNum]
  rw [Tm.pv_eq]
  rfl
theorem p_givenOp (gl : Glob) (k w : Int) {ps : List PV} {l : List Tm} [h : IsMap Tm.pv ps l] : PCall Tryz.prog gl 135 [.pv (.int .u8 k), .pv (.int .i64 w), .pv (.lst 6 ps)] (.pv (gOp k w l).pv) := by
  obtain rfl := h.eq
  refine k_api_givenOp.pcall (by simp) (by simp) (by simp) fun hwf => ?_
  simp [c_api_givenOp]
  rw [Tm.pv_eq]
  rfl
theorem p_givenField (gl : Glob) (s : ByteArray) (k b sc : Int) {ps : List PV} {l : List Piece} [h : IsMap Piece.pv ps l] : PCall Tryz.prog gl 132 [.pv (.str s), .pv (.int .u8 k), .pv (.int .i64 b), .pv (.int .i64 sc), .pv (.lst 2 ps)] (.pv (gField s k b sc l).pv) := by
  obtain rfl := h.eq
  refine k_api_givenField.pcall (by simp) (by simp) (by simp) fun hwf => ?_
  simp [c_api_givenField]
  rfl
theorem p_givenTied (gl : Glob) (s : ByteArray) (b of : Int) : PCall Tryz.prog gl 136 [.pv (.str s), .pv (.int .i64 b), .pv (.int .i64 of)] (.pv (gTied s b of).pv) := by
  refine k_api_givenTied.pcall (by simp) (by simp) (by simp) fun hwf => ?_
  simp [c_api_givenTied]
  rfl
theorem p_givenSet (gl : Glob) (o : Int) (v : Tm) : PCall Tryz.prog gl 134 [.pv (.int .i64 o), .pv v.pv] (.pv (gSet o v).pv) := by
  refine k_api_givenSet.pcall (by simp) (by simp) (by simp) fun hwf => ?_
  simp [c_api_givenSet]
  rfl
theorem p_givenFixed (gl : Glob) (r : Int) (v : Tm) : PCall Tryz.prog gl 140 [.pv (.int .i64 r), .pv v.pv] (.pv (gFixed r v).pv) := by
  refine k_api_givenFixed.pcall (by simp) (by simp) (by simp) fun hwf => ?_
  simp [c_api_givenFixed]
  rfl
theorem p_givenStore (gl : Glob) (a v : Tm) : PCall Tryz.prog gl 137 [.pv a.pv, .pv v.pv] (.pv (gStore a v).pv) := by
  refine k_api_givenStore.pcall (by simp) (by simp) (by simp) fun hwf => ?_
  simp [c_api_givenStore]
  rfl
theorem p_givenJump (gl : Glob) (v c : Tm) : PCall Tryz.prog gl 139 [.pv v.pv, .pv c.pv] (.pv (gJump v c).pv) := by
  refine k_api_givenJump.pcall (by simp) (by simp) (by simp) fun hwf => ?_
  simp [c_api_givenJump]
  rfl
theorem p_givenTrap (gl : Glob) (v : Tm) : PCall Tryz.prog gl 141 [.pv v.pv] (.pv (gTrap v).pv) := by
  refine k_api_givenTrap.pcall (by simp) (by simp) (by simp) fun hwf => ?_
  simp [c_api_givenTrap]
  rfl
def gZero (x : Tm) : Eff := gFixed 16 (gOp 16 1 [x, gNum x.width 0])
def gSign (x : Tm) : Eff := gFixed 18 (gOp 18 1 [x, gNum x.width 0])
theorem p_givenZero (gl : Glob) (x : Tm) : PCall Tryz.prog gl 160 [.pv x.pv] (.pv (gZero x).pv) := by
  refine k_api_givenZero.pcall (by simp) (by simp) (by simp) fun hwf => ?_
  simp [c_api_givenZero]
  refine DCallNext.pure (p_givenNum gl _ _) ?_
  simp
  refine DCallNext.pure (p_givenOp gl _ _) ?_
  simp
  refine DCallNext.pure (p_givenFixed gl _ _) ?_
  simp
  rfl
theorem p_givenSign (gl : Glob) (x : Tm) : PCall Tryz.prog gl 161 [.pv x.pv] (.pv (gSign x).pv) := by
  refine k_api_givenSign.pcall (by simp) (by simp) (by simp) fun hwf => ?_
  simp [c_api_givenSign]
  refine DCallNext.pure (p_givenNum gl _ _) ?_
  simp
  refine DCallNext.pure (p_givenOp gl _ _) ?_
  simp
  refine DCallNext.pure (p_givenFixed gl _ _) ?_
  simp
  rfl
def gFlag (s : ByteArray) : Tm := gVar (⟨#[114, 46]⟩ ++ s) 1
theorem p_givenFlag (gl : Glob) (s : ByteArray) (hs : s.size ≤ 100) : PCall Tryz.prog gl 162 [.pv (.str s)] (.pv (gFlag s).pv) := by
  refine k_api_givenFlag.pcall (by simp) (by simp) (by simp) fun hwf => ?_
  simp [c_api_givenFlag]
  refine ⟨by have : (⟨#[114, 46]⟩ : ByteArray).size = 2 := rfl; simp only [maxLen]; omega, ?_⟩
  refine CallNext.pure (p_givenVar gl _ _) fun _ => ?_
  simp
  rfl

/-! ### An instruction is added -/
def gIns (s : ByteArray) (mask mtch : Int) (o : List Opnd) (e : List Eff) (unit busy lat slots : Int) : Ins_ := { name := s, mask := mask, mtch := mtch, operands := o, effects := e, unit := unit, busy := busy, latency := lat, slots := slots }
/-- A machine under way: its box. -/
@[simp] def mbox (t : Nat) (cs : List DV) (is : List PV) : Ob := .box (cs ++ [.own t 9 is])
def gMatch (n : Nat) (k : Int) : Int := shlI .u64 (IntKind.u64.wrap n) k
theorem p_add0 (gl : Glob) (c0 c1 c2 c3 c4 c5 : PV) (is : List Ins_) (hl : is.length ≤ 60) (s : ByteArray) (un bu la sl : Int) {os es : List PV} {ol : List Opnd} {el : List Eff} [ho : IsMap Opnd.pv os ol] [he : IsMap Eff.pv es el] (js : List Ins_) (hj : js = is ++ [gIns s 4227858432 (gMatch is.length 26) ol el un bu la sl]) :
    ACall Tryz.prog gl (.func 142) 2 [.pv (.str s), .pv (.int .i64 un), .pv (.int .i64 bu), .pv (.int .i64 la), .pv (.int .i64 sl), .pv (.lst 6 os), .pv (.lst 21 es), .ptr 0 0] [(0, .box [.pv c0, .pv c1, .pv c2, .pv c3, .pv c4, .pv c5, .own 1 9 (is.map Ins_.pv)]), (1, .tip 9 is.length)]
      (.tup []) [(0, .box [.pv c0, .pv c1, .pv c2, .pv c3, .pv c4, .pv c5, .own 1 9 (js.map Ins_.pv)]), (1, .tip 9 js.length)] 2 := by
  obtain rfl := ho.eq
  obtain rfl := he.eq
  refine k_api_givenRisc_1.acall (by simp) (by simp) (by simp) (by simp) (by simp) (by simp) fun hwf => ?_
  simp [c_api_givenRisc_1]
  refine ⟨by omega, [0, 1], ?_⟩
  subst hj
  simp [gIns, gMatch, Ins_.pv_eq]
/-- In the two-address machine. -/
theorem p_add1 (gl : Glob) (c0 c1 c2 c3 c4 c5 : PV) (is : List Ins_) (hl : is.length ≤ 60) (s : ByteArray) (la : Int) {os es : List PV} {ol : List Opnd} {el : List Eff} [ho : IsMap Opnd.pv os ol] [he : IsMap Eff.pv es el] (js : List Ins_) (hj : js = is ++ [gIns s 64512 (gMatch is.length 10) ol el 0 1 la 0]) :
    ACall Tryz.prog gl (.func 159) 2 [.ptr 0 0, .pv (.str s), .pv (.int .i64 la), .pv (.lst 6 os), .pv (.lst 21 es)] [(0, .box [.pv c0, .pv c1, .pv c2, .pv c3, .pv c4, .pv c5, .own 1 9 (is.map Ins_.pv)]), (1, .tip 9 is.length)]
      (.tup []) [(0, .box [.pv c0, .pv c1, .pv c2, .pv c3, .pv c4, .pv c5, .own 1 9 (js.map Ins_.pv)]), (1, .tip 9 js.length)] 2 := by
  obtain rfl := ho.eq
  obtain rfl := he.eq
  refine k_api_givenAdd.acall (by simp) (by simp) (by simp) (by simp) (by simp) (by simp) fun hwf => ?_
  simp [c_api_givenAdd]
  refine ⟨by omega, [0, 1], ?_⟩
  subst hj
  simp [gIns, gMatch, Ins_.pv_eq]
theorem dadd0 {gl : Glob} {n1 : Nat} {pr : List (List Nat)} {K : St → Prop} {r : List Ins} {acc : Rl} {s : St} {dst : Option Nat} {b t : Nat} {c0 c1 c2 c3 c4 c5 : PV} {is : List Ins_} {k : Nat} {nm : ByteArray} {un bu la sl : Int} {os es : List PV} {ol : List Opnd} {el : List Eff} [ho : IsMap Opnd.pv os ol] [he : IsMap Eff.pv es el] (hl : is.length = k) (h60 : k ≤ 60)
    (hb : hget s.h b = some (.box [.pv c0, .pv c1, .pv c2, .pv c3, .pv c4, .pv c5, .own t 9 (is.map Ins_.pv)])) (ht : hget s.h t = some (.tip 9 k)) (hbt : b ≠ t)
    (hk : ∀ js : List Ins_, js = is ++ [gIns nm 4227858432 (gMatch k 26) ol el un bu la sl] → js.length = k + 1 → dvc Tryz.prog gl n1 pr K r (([b, t], [b, t]) :: acc) ⟨eput s.e dst (.tup []), upd s.h [(b, .box [.pv c0, .pv c1, .pv c2, .pv c3, .pv c4, .pv c5, .own t 9 (js.map Ins_.pv)]), (t, .tip 9 (k + 1))], s.nx + 1⟩) :
    DCallNext Tryz.prog gl n1 pr K r acc s dst (.func 142) [.pv (.str nm), .pv (.int .i64 un), .pv (.int .i64 bu), .pv (.int .i64 la), .pv (.int .i64 sl), .pv (.lst 6 os), .pv (.lst 21 es), .ptr b 0] := by
  have hlen : (is ++ [gIns nm 4227858432 (gMatch k 26) ol el un bu la sl]).length = k + 1 := by simp [hl]
  have hc := p_add0 gl c0 c1 c2 c3 c4 c5 is (by omega) nm un bu la sl (os := os) (es := es) _ rfl
  rw [hl, hlen] at hc
  refine DCallNext.obs' [b, t] hc rfl (by simp [hbt]) (by simp) (by simp [rh]) (by simp) (by simp [sameH, rh, hb, ht, hbt]) ?_
  have := hk _ rfl hlen
  simpa [rh, renH] using this
theorem cdadd0 {gl : Glob} {K : St → Prop} {s : St} {dst : Option Nat} {b t : Nat} {c0 c1 c2 c3 c4 c5 : PV} {is : List Ins_} {k : Nat} {nm : ByteArray} {un bu la sl : Int} {os es : List PV} {ol : List Opnd} {el : List Eff} [ho : IsMap Opnd.pv os ol] [he : IsMap Eff.pv es el] (hl : is.length = k) (h60 : k ≤ 60)
    (hb : hget s.h b = some (.box [.pv c0, .pv c1, .pv c2, .pv c3, .pv c4, .pv c5, .own t 9 (is.map Ins_.pv)])) (ht : hget s.h t = some (.tip 9 k)) (hbt : b ≠ t) (hbn : b < s.nx) (htn : t < s.nx)
    (hk : ∀ js : List Ins_, js = is ++ [gIns nm 4227858432 (gMatch k 26) ol el un bu la sl] → js.length = k + 1 → K ⟨eput s.e dst (.tup []), (b, .box [.pv c0, .pv c1, .pv c2, .pv c3, .pv c4, .pv c5, .own t 9 (js.map Ins_.pv)]) :: (t, .tip 9 (k + 1)) :: dropH [b, t] s.h, s.nx⟩) :
    CallNext Tryz.prog gl (.func 142) [.pv (.str nm), .pv (.int .i64 un), .pv (.int .i64 bu), .pv (.int .i64 la), .pv (.int .i64 sl), .pv (.lst 6 os), .pv (.lst 21 es), .ptr b 0] s dst K := by
  have hlen : (is ++ [gIns nm 4227858432 (gMatch k 26) ol el un bu la sl]).length = k + 1 := by simp [hl]
  have hc := p_add0 gl c0 c1 c2 c3 c4 c5 is (by omega) nm un bu la sl (os := os) (es := es) _ rfl
  rw [hl, hlen] at hc
  refine CallNext.obs [b, t] hc (by simp [hbt]) (by simp [hbn, htn]) (by simp [rh]) (by simp [sameH, rh, hb, ht, hbt]) fun _ => ?_
  have := hk _ rfl hlen
  simpa [rh, renH] using this
theorem dadd1 {gl : Glob} {n1 : Nat} {pr : List (List Nat)} {K : St → Prop} {r : List Ins} {acc : Rl} {s : St} {dst : Option Nat} {b t : Nat} {c0 c1 c2 c3 c4 c5 : PV} {is : List Ins_} {k : Nat} {nm : ByteArray} {la : Int} {os es : List PV} {ol : List Opnd} {el : List Eff} [ho : IsMap Opnd.pv os ol] [he : IsMap Eff.pv es el] (hl : is.length = k) (h60 : k ≤ 60)
    (hb : hget s.h b = some (.box [.pv c0, .pv c1, .pv c2, .pv c3, .pv c4, .pv c5, .own t 9 (is.map Ins_.pv)])) (ht : hget s.h t = some (.tip 9 k)) (hbt : b ≠ t)
    (hk : ∀ js : List Ins_, js = is ++ [gIns nm 64512 (gMatch k 10) ol el 0 1 la 0] → js.length = k + 1 → dvc Tryz.prog gl n1 pr K r (([b, t], [b, t]) :: acc) ⟨eput s.e dst (.tup []), upd s.h [(b, .box [.pv c0, .pv c1, .pv c2, .pv c3, .pv c4, .pv c5, .own t 9 (js.map Ins_.pv)]), (t, .tip 9 (k + 1))], s.nx + 1⟩) :
    DCallNext Tryz.prog gl n1 pr K r acc s dst (.func 159) [.ptr b 0, .pv (.str nm), .pv (.int .i64 la), .pv (.lst 6 os), .pv (.lst 21 es)] := by
  have hlen : (is ++ [gIns nm 64512 (gMatch k 10) ol el 0 1 la 0]).length = k + 1 := by simp [hl]
  have hc := p_add1 gl c0 c1 c2 c3 c4 c5 is (by omega) nm la (os := os) (es := es) _ rfl
  rw [hl, hlen] at hc
  refine DCallNext.obs' [b, t] hc rfl (by simp [hbt]) (by simp) (by simp [rh]) (by simp) (by simp [sameH, rh, hb, ht, hbt]) ?_
  have := hk _ rfl hlen
  simpa [rh, renH] using this
theorem cdadd1 {gl : Glob} {K : St → Prop} {s : St} {dst : Option Nat} {b t : Nat} {c0 c1 c2 c3 c4 c5 : PV} {is : List Ins_} {k : Nat} {nm : ByteArray} {la : Int} {os es : List PV} {ol : List Opnd} {el : List Eff} [ho : IsMap Opnd.pv os ol] [he : IsMap Eff.pv es el] (hl : is.length = k) (h60 : k ≤ 60)
    (hb : hget s.h b = some (.box [.pv c0, .pv c1, .pv c2, .pv c3, .pv c4, .pv c5, .own t 9 (is.map Ins_.pv)])) (ht : hget s.h t = some (.tip 9 k)) (hbt : b ≠ t) (hbn : b < s.nx) (htn : t < s.nx)
    (hk : ∀ js : List Ins_, js = is ++ [gIns nm 64512 (gMatch k 10) ol el 0 1 la 0] → js.length = k + 1 → K ⟨eput s.e dst (.tup []), (b, .box [.pv c0, .pv c1, .pv c2, .pv c3, .pv c4, .pv c5, .own t 9 (js.map Ins_.pv)]) :: (t, .tip 9 (k + 1)) :: dropH [b, t] s.h, s.nx⟩) :
    CallNext Tryz.prog gl (.func 159) [.ptr b 0, .pv (.str nm), .pv (.int .i64 la), .pv (.lst 6 os), .pv (.lst 21 es)] s dst K := by
  have hlen : (is ++ [gIns nm 64512 (gMatch k 10) ol el 0 1 la 0]).length = k + 1 := by simp [hl]
  have hc := p_add1 gl c0 c1 c2 c3 c4 c5 is (by omega) nm la (os := os) (es := es) _ rfl
  rw [hl, hlen] at hc
  refine CallNext.obs [b, t] hc (by simp [hbt]) (by simp [hbn, htn]) (by simp [rh]) (by simp [sameH, rh, hb, ht, hbt]) fun _ => ?_
  have := hk _ rfl hlen
  simpa [rh, renH] using this
instance (a b : Int) (l : List PV) (xs : List Piece) [h : IsMap Piece.pv l xs] : IsMap Piece.pv (.agg [.int .i64 a, .int .i64 b] :: l) (⟨a, b⟩ :: xs) := ⟨by rw [h.eq]; rfl⟩
theorem CallNext.data {P : Program} {gl : Glob} {f : FuncId} {ds : List DV} {s : St} {dst : Option Nat} {K : St → Prop} {d : DV} (h : PCall P gl f ds d) (hk : K ⟨eput s.e dst d, s.h, s.nx⟩) : CallNext P gl (.func f) ds s dst K := .pure h fun _ => hk
end Go.Proofs.YteiampdhhigjcaaGreatDoorV

/- The given machine 0 (load-store). -/
namespace Go.Proofs.YteiampdhhigjcaaGreatDoorV
open Go
set_option maxRecDepth 100000
set_option maxHeartbeats 4000000

theorem wrap_small {k : IntKind} {n : Int} (h0 : 0 ≤ n) (h1 : n < 128) : k.wrap n = n := by
  have : ∀ i : Fin 128, k.wrap (i.val : Int) = i.val := by cases k <;> decide
  obtain ⟨m, rfl⟩ := Int.eq_ofNat_of_zero_le h0
  exact this ⟨m, by omega⟩
@[simp] theorem bytesOf_u8 {n : Int} {r : List PV} : bytesOf (.int .u8 n :: r) = (bytesOf r).map (UInt8.ofNat n.toNat :: ·) := rfl
@[simp] theorem bytesOf_nil : bytesOf [] = some [] := rfl
def gNames : List ByteArray := [⟨#[114, 48]⟩, ⟨#[114, 49]⟩, ⟨#[114, 50]⟩, ⟨#[114, 51]⟩, ⟨#[114, 52]⟩, ⟨#[114, 53]⟩, ⟨#[114, 54]⟩, ⟨#[114, 55]⟩, ⟨#[114, 56]⟩, ⟨#[114, 57]⟩, ⟨#[114, 49, 48]⟩, ⟨#[114, 49, 49]⟩, ⟨#[114, 49, 50]⟩, ⟨#[114, 49, 51]⟩]
theorem p_givenNames_r (gl : Glob) : ACall Tryz.prog gl (.func 129) 0 [.pv (.str ⟨#[114]⟩), .pv (.int .i64 14)] [] (.own 0 1 (gNames.map .str)) [(0, .tip 1 14)] 1 := by
  refine k_api_givenNames.acall (by simp) (by simp) (by simp) (by simp) (by simp) (by simp) fun hwf => ?_
  simp [c_api_givenNames]
  refine Loop.rounds 14 ?_
  repeat (first | (rw [LoopN_succ]; simp [wrap_small]) | refine ⟨by decide, ?_⟩)
  exact ⟨rfl, [0], rfl⟩
def regs0 : List Reg := (gNames ++ [ByteArray.mk #[115, 112], ByteArray.mk #[108, 114]]).map fun s => { name := s, width := 32, of := -1, low := 0 }
def gRegs0 : List PV := regs0.map Reg.pv
def banks0 : List Bank := [{ name := ⟨#[103, 112, 114]⟩, regs := [0, 1, 2, 3, 4, 5, 6, 7, 8, 9, 10, 11, 12, 13, 14, 15] }]
def gBanks0 : List PV := banks0.map Bank.pv
def units0 : List Unt := [{ name := ⟨#[97, 108, 117]⟩, count := 1 }, { name := ⟨#[109, 101, 109]⟩, count := 1 }, { name := ⟨#[109, 117, 108]⟩, count := 1 }]
def gUnits0 : List PV := units0.map Unt.pv
theorem p_givenJump0 (gl : Glob) (v : Tm) : PCall Tryz.prog gl 139 [.pv v.pv, .pv (.agg [.int .u8 0, .int .i64 0, .int .u64 0, .str ⟨#[]⟩, .int .i64 0, .lst 6 []])] (.pv (gJump v gNone).pv) := by
  have h : gNone.pv = .agg [.int .u8 0, .int .i64 0, .int .u64 0, .str ⟨#[]⟩, .int .i64 0, .lst 6 []] := by rw [Tm.pv_eq]; rfl
  rw [← h]
  exact p_givenJump gl v gNone
theorem p_long (gl : Glob) (x : Tm) : PCall Tryz.prog gl 143 [.pv x.pv] (.pv (gOp 22 32 [x]).pv) := by
  refine k_api_givenRisc_2.pcall (by simp) (by simp) (by simp) fun hwf => ?_
  simp [c_api_givenRisc_2]
  refine CallNext.data (p_givenOp gl _ _) ?_
  simp
def instrs0 : List Ins_ :=
  [gIns { data := #[97, 100, 100] } 4227858432 (gMatch 0 26) [gField { data := #[100] } 1 0 0 [{ at_ := 22, len := 4 }], gField { data := #[97] } 1 0 0 [{ at_ := 18, len := 4 }], gField { data := #[98] } 1 0 0 [{ at_ := 14, len := 4 }]] [gSet 0 (gOp 5 32 [gVar { data := #[97] } 32, gVar { data := #[98] } 32])] 0 1 1 0,
   gIns { data := #[115, 117, 98] } 4227858432 (gMatch 1 26) [gField { data := #[100] } 1 0 0 [{ at_ := 22, len := 4 }], gField { data := #[97] } 1 0 0 [{ at_ := 18, len := 4 }], gField { data := #[98] } 1 0 0 [{ at_ := 14, len := 4 }]] [gSet 0 (gOp 6 32 [gVar { data := #[97] } 32, gVar { data := #[98] } 32])] 0 1 1 0,
   gIns { data := #[97, 110, 100] } 4227858432 (gMatch 2 26) [gField { data := #[100] } 1 0 0 [{ at_ := 22, len := 4 }], gField { data := #[97] } 1 0 0 [{ at_ := 18, len := 4 }], gField { data := #[98] } 1 0 0 [{ at_ := 14, len := 4 }]] [gSet 0 (gOp 8 32 [gVar { data := #[97] } 32, gVar { data := #[98] } 32])] 0 1 1 0,
   gIns { data := #[111, 114] } 4227858432 (gMatch 3 26) [gField { data := #[100] } 1 0 0 [{ at_ := 22, len := 4 }], gField { data := #[97] } 1 0 0 [{ at_ := 18, len := 4 }], gField { data := #[98] } 1 0 0 [{ at_ := 14, len := 4 }]] [gSet 0 (gOp 9 32 [gVar { data := #[97] } 32, gVar { data := #[98] } 32])] 0 1 1 0,
   gIns { data := #[120, 111, 114] } 4227858432 (gMatch 4 26) [gField { data := #[100] } 1 0 0 [{ at_ := 22, len := 4 }], gField { data := #[97] } 1 0 0 [{ at_ := 18, len := 4 }], gField { data := #[98] } 1 0 0 [{ at_ := 14, len := 4 }]] [gSet 0 (gOp 10 32 [gVar { data := #[97] } 32, gVar { data := #[98] } 32])] 0 1 1 0,
   gIns { data := #[115, 104, 108] } 4227858432 (gMatch 5 26) [gField { data := #[100] } 1 0 0 [{ at_ := 22, len := 4 }], gField { data := #[97] } 1 0 0 [{ at_ := 18, len := 4 }], gField { data := #[98] } 1 0 0 [{ at_ := 14, len := 4 }]] [gSet 0 (gOp 11 32 [gVar { data := #[97] } 32, gVar { data := #[98] } 32])] 0 1 1 0,
   gIns { data := #[115, 104, 114] } 4227858432 (gMatch 6 26) [gField { data := #[100] } 1 0 0 [{ at_ := 22, len := 4 }], gField { data := #[97] } 1 0 0 [{ at_ := 18, len := 4 }], gField { data := #[98] } 1 0 0 [{ at_ := 14, len := 4 }]] [gSet 0 (gOp 12 32 [gVar { data := #[97] } 32, gVar { data := #[98] } 32])] 0 1 1 0,
   gIns { data := #[115, 97, 114] } 4227858432 (gMatch 7 26) [gField { data := #[100] } 1 0 0 [{ at_ := 22, len := 4 }], gField { data := #[97] } 1 0 0 [{ at_ := 18, len := 4 }], gField { data := #[98] } 1 0 0 [{ at_ := 14, len := 4 }]] [gSet 0 (gOp 13 32 [gVar { data := #[97] } 32, gVar { data := #[98] } 32])] 0 1 1 0,
   gIns { data := #[109, 117, 108] } 4227858432 (gMatch 8 26) [gField { data := #[100] } 1 0 0 [{ at_ := 22, len := 4 }], gField { data := #[97] } 1 0 0 [{ at_ := 18, len := 4 }], gField { data := #[98] } 1 0 0 [{ at_ := 14, len := 4 }]] [gSet 0 (gOp 7 32 [gVar { data := #[97] } 32, gVar { data := #[98] } 32])] 2 1 4 0,
   gIns { data := #[117, 100, 105, 118] } 4227858432 (gMatch 9 26) [gField { data := #[100] } 1 0 0 [{ at_ := 22, len := 4 }], gField { data := #[97] } 1 0 0 [{ at_ := 18, len := 4 }], gField { data := #[98] } 1 0 0 [{ at_ := 14, len := 4 }]] [gSet 0 (gOp 14 32 [gVar { data := #[97] } 32, gVar { data := #[98] } 32])] 2 8 8 0,
   gIns { data := #[117, 114, 101, 109] } 4227858432 (gMatch 10 26) [gField { data := #[100] } 1 0 0 [{ at_ := 22, len := 4 }], gField { data := #[97] } 1 0 0 [{ at_ := 18, len := 4 }], gField { data := #[98] } 1 0 0 [{ at_ := 14, len := 4 }]] [gSet 0 (gOp 15 32 [gVar { data := #[97] } 32, gVar { data := #[98] } 32])] 2 8 8 0,
   gIns { data := #[97, 100, 100, 105] } 4227858432 (gMatch 11 26) [gField { data := #[100] } 1 0 0 [{ at_ := 22, len := 4 }], gField { data := #[97] } 1 0 0 [{ at_ := 18, len := 4 }], gField { data := #[110] } 2 0 0 [{ at_ := 0, len := 16 }]] [gSet 0 (gOp 5 32 [gVar { data := #[97] } 32, gVar { data := #[110] } 32])] 0 1 1 0,
   gIns { data := #[97, 110, 100, 105] } 4227858432 (gMatch 12 26) [gField { data := #[100] } 1 0 0 [{ at_ := 22, len := 4 }], gField { data := #[97] } 1 0 0 [{ at_ := 18, len := 4 }], gField { data := #[110] } 3 0 0 [{ at_ := 0, len := 16 }]] [gSet 0 (gOp 8 32 [gVar { data := #[97] } 32, gVar { data := #[110] } 32])] 0 1 1 0,
   gIns { data := #[111, 114, 105] } 4227858432 (gMatch 13 26) [gField { data := #[100] } 1 0 0 [{ at_ := 22, len := 4 }], gField { data := #[97] } 1 0 0 [{ at_ := 18, len := 4 }], gField { data := #[110] } 3 0 0 [{ at_ := 0, len := 16 }]] [gSet 0 (gOp 9 32 [gVar { data := #[97] } 32, gVar { data := #[110] } 32])] 0 1 1 0,
   gIns { data := #[120, 111, 114, 105] } 4227858432 (gMatch 14 26) [gField { data := #[100] } 1 0 0 [{ at_ := 22, len := 4 }], gField { data := #[97] } 1 0 0 [{ at_ := 18, len := 4 }], gField { data := #[110] } 3 0 0 [{ at_ := 0, len := 16 }]] [gSet 0 (gOp 10 32 [gVar { data := #[97] } 32, gVar { data := #[110] } 32])] 0 1 1 0,
   gIns { data := #[115, 104, 108, 105] } 4227858432 (gMatch 15 26) [gField { data := #[100] } 1 0 0 [{ at_ := 22, len := 4 }], gField { data := #[97] } 1 0 0 [{ at_ := 18, len := 4 }], gField { data := #[110] } 3 0 0 [{ at_ := 0, len := 5 }]] [gSet 0 (gOp 11 32 [gVar { data := #[97] } 32, gVar { data := #[110] } 32])] 0 1 1 0,
   gIns { data := #[115, 104, 114, 105] } 4227858432 (gMatch 16 26) [gField { data := #[100] } 1 0 0 [{ at_ := 22, len := 4 }], gField { data := #[97] } 1 0 0 [{ at_ := 18, len := 4 }], gField { data := #[110] } 3 0 0 [{ at_ := 0, len := 5 }]] [gSet 0 (gOp 12 32 [gVar { data := #[97] } 32, gVar { data := #[110] } 32])] 0 1 1 0,
   gIns { data := #[115, 97, 114, 105] } 4227858432 (gMatch 17 26) [gField { data := #[100] } 1 0 0 [{ at_ := 22, len := 4 }], gField { data := #[97] } 1 0 0 [{ at_ := 18, len := 4 }], gField { data := #[110] } 3 0 0 [{ at_ := 0, len := 5 }]] [gSet 0 (gOp 13 32 [gVar { data := #[97] } 32, gVar { data := #[110] } 32])] 0 1 1 0,
   gIns { data := #[108, 117, 105] } 4227858432 (gMatch 18 26) [gField { data := #[100] } 1 0 0 [{ at_ := 22, len := 4 }], gField { data := #[110] } 3 0 0 [{ at_ := 0, len := 16 }]] [gSet 0 (gOp 11 32 [gVar { data := #[110] } 32, gNum 32 16])] 0 1 1 0,
   gIns { data := #[108, 119] } 4227858432 (gMatch 19 26) [gField { data := #[100] } 1 0 0 [{ at_ := 22, len := 4 }], gField { data := #[97] } 1 0 0 [{ at_ := 18, len := 4 }], gField { data := #[110] } 2 0 0 [{ at_ := 0, len := 16 }]] [gSet 0 (gOp 24 32 [gOp 5 32 [gVar { data := #[97] } 32, gVar { data := #[110] } 32]])] 1 1 2 0,
   gIns { data := #[108, 98] } 4227858432 (gMatch 20 26) [gField { data := #[100] } 1 0 0 [{ at_ := 22, len := 4 }], gField { data := #[97] } 1 0 0 [{ at_ := 18, len := 4 }], gField { data := #[110] } 2 0 0 [{ at_ := 0, len := 16 }]] [gSet 0 (gOp 23 32 [gOp 24 8 [gOp 5 32 [gVar { data := #[97] } 32, gVar { data := #[110] } 32]]])] 1 1 2 0,
   gIns { data := #[108, 98, 117] } 4227858432 (gMatch 21 26) [gField { data := #[100] } 1 0 0 [{ at_ := 22, len := 4 }], gField { data := #[97] } 1 0 0 [{ at_ := 18, len := 4 }], gField { data := #[110] } 2 0 0 [{ at_ := 0, len := 16 }]] [gSet 0 (gOp 22 32 [gOp 24 8 [gOp 5 32 [gVar { data := #[97] } 32, gVar { data := #[110] } 32]]])] 1 1 2 0,
   gIns { data := #[108, 104, 117] } 4227858432 (gMatch 22 26) [gField { data := #[100] } 1 0 0 [{ at_ := 22, len := 4 }], gField { data := #[97] } 1 0 0 [{ at_ := 18, len := 4 }], gField { data := #[110] } 2 0 0 [{ at_ := 0, len := 16 }]] [gSet 0 (gOp 22 32 [gOp 24 16 [gOp 5 32 [gVar { data := #[97] } 32, gVar { data := #[110] } 32]]])] 1 1 2 0,
   gIns { data := #[115, 119] } 4227858432 (gMatch 23 26) [gField { data := #[100] } 1 0 0 [{ at_ := 22, len := 4 }], gField { data := #[97] } 1 0 0 [{ at_ := 18, len := 4 }], gField { data := #[110] } 2 0 0 [{ at_ := 0, len := 16 }]] [gStore (gOp 5 32 [gVar { data := #[97] } 32, gVar { data := #[110] } 32]) (gVar { data := #[100] } 32)] 1 1 1 0,
   gIns { data := #[115, 104] } 4227858432 (gMatch 24 26) [gField { data := #[100] } 1 0 0 [{ at_ := 22, len := 4 }], gField { data := #[97] } 1 0 0 [{ at_ := 18, len := 4 }], gField { data := #[110] } 2 0 0 [{ at_ := 0, len := 16 }]] [gStore (gOp 5 32 [gVar { data := #[97] } 32, gVar { data := #[110] } 32]) (gOp 21 16 [gVar { data := #[100] } 32])] 1 1 1 0,
   gIns { data := #[115, 98] } 4227858432 (gMatch 25 26) [gField { data := #[100] } 1 0 0 [{ at_ := 22, len := 4 }], gField { data := #[97] } 1 0 0 [{ at_ := 18, len := 4 }], gField { data := #[110] } 2 0 0 [{ at_ := 0, len := 16 }]] [gStore (gOp 5 32 [gVar { data := #[97] } 32, gVar { data := #[110] } 32]) (gOp 21 8 [gVar { data := #[100] } 32])] 1 1 1 0,
   gIns { data := #[101, 113] } 4227858432 (gMatch 26 26) [gField { data := #[100] } 1 0 0 [{ at_ := 22, len := 4 }], gField { data := #[97] } 1 0 0 [{ at_ := 18, len := 4 }], gField { data := #[98] } 1 0 0 [{ at_ := 14, len := 4 }]] [gSet 0 (gOp 22 32 [gOp 16 1 [gVar { data := #[97] } 32, gVar { data := #[98] } 32]])] 0 1 1 0,
   gIns { data := #[117, 108, 116] } 4227858432 (gMatch 27 26) [gField { data := #[100] } 1 0 0 [{ at_ := 22, len := 4 }], gField { data := #[97] } 1 0 0 [{ at_ := 18, len := 4 }], gField { data := #[98] } 1 0 0 [{ at_ := 14, len := 4 }]] [gSet 0 (gOp 22 32 [gOp 17 1 [gVar { data := #[97] } 32, gVar { data := #[98] } 32]])] 0 1 1 0,
   gIns { data := #[115, 108, 116] } 4227858432 (gMatch 28 26) [gField { data := #[100] } 1 0 0 [{ at_ := 22, len := 4 }], gField { data := #[97] } 1 0 0 [{ at_ := 18, len := 4 }], gField { data := #[98] } 1 0 0 [{ at_ := 14, len := 4 }]] [gSet 0 (gOp 22 32 [gOp 18 1 [gVar { data := #[97] } 32, gVar { data := #[98] } 32]])] 0 1 1 0,
   gIns { data := #[98, 101, 113] } 4227858432 (gMatch 29 26) [gField { data := #[97] } 1 0 0 [{ at_ := 18, len := 4 }], gField { data := #[98] } 1 0 0 [{ at_ := 14, len := 4 }], gField { data := #[116, 111] } 4 0 0 [{ at_ := 0, len := 14 }]] [gJump (gVar { data := #[116, 111] } 32) (gOp 16 1 [gVar { data := #[97] } 32, gVar { data := #[98] } 32])] 0 1 1 1,
   gIns { data := #[98, 110, 101] } 4227858432 (gMatch 30 26) [gField { data := #[97] } 1 0 0 [{ at_ := 18, len := 4 }], gField { data := #[98] } 1 0 0 [{ at_ := 14, len := 4 }], gField { data := #[116, 111] } 4 0 0 [{ at_ := 0, len := 14 }]] [gJump (gVar { data := #[116, 111] } 32) (gOp 3 1 [gOp 16 1 [gVar { data := #[97] } 32, gVar { data := #[98] } 32]])] 0 1 1 1,
   gIns { data := #[98, 108, 116] } 4227858432 (gMatch 31 26) [gField { data := #[97] } 1 0 0 [{ at_ := 18, len := 4 }], gField { data := #[98] } 1 0 0 [{ at_ := 14, len := 4 }], gField { data := #[116, 111] } 4 0 0 [{ at_ := 0, len := 14 }]] [gJump (gVar { data := #[116, 111] } 32) (gOp 18 1 [gVar { data := #[97] } 32, gVar { data := #[98] } 32])] 0 1 1 1,
   gIns { data := #[106, 117, 109, 112] } 4227858432 (gMatch 32 26) [gField { data := #[116, 111] } 4 0 0 [{ at_ := 0, len := 26 }]] [gJump (gVar { data := #[116, 111] } 32) gNone] 0 1 1 1,
   gIns { data := #[99, 97, 108, 108] } 4227858432 (gMatch 33 26) [gField { data := #[116, 111] } 4 0 0 [{ at_ := 0, len := 26 }]] [gFixed 15 (gOp 5 32 [gVar { data := #[112, 99] } 32, gNum 32 8]), gJump (gVar { data := #[116, 111] } 32) gNone] 0 1 1 1,
   gIns { data := #[106, 114] } 4227858432 (gMatch 34 26) [gField { data := #[97] } 1 0 0 [{ at_ := 18, len := 4 }]] [gJump (gVar { data := #[97] } 32) gNone] 0 1 1 1,
   gIns { data := #[116, 114, 97, 112] } 4227858432 (gMatch 35 26) [gField { data := #[110] } 3 0 0 [{ at_ := 0, len := 16 }]] [gTrap (gVar { data := #[110] } 32)] 0 1 1 0,
   gIns { data := #[116, 101, 108, 108] } 4227858432 (gMatch 36 26) [gField { data := #[97] } 1 0 0 [{ at_ := 18, len := 4 }]] [gTrap (gOp 20 33 [gNum 1 1, gVar { data := #[97] } 32])] 0 1 1 0,
   gIns { data := #[104, 97, 108, 116] } 4227858432 (gMatch 37 26) [gField { data := #[97] } 1 0 0 [{ at_ := 18, len := 4 }]] [gTrap (gVar { data := #[97] } 32)] 0 1 1 0,
   gIns { data := #[110, 111, 112] } 4227858432 (gMatch 38 26) [] [] 0 1 1 0,
   gIns { data := #[108, 105] } 4227858432 (gMatch 39 26) [gField { data := #[100] } 1 0 0 [{ at_ := 22, len := 4 }], gField { data := #[110] } 2 0 0 [{ at_ := 0, len := 16 }]] [gSet 0 (gVar { data := #[110] } 32)] 0 1 1 0]
def given0 : Mach := { name := ⟨#[114, 105, 115, 99]⟩, word := 4, address := 32, regs := regs0, banks := banks0, units := units0, instrs := instrs0 }
theorem p_givenRisc (gl : Glob) : PCall Tryz.prog gl 98 [] (.pv given0.pv) := by
  refine k_api_givenRisc.pcall (by simp) (by simp) (by simp) fun hwf => ?_
  simp [c_api_givenRisc]
  simp [c_api_givenRisc_s46]
  simp [c_api_givenRisc_s45]
  simp [c_api_givenRisc_s44]
  refine CallNext.obs [] (p_givenNames_r gl) (by simp) (by simp) (by simp) (by simp) fun _ => ?_
  simp
  simp [gNames]
  refine Loop.rounds 16 ?_
  repeat (first | (rw [LoopN_succ]; simp [wrap_small, nth]))
  simp [c_api_givenRisc_s43]
  change vc _ _ _ _ _ { e := _, h := [_, (1, .box [_, _, _, .pv (.lst 4 gRegs0), .pv (.lst 2 gBanks0), .pv (.lst 2 gUnits0), .own 6 9 (([] : List Ins_).map Ins_.pv)]), _, _, _, _, (6, .tip 9 0)], nx := _ }
  generalize hi0 : ([] : List Ins_) = i0
  have hl : i0.length = 0 := by rw [← hi0]; rfl
  simp [c_api_givenRisc_s42]
  repeat (first
    | refine DCallNext.pure (p_givenField gl _ _ _ _) ?_
    | refine CallNext.data (p_givenField gl _ _ _ _) ?_
    | refine DCallNext.pure (p_givenVar gl _ _) ?_
    | refine CallNext.data (p_givenVar gl _ _) ?_
    | refine DCallNext.pure (p_givenOp gl _ _) ?_
    | refine CallNext.data (p_givenOp gl _ _) ?_
    | refine DCallNext.pure (p_givenNum gl _ _) ?_
    | refine CallNext.data (p_givenNum gl _ _) ?_
    | refine DCallNext.pure (p_givenTied gl _ _ _) ?_
    | refine CallNext.data (p_givenTied gl _ _ _) ?_
    | refine DCallNext.pure (p_givenSet gl _ _) ?_
    | refine CallNext.data (p_givenSet gl _ _) ?_
    | refine DCallNext.pure (p_givenFixed gl _ _) ?_
    | refine CallNext.data (p_givenFixed gl _ _) ?_
    | refine DCallNext.pure (p_givenStore gl _ _) ?_
    | refine CallNext.data (p_givenStore gl _ _) ?_
    | refine DCallNext.pure (p_givenJump0 gl _) ?_
    | refine CallNext.data (p_givenJump0 gl _) ?_
    | refine DCallNext.pure (p_givenJump gl _ _) ?_
    | refine CallNext.data (p_givenJump gl _ _) ?_
    | refine DCallNext.pure (p_givenTrap gl _) ?_
    | refine CallNext.data (p_givenTrap gl _) ?_
    | refine DCallNext.pure (p_long gl _) ?_
    | refine CallNext.data (p_long gl _) ?_
    | (refine dadd0 (by assumption) (by decide) rfl rfl (by decide) fun js hj hl => ?_)
    | (refine cdadd0 (by assumption) (by decide) rfl rfl (by decide) (by simp) (by simp) fun js hj hl => ?_)
    | refine Loop.rounds 9 ?_
    | rw [LoopN_succ]
    | simp [wrap_small, nth]
    | unfold c_api_givenRisc_s41
    | unfold c_api_givenRisc_s40
    | unfold c_api_givenRisc_s39
    | unfold c_api_givenRisc_s38
    | unfold c_api_givenRisc_s37
    | unfold c_api_givenRisc_s36
    | unfold c_api_givenRisc_s35
    | unfold c_api_givenRisc_s34
    | unfold c_api_givenRisc_s33
    | unfold c_api_givenRisc_s32
    | unfold c_api_givenRisc_s31
    | unfold c_api_givenRisc_s30
    | unfold c_api_givenRisc_s29
    | unfold c_api_givenRisc_s28
    | unfold c_api_givenRisc_s27
    | unfold c_api_givenRisc_s26
    | unfold c_api_givenRisc_s25
    | unfold c_api_givenRisc_s24
    | unfold c_api_givenRisc_s23
    | unfold c_api_givenRisc_s22
    | unfold c_api_givenRisc_s21
    | unfold c_api_givenRisc_s20
    | unfold c_api_givenRisc_s19
    | unfold c_api_givenRisc_s18
    | unfold c_api_givenRisc_s17
    | unfold c_api_givenRisc_s16
    | unfold c_api_givenRisc_s15
    | unfold c_api_givenRisc_s14
    | unfold c_api_givenRisc_s13
    | unfold c_api_givenRisc_s12
    | unfold c_api_givenRisc_s11
    | unfold c_api_givenRisc_s10
    | unfold c_api_givenRisc_s9
    | unfold c_api_givenRisc_s8
    | unfold c_api_givenRisc_s7
    | unfold c_api_givenRisc_s6
    | unfold c_api_givenRisc_s5
    | unfold c_api_givenRisc_s4
    | unfold c_api_givenRisc_s3
    | unfold c_api_givenRisc_s2
    | unfold c_api_givenRisc_s1)
  clear hwf
  subst_vars
  rfl
end Go.Proofs.YteiampdhhigjcaaGreatDoorV

/- The given machine 1 (two addresses). -/
namespace Go.Proofs.YteiampdhhigjcaaGreatDoorV
open Go
set_option maxRecDepth 100000
set_option maxHeartbeats 4000000

def gInsW : List Ins_ :=
  [gIns { data := #[109, 111, 118] } 64512 (gMatch 0 10) [gField { data := #[100] } 1 0 0 [{ at_ := 7, len := 3 }], gField { data := #[115] } 1 0 0 [{ at_ := 4, len := 3 }]] [gSet 0 (gVar { data := #[115] } 16)] 0 1 1 0,
   gIns { data := #[109, 111, 118, 105] } 64512 (gMatch 1 10) [gField { data := #[100] } 1 0 0 [{ at_ := 7, len := 3 }], gField { data := #[110] } 2 0 0 [{ at_ := 0, len := 7 }]] [gSet 0 (gVar { data := #[110] } 16)] 0 1 1 0,
   gIns { data := #[109, 111, 118, 104] } 64512 (gMatch 2 10) [gField { data := #[100] } 1 0 0 [{ at_ := 7, len := 3 }], gTied { data := #[97] } 0 0, gField { data := #[110] } 2 0 0 [{ at_ := 0, len := 7 }]] [gSet 0 (gOp 9 16 [gOp 11 16 [gVar { data := #[110] } 16, gNum 16 9], gOp 8 16 [gVar { data := #[97] } 16, gNum 16 511]])] 0 1 1 0,
   gIns { data := #[97, 100, 100] } 64512 (gMatch 3 10) [gField { data := #[100] } 1 0 0 [{ at_ := 7, len := 3 }], gTied { data := #[97] } 0 0, gField { data := #[115] } 1 0 0 [{ at_ := 4, len := 3 }]] [gSet 0 (gOp 5 16 [gVar { data := #[97] } 16, gVar { data := #[115] } 16]), gZero (gOp 5 16 [gVar { data := #[97] } 16, gVar { data := #[115] } 16]), gFixed 17 (gOp 17 1 [gOp 5 16 [gVar { data := #[97] } 16, gVar { data := #[115] } 16], gVar { data := #[97] } 16]), gSign (gOp 5 16 [gVar { data := #[97] } 16, gVar { data := #[115] } 16])] 0 1 1 0,
   gIns { data := #[115, 117, 98] } 64512 (gMatch 4 10) [gField { data := #[100] } 1 0 0 [{ at_ := 7, len := 3 }], gTied { data := #[97] } 0 0, gField { data := #[115] } 1 0 0 [{ at_ := 4, len := 3 }]] [gSet 0 (gOp 6 16 [gVar { data := #[97] } 16, gVar { data := #[115] } 16]), gFixed 16 (gOp 16 1 [gVar { data := #[97] } 16, gVar { data := #[115] } 16]), gFixed 17 (gOp 17 1 [gVar { data := #[97] } 16, gVar { data := #[115] } 16]), gFixed 18 (gOp 18 1 [gVar { data := #[97] } 16, gVar { data := #[115] } 16])] 0 1 1 0,
   gIns { data := #[97, 110, 100] } 64512 (gMatch 5 10) [gField { data := #[100] } 1 0 0 [{ at_ := 7, len := 3 }], gTied { data := #[97] } 0 0, gField { data := #[115] } 1 0 0 [{ at_ := 4, len := 3 }]] [gSet 0 (gOp 8 16 [gVar { data := #[97] } 16, gVar { data := #[115] } 16]), gZero (gOp 8 16 [gVar { data := #[97] } 16, gVar { data := #[115] } 16])] 0 1 1 0,
   gIns { data := #[111, 114] } 64512 (gMatch 6 10) [gField { data := #[100] } 1 0 0 [{ at_ := 7, len := 3 }], gTied { data := #[97] } 0 0, gField { data := #[115] } 1 0 0 [{ at_ := 4, len := 3 }]] [gSet 0 (gOp 9 16 [gVar { data := #[97] } 16, gVar { data := #[115] } 16]), gZero (gOp 9 16 [gVar { data := #[97] } 16, gVar { data := #[115] } 16])] 0 1 1 0,
   gIns { data := #[120, 111, 114] } 64512 (gMatch 7 10) [gField { data := #[100] } 1 0 0 [{ at_ := 7, len := 3 }], gTied { data := #[97] } 0 0, gField { data := #[115] } 1 0 0 [{ at_ := 4, len := 3 }]] [gSet 0 (gOp 10 16 [gVar { data := #[97] } 16, gVar { data := #[115] } 16]), gZero (gOp 10 16 [gVar { data := #[97] } 16, gVar { data := #[115] } 16])] 0 1 1 0,
   gIns { data := #[97, 100, 100, 105] } 64512 (gMatch 8 10) [gField { data := #[100] } 1 0 0 [{ at_ := 7, len := 3 }], gTied { data := #[97] } 0 0, gField { data := #[110] } 2 0 0 [{ at_ := 0, len := 7 }]] [gSet 0 (gOp 5 16 [gVar { data := #[97] } 16, gVar { data := #[110] } 16]), gZero (gOp 5 16 [gVar { data := #[97] } 16, gVar { data := #[110] } 16])] 0 1 1 0,
   gIns { data := #[115, 104, 108] } 64512 (gMatch 9 10) [gField { data := #[100] } 1 0 0 [{ at_ := 7, len := 3 }], gTied { data := #[97] } 0 0, gField { data := #[115] } 1 0 0 [{ at_ := 4, len := 3 }]] [gSet 0 (gOp 11 16 [gVar { data := #[97] } 16, gVar { data := #[115] } 16])] 0 1 1 0,
   gIns { data := #[115, 104, 114] } 64512 (gMatch 10 10) [gField { data := #[100] } 1 0 0 [{ at_ := 7, len := 3 }], gTied { data := #[97] } 0 0, gField { data := #[115] } 1 0 0 [{ at_ := 4, len := 3 }]] [gSet 0 (gOp 12 16 [gVar { data := #[97] } 16, gVar { data := #[115] } 16])] 0 1 1 0,
   gIns { data := #[115, 97, 114] } 64512 (gMatch 11 10) [gField { data := #[100] } 1 0 0 [{ at_ := 7, len := 3 }], gTied { data := #[97] } 0 0, gField { data := #[115] } 1 0 0 [{ at_ := 4, len := 3 }]] [gSet 0 (gOp 13 16 [gVar { data := #[97] } 16, gVar { data := #[115] } 16])] 0 1 1 0,
   gIns { data := #[115, 104, 108, 105] } 64512 (gMatch 12 10) [gField { data := #[100] } 1 0 0 [{ at_ := 7, len := 3 }], gTied { data := #[97] } 0 0, gField { data := #[110] } 3 0 0 [{ at_ := 0, len := 4 }]] [gSet 0 (gOp 11 16 [gVar { data := #[97] } 16, gVar { data := #[110] } 16])] 0 1 1 0,
   gIns { data := #[115, 104, 114, 105] } 64512 (gMatch 13 10) [gField { data := #[100] } 1 0 0 [{ at_ := 7, len := 3 }], gTied { data := #[97] } 0 0, gField { data := #[110] } 3 0 0 [{ at_ := 0, len := 4 }]] [gSet 0 (gOp 12 16 [gVar { data := #[97] } 16, gVar { data := #[110] } 16])] 0 1 1 0,
   gIns { data := #[110, 101, 103] } 64512 (gMatch 14 10) [gField { data := #[100] } 1 0 0 [{ at_ := 7, len := 3 }], gTied { data := #[97] } 0 0] [gSet 0 (gOp 4 16 [gVar { data := #[97] } 16])] 0 1 1 0,
   gIns { data := #[110, 111, 116] } 64512 (gMatch 15 10) [gField { data := #[100] } 1 0 0 [{ at_ := 7, len := 3 }], gTied { data := #[97] } 0 0] [gSet 0 (gOp 3 16 [gVar { data := #[97] } 16])] 0 1 1 0,
   gIns { data := #[109, 117, 108] } 64512 (gMatch 16 10) [gField { data := #[100] } 1 0 0 [{ at_ := 7, len := 3 }], gTied { data := #[97] } 0 0, gField { data := #[115] } 1 0 0 [{ at_ := 4, len := 3 }]] [gSet 0 (gOp 7 16 [gVar { data := #[97] } 16, gVar { data := #[115] } 16])] 0 1 6 0,
   gIns { data := #[117, 100, 105, 118] } 64512 (gMatch 17 10) [gField { data := #[100] } 1 0 0 [{ at_ := 7, len := 3 }], gTied { data := #[97] } 0 0, gField { data := #[115] } 1 0 0 [{ at_ := 4, len := 3 }]] [gSet 0 (gOp 14 16 [gVar { data := #[97] } 16, gVar { data := #[115] } 16])] 0 1 12 0,
   gIns { data := #[117, 114, 101, 109] } 64512 (gMatch 18 10) [gField { data := #[100] } 1 0 0 [{ at_ := 7, len := 3 }], gTied { data := #[97] } 0 0, gField { data := #[115] } 1 0 0 [{ at_ := 4, len := 3 }]] [gSet 0 (gOp 15 16 [gVar { data := #[97] } 16, gVar { data := #[115] } 16])] 0 1 12 0,
   gIns { data := #[99, 109, 112] } 64512 (gMatch 19 10) [gField { data := #[100] } 1 0 0 [{ at_ := 7, len := 3 }], gField { data := #[115] } 1 0 0 [{ at_ := 4, len := 3 }]] [gFixed 16 (gOp 16 1 [gVar { data := #[100] } 16, gVar { data := #[115] } 16]), gFixed 17 (gOp 17 1 [gVar { data := #[100] } 16, gVar { data := #[115] } 16]), gFixed 18 (gOp 18 1 [gVar { data := #[100] } 16, gVar { data := #[115] } 16])] 0 1 1 0]
theorem p_givenFlagsWords (gl : Glob) (c0 c1 c2 c3 c4 c5 : PV) : ACall Tryz.prog gl (.func 126) 2 [.ptr 0 0] [(0, .box [.pv c0, .pv c1, .pv c2, .pv c3, .pv c4, .pv c5, .own 1 9 (([] : List Ins_).map Ins_.pv)]), (1, .tip 9 0)]
      (.tup []) [(0, .box [.pv c0, .pv c1, .pv c2, .pv c3, .pv c4, .pv c5, .own 1 9 ((([] : List Ins_) ++ gInsW).map Ins_.pv)]), (1, .tip 9 20)] 2 := by
  have hl0 : ([] : List Ins_).length = 0 := rfl
  generalize hi0 : ([] : List Ins_) = i0 at hl0 ⊢
  refine k_api_givenFlagsWords.acall (by simp) (by simp) (by simp) (by simp) (by simp) (by simp) fun hwf => ?_
  clear hwf
  simp [c_api_givenFlagsWords]
  repeat (first
    | refine DCallNext.pure (p_givenField gl _ _ _ _) ?_
    | refine CallNext.data (p_givenField gl _ _ _ _) ?_
    | refine DCallNext.pure (p_givenVar gl _ _) ?_
    | refine CallNext.data (p_givenVar gl _ _) ?_
    | refine DCallNext.pure (p_givenOp gl _ _) ?_
    | refine CallNext.data (p_givenOp gl _ _) ?_
    | refine DCallNext.pure (p_givenNum gl _ _) ?_
    | refine CallNext.data (p_givenNum gl _ _) ?_
    | refine DCallNext.pure (p_givenTied gl _ _ _) ?_
    | refine CallNext.data (p_givenTied gl _ _ _) ?_
    | refine DCallNext.pure (p_givenSet gl _ _) ?_
    | refine CallNext.data (p_givenSet gl _ _) ?_
    | refine DCallNext.pure (p_givenFixed gl _ _) ?_
    | refine CallNext.data (p_givenFixed gl _ _) ?_
    | refine DCallNext.pure (p_givenStore gl _ _) ?_
    | refine CallNext.data (p_givenStore gl _ _) ?_
    | refine DCallNext.pure (p_givenJump0 gl _) ?_
    | refine CallNext.data (p_givenJump0 gl _) ?_
    | refine DCallNext.pure (p_givenJump gl _ _) ?_
    | refine CallNext.data (p_givenJump gl _ _) ?_
    | refine DCallNext.pure (p_givenTrap gl _) ?_
    | refine CallNext.data (p_givenTrap gl _) ?_
    | refine DCallNext.pure (p_givenZero gl _) ?_
    | refine CallNext.data (p_givenZero gl _) ?_
    | refine DCallNext.pure (p_givenSign gl _) ?_
    | refine CallNext.data (p_givenSign gl _) ?_
    | refine DCallNext.pure (p_givenFlag gl _ (by decide)) ?_
    | refine CallNext.data (p_givenFlag gl _ (by decide)) ?_
    | (refine dadd1 (by assumption) (by decide) rfl rfl (by decide) fun js hj hl => ?_)
    | (refine cdadd1 (by assumption) (by decide) rfl rfl (by decide) (by simp) (by simp) fun js hj hl => ?_)
    | refine Loop.rounds 9 ?_
    | rw [LoopN_succ]
    | simp [wrap_small, nth]
    | unfold c_api_givenFlagsWords_s21
    | unfold c_api_givenFlagsWords_s20
    | unfold c_api_givenFlagsWords_s19
    | unfold c_api_givenFlagsWords_s18
    | unfold c_api_givenFlagsWords_s17
    | unfold c_api_givenFlagsWords_s16
    | unfold c_api_givenFlagsWords_s15
    | unfold c_api_givenFlagsWords_s14
    | unfold c_api_givenFlagsWords_s13
    | unfold c_api_givenFlagsWords_s12
    | unfold c_api_givenFlagsWords_s11
    | unfold c_api_givenFlagsWords_s10
    | unfold c_api_givenFlagsWords_s9
    | unfold c_api_givenFlagsWords_s8
    | unfold c_api_givenFlagsWords_s7
    | unfold c_api_givenFlagsWords_s6
    | unfold c_api_givenFlagsWords_s5
    | unfold c_api_givenFlagsWords_s4
    | unfold c_api_givenFlagsWords_s3
    | unfold c_api_givenFlagsWords_s2
    | unfold c_api_givenFlagsWords_s1)
  refine ⟨[0, 1], ?_⟩
  subst_vars
  rfl
end Go.Proofs.YteiampdhhigjcaaGreatDoorV

/- The given machine 1 (two addresses). -/
namespace Go.Proofs.YteiampdhhigjcaaGreatDoorV
open Go
set_option maxRecDepth 100000
set_option maxHeartbeats 4000000

def gInsB : List Ins_ :=
  [gIns { data := #[108, 100] } 64512 (gMatch 20 10) [gField { data := #[100] } 1 0 0 [{ at_ := 7, len := 3 }], gField { data := #[115] } 1 0 0 [{ at_ := 4, len := 3 }], gField { data := #[110] } 3 0 1 [{ at_ := 0, len := 4 }]] [gSet 0 (gOp 24 16 [gOp 5 16 [gVar { data := #[115] } 16, gVar { data := #[110] } 16]])] 0 1 2 0,
   gIns { data := #[115, 116] } 64512 (gMatch 21 10) [gField { data := #[100] } 1 0 0 [{ at_ := 7, len := 3 }], gField { data := #[115] } 1 0 0 [{ at_ := 4, len := 3 }], gField { data := #[110] } 3 0 1 [{ at_ := 0, len := 4 }]] [gStore (gOp 5 16 [gVar { data := #[115] } 16, gVar { data := #[110] } 16]) (gVar { data := #[100] } 16)] 0 1 1 0,
   gIns { data := #[108, 100, 98] } 64512 (gMatch 22 10) [gField { data := #[100] } 1 1 0 [{ at_ := 7, len := 3 }], gField { data := #[115] } 1 0 0 [{ at_ := 4, len := 3 }], gField { data := #[110] } 3 0 0 [{ at_ := 0, len := 4 }]] [gSet 0 (gOp 24 8 [gOp 5 16 [gVar { data := #[115] } 16, gVar { data := #[110] } 16]])] 0 1 2 0,
   gIns { data := #[115, 116, 98] } 64512 (gMatch 23 10) [gField { data := #[100] } 1 1 0 [{ at_ := 7, len := 3 }], gField { data := #[115] } 1 0 0 [{ at_ := 4, len := 3 }], gField { data := #[110] } 3 0 0 [{ at_ := 0, len := 4 }]] [gStore (gOp 5 16 [gVar { data := #[115] } 16, gVar { data := #[110] } 16]) (gVar { data := #[100] } 8)] 0 1 1 0,
   gIns { data := #[109, 111, 118, 98] } 64512 (gMatch 24 10) [gField { data := #[100] } 1 1 0 [{ at_ := 7, len := 3 }], gField { data := #[115] } 1 1 0 [{ at_ := 4, len := 3 }]] [gSet 0 (gVar { data := #[115] } 8)] 0 1 1 0,
   gIns { data := #[97, 100, 100, 98] } 64512 (gMatch 25 10) [gField { data := #[100] } 1 1 0 [{ at_ := 7, len := 3 }], gTied { data := #[97] } 1 0, gField { data := #[115] } 1 1 0 [{ at_ := 4, len := 3 }]] [gSet 0 (gOp 5 8 [gVar { data := #[97] } 8, gVar { data := #[115] } 8])] 0 1 1 0,
   gIns { data := #[122, 101, 120, 116] } 64512 (gMatch 26 10) [gField { data := #[100] } 1 0 0 [{ at_ := 7, len := 3 }], gField { data := #[115] } 1 1 0 [{ at_ := 4, len := 3 }]] [gSet 0 (gOp 22 16 [gVar { data := #[115] } 8])] 0 1 1 0,
   gIns { data := #[115, 101, 120, 116] } 64512 (gMatch 27 10) [gField { data := #[100] } 1 0 0 [{ at_ := 7, len := 3 }], gField { data := #[115] } 1 1 0 [{ at_ := 4, len := 3 }]] [gSet 0 (gOp 23 16 [gVar { data := #[115] } 8])] 0 1 1 0]
theorem p_givenFlagsBytes (gl : Glob) (c0 c1 c2 c3 c4 c5 : PV) : ACall Tryz.prog gl (.func 127) 2 [.ptr 0 0] [(0, .box [.pv c0, .pv c1, .pv c2, .pv c3, .pv c4, .pv c5, .own 1 9 (gInsW.map Ins_.pv)]), (1, .tip 9 20)]
      (.tup []) [(0, .box [.pv c0, .pv c1, .pv c2, .pv c3, .pv c4, .pv c5, .own 1 9 ((gInsW ++ gInsB).map Ins_.pv)]), (1, .tip 9 28)] 2 := by
  have hl0 : gInsW.length = 20 := rfl
  generalize hi0 : gInsW = i0 at hl0 ⊢
  refine k_api_givenFlagsBytes.acall (by simp) (by simp) (by simp) (by simp) (by simp) (by simp) fun hwf => ?_
  clear hwf
  simp [c_api_givenFlagsBytes]
  repeat (first
    | refine DCallNext.pure (p_givenField gl _ _ _ _) ?_
    | refine CallNext.data (p_givenField gl _ _ _ _) ?_
    | refine DCallNext.pure (p_givenVar gl _ _) ?_
    | refine CallNext.data (p_givenVar gl _ _) ?_
    | refine DCallNext.pure (p_givenOp gl _ _) ?_
    | refine CallNext.data (p_givenOp gl _ _) ?_
    | refine DCallNext.pure (p_givenNum gl _ _) ?_
    | refine CallNext.data (p_givenNum gl _ _) ?_
    | refine DCallNext.pure (p_givenTied gl _ _ _) ?_
    | refine CallNext.data (p_givenTied gl _ _ _) ?_
    | refine DCallNext.pure (p_givenSet gl _ _) ?_
    | refine CallNext.data (p_givenSet gl _ _) ?_
    | refine DCallNext.pure (p_givenFixed gl _ _) ?_
    | refine CallNext.data (p_givenFixed gl _ _) ?_
    | refine DCallNext.pure (p_givenStore gl _ _) ?_
    | refine CallNext.data (p_givenStore gl _ _) ?_
    | refine DCallNext.pure (p_givenJump0 gl _) ?_
    | refine CallNext.data (p_givenJump0 gl _) ?_
    | refine DCallNext.pure (p_givenJump gl _ _) ?_
    | refine CallNext.data (p_givenJump gl _ _) ?_
    | refine DCallNext.pure (p_givenTrap gl _) ?_
    | refine CallNext.data (p_givenTrap gl _) ?_
    | refine DCallNext.pure (p_givenZero gl _) ?_
    | refine CallNext.data (p_givenZero gl _) ?_
    | refine DCallNext.pure (p_givenSign gl _) ?_
    | refine CallNext.data (p_givenSign gl _) ?_
    | refine DCallNext.pure (p_givenFlag gl _ (by decide)) ?_
    | refine CallNext.data (p_givenFlag gl _ (by decide)) ?_
    | (refine dadd1 (by assumption) (by decide) rfl rfl (by decide) fun js hj hl => ?_)
    | (refine cdadd1 (by assumption) (by decide) rfl rfl (by decide) (by simp) (by simp) fun js hj hl => ?_)
    | refine Loop.rounds 9 ?_
    | rw [LoopN_succ]
    | simp [wrap_small, nth]
    | unfold c_api_givenFlagsBytes_s12
    | unfold c_api_givenFlagsBytes_s11
    | unfold c_api_givenFlagsBytes_s10
    | unfold c_api_givenFlagsBytes_s9
    | unfold c_api_givenFlagsBytes_s8
    | unfold c_api_givenFlagsBytes_s7
    | unfold c_api_givenFlagsBytes_s6
    | unfold c_api_givenFlagsBytes_s5
    | unfold c_api_givenFlagsBytes_s4
    | unfold c_api_givenFlagsBytes_s3
    | unfold c_api_givenFlagsBytes_s2
    | unfold c_api_givenFlagsBytes_s1)
  refine ⟨[0, 1], ?_⟩
  subst_vars
  rfl
end Go.Proofs.YteiampdhhigjcaaGreatDoorV

/- The given machine 1 (two addresses). -/
namespace Go.Proofs.YteiampdhhigjcaaGreatDoorV
open Go
set_option maxRecDepth 100000
set_option maxHeartbeats 4000000

def gInsJ : List Ins_ :=
  [gIns { data := #[115, 101, 116, 122] } 64512 (gMatch 28 10) [gField { data := #[100] } 1 0 0 [{ at_ := 7, len := 3 }]] [gSet 0 (gOp 22 16 [gFlag { data := #[122, 102] }])] 0 1 1 0,
   gIns { data := #[115, 101, 116, 99] } 64512 (gMatch 29 10) [gField { data := #[100] } 1 0 0 [{ at_ := 7, len := 3 }]] [gSet 0 (gOp 22 16 [gFlag { data := #[99, 102] }])] 0 1 1 0,
   gIns { data := #[115, 101, 116, 115] } 64512 (gMatch 30 10) [gField { data := #[100] } 1 0 0 [{ at_ := 7, len := 3 }]] [gSet 0 (gOp 22 16 [gFlag { data := #[115, 102] }])] 0 1 1 0,
   gIns { data := #[106, 122] } 64512 (gMatch 31 10) [gField { data := #[116, 111] } 4 0 0 [{ at_ := 0, len := 10 }]] [gJump (gVar { data := #[116, 111] } 16) (gFlag { data := #[122, 102] })] 0 1 1 0,
   gIns { data := #[106, 99] } 64512 (gMatch 32 10) [gField { data := #[116, 111] } 4 0 0 [{ at_ := 0, len := 10 }]] [gJump (gVar { data := #[116, 111] } 16) (gFlag { data := #[99, 102] })] 0 1 1 0,
   gIns { data := #[106, 115] } 64512 (gMatch 33 10) [gField { data := #[116, 111] } 4 0 0 [{ at_ := 0, len := 10 }]] [gJump (gVar { data := #[116, 111] } 16) (gFlag { data := #[115, 102] })] 0 1 1 0,
   gIns { data := #[106, 110, 122] } 64512 (gMatch 34 10) [gField { data := #[116, 111] } 4 0 0 [{ at_ := 0, len := 10 }]] [gJump (gVar { data := #[116, 111] } 16) (gOp 3 1 [gFlag { data := #[122, 102] }])] 0 1 1 0,
   gIns { data := #[106, 109, 112] } 64512 (gMatch 35 10) [gField { data := #[116, 111] } 4 0 0 [{ at_ := 0, len := 10 }]] [gJump (gVar { data := #[116, 111] } 16) gNone] 0 1 1 0,
   gIns { data := #[106, 114] } 64512 (gMatch 36 10) [gField { data := #[115] } 1 0 0 [{ at_ := 4, len := 3 }]] [gJump (gVar { data := #[115] } 16) gNone] 0 1 1 0,
   gIns { data := #[99, 97, 108, 108] } 64512 (gMatch 37 10) [gField { data := #[116, 111] } 4 0 0 [{ at_ := 0, len := 10 }]] [gStore (gOp 6 16 [gVar { data := #[114, 46, 115, 112] } 16, gNum 16 2]) (gOp 5 16 [gVar { data := #[112, 99] } 16, gNum 16 2]), gFixed 7 (gOp 6 16 [gVar { data := #[114, 46, 115, 112] } 16, gNum 16 2]), gJump (gVar { data := #[116, 111] } 16) gNone] 0 1 1 0,
   gIns { data := #[114, 101, 116] } 64512 (gMatch 38 10) [] [gFixed 7 (gOp 5 16 [gVar { data := #[114, 46, 115, 112] } 16, gNum 16 2]), gJump (gOp 24 16 [gVar { data := #[114, 46, 115, 112] } 16]) gNone] 0 1 2 0,
   gIns { data := #[112, 117, 115, 104] } 64512 (gMatch 39 10) [gField { data := #[115] } 1 0 0 [{ at_ := 4, len := 3 }]] [gStore (gOp 6 16 [gVar { data := #[114, 46, 115, 112] } 16, gNum 16 2]) (gVar { data := #[115] } 16), gFixed 7 (gOp 6 16 [gVar { data := #[114, 46, 115, 112] } 16, gNum 16 2])] 0 1 1 0,
   gIns { data := #[112, 111, 112] } 64512 (gMatch 40 10) [gField { data := #[100] } 1 0 0 [{ at_ := 7, len := 3 }]] [gSet 0 (gOp 24 16 [gVar { data := #[114, 46, 115, 112] } 16]), gFixed 7 (gOp 5 16 [gVar { data := #[114, 46, 115, 112] } 16, gNum 16 2])] 0 1 2 0,
   gIns { data := #[116, 114, 97, 112] } 64512 (gMatch 41 10) [gField { data := #[110] } 3 0 0 [{ at_ := 0, len := 4 }]] [gTrap (gVar { data := #[110] } 16)] 0 1 1 0,
   gIns { data := #[116, 101, 108, 108] } 64512 (gMatch 42 10) [gField { data := #[115] } 1 0 0 [{ at_ := 4, len := 3 }]] [gTrap (gOp 20 17 [gNum 1 1, gVar { data := #[115] } 16])] 0 1 1 0,
   gIns { data := #[104, 97, 108, 116] } 64512 (gMatch 43 10) [gField { data := #[115] } 1 0 0 [{ at_ := 4, len := 3 }]] [gTrap (gVar { data := #[115] } 16)] 0 1 1 0,
   gIns { data := #[110, 111, 112] } 64512 (gMatch 44 10) [] [] 0 1 1 0,
   gIns { data := #[101, 113] } 64512 (gMatch 45 10) [gField { data := #[100] } 1 0 0 [{ at_ := 7, len := 3 }], gTied { data := #[97] } 0 0, gField { data := #[115] } 1 0 0 [{ at_ := 4, len := 3 }]] [gSet 0 (gOp 22 16 [gOp 16 1 [gVar { data := #[97] } 16, gVar { data := #[115] } 16]])] 0 1 1 0,
   gIns { data := #[117, 108, 116] } 64512 (gMatch 46 10) [gField { data := #[100] } 1 0 0 [{ at_ := 7, len := 3 }], gTied { data := #[97] } 0 0, gField { data := #[115] } 1 0 0 [{ at_ := 4, len := 3 }]] [gSet 0 (gOp 22 16 [gOp 17 1 [gVar { data := #[97] } 16, gVar { data := #[115] } 16]])] 0 1 1 0,
   gIns { data := #[115, 108, 116] } 64512 (gMatch 47 10) [gField { data := #[100] } 1 0 0 [{ at_ := 7, len := 3 }], gTied { data := #[97] } 0 0, gField { data := #[115] } 1 0 0 [{ at_ := 4, len := 3 }]] [gSet 0 (gOp 22 16 [gOp 18 1 [gVar { data := #[97] } 16, gVar { data := #[115] } 16]])] 0 1 1 0,
   gIns { data := #[98, 114, 110, 122] } 64512 (gMatch 48 10) [gField { data := #[100] } 1 0 0 [{ at_ := 7, len := 3 }], gField { data := #[116, 111] } 4 0 0 [{ at_ := 0, len := 7 }]] [gJump (gVar { data := #[116, 111] } 16) (gOp 3 1 [gOp 16 1 [gVar { data := #[100] } 16, gNum 16 0]])] 0 1 1 0]
theorem p_givenFlagsJumps (gl : Glob) (c0 c1 c2 c3 c4 c5 : PV) : ACall Tryz.prog gl (.func 128) 2 [.ptr 0 0] [(0, .box [.pv c0, .pv c1, .pv c2, .pv c3, .pv c4, .pv c5, .own 1 9 ((gInsW ++ gInsB).map Ins_.pv)]), (1, .tip 9 28)]
      (.tup []) [(0, .box [.pv c0, .pv c1, .pv c2, .pv c3, .pv c4, .pv c5, .own 1 9 (((gInsW ++ gInsB) ++ gInsJ).map Ins_.pv)]), (1, .tip 9 49)] 2 := by
  have hl0 : (gInsW ++ gInsB).length = 28 := rfl
  generalize hi0 : (gInsW ++ gInsB) = i0 at hl0 ⊢
  refine k_api_givenFlagsJumps.acall (by simp) (by simp) (by simp) (by simp) (by simp) (by simp) fun hwf => ?_
  clear hwf
  simp [c_api_givenFlagsJumps]
  repeat (first
    | refine DCallNext.pure (p_givenField gl _ _ _ _) ?_
    | refine CallNext.data (p_givenField gl _ _ _ _) ?_
    | refine DCallNext.pure (p_givenVar gl _ _) ?_
    | refine CallNext.data (p_givenVar gl _ _) ?_
    | refine DCallNext.pure (p_givenOp gl _ _) ?_
    | refine CallNext.data (p_givenOp gl _ _) ?_
    | refine DCallNext.pure (p_givenNum gl _ _) ?_
    | refine CallNext.data (p_givenNum gl _ _) ?_
    | refine DCallNext.pure (p_givenTied gl _ _ _) ?_
    | refine CallNext.data (p_givenTied gl _ _ _) ?_
    | refine DCallNext.pure (p_givenSet gl _ _) ?_
    | refine CallNext.data (p_givenSet gl _ _) ?_
    | refine DCallNext.pure (p_givenFixed gl _ _) ?_
    | refine CallNext.data (p_givenFixed gl _ _) ?_
    | refine DCallNext.pure (p_givenStore gl _ _) ?_
    | refine CallNext.data (p_givenStore gl _ _) ?_
    | refine DCallNext.pure (p_givenJump0 gl _) ?_
    | refine CallNext.data (p_givenJump0 gl _) ?_
    | refine DCallNext.pure (p_givenJump gl _ _) ?_
    | refine CallNext.data (p_givenJump gl _ _) ?_
    | refine DCallNext.pure (p_givenTrap gl _) ?_
    | refine CallNext.data (p_givenTrap gl _) ?_
    | refine DCallNext.pure (p_givenZero gl _) ?_
    | refine CallNext.data (p_givenZero gl _) ?_
    | refine DCallNext.pure (p_givenSign gl _) ?_
    | refine CallNext.data (p_givenSign gl _) ?_
    | refine DCallNext.pure (p_givenFlag gl _ (by decide)) ?_
    | refine CallNext.data (p_givenFlag gl _ (by decide)) ?_
    | (refine dadd1 (by assumption) (by decide) rfl rfl (by decide) fun js hj hl => ?_)
    | (refine cdadd1 (by assumption) (by decide) rfl rfl (by decide) (by simp) (by simp) fun js hj hl => ?_)
    | refine Loop.rounds 9 ?_
    | rw [LoopN_succ]
    | simp [wrap_small, nth]
    | unfold c_api_givenFlagsJumps_s24
    | unfold c_api_givenFlagsJumps_s23
    | unfold c_api_givenFlagsJumps_s22
    | unfold c_api_givenFlagsJumps_s21
    | unfold c_api_givenFlagsJumps_s20
    | unfold c_api_givenFlagsJumps_s19
    | unfold c_api_givenFlagsJumps_s18
    | unfold c_api_givenFlagsJumps_s17
    | unfold c_api_givenFlagsJumps_s16
    | unfold c_api_givenFlagsJumps_s15
    | unfold c_api_givenFlagsJumps_s14
    | unfold c_api_givenFlagsJumps_s13
    | unfold c_api_givenFlagsJumps_s12
    | unfold c_api_givenFlagsJumps_s11
    | unfold c_api_givenFlagsJumps_s10
    | unfold c_api_givenFlagsJumps_s9
    | unfold c_api_givenFlagsJumps_s8
    | unfold c_api_givenFlagsJumps_s7
    | unfold c_api_givenFlagsJumps_s6
    | unfold c_api_givenFlagsJumps_s5
    | unfold c_api_givenFlagsJumps_s4
    | unfold c_api_givenFlagsJumps_s3
    | unfold c_api_givenFlagsJumps_s2
    | unfold c_api_givenFlagsJumps_s1)
  refine ⟨[0, 1], ?_⟩
  subst_vars
  rfl
end Go.Proofs.YteiampdhhigjcaaGreatDoorV

/- The given machines. -/
namespace Go.Proofs.YteiampdhhigjcaaGreatDoorV
open Go
set_option maxRecDepth 100000
set_option maxHeartbeats 4000000

def regs1 : List Reg := [ByteArray.mk #[97, 120], ⟨#[98, 120]⟩, ⟨#[99, 120]⟩, ⟨#[100, 120]⟩, ⟨#[115, 105]⟩, ⟨#[100, 105]⟩, ⟨#[98, 112]⟩, ⟨#[115, 112]⟩].map (fun s => { name := s, width := 16, of := -1, low := 0 })
  ++ [(ByteArray.mk #[97, 108], (0 : Int), (0 : Int)), (⟨#[98, 108]⟩, 1, 0), (⟨#[99, 108]⟩, 2, 0), (⟨#[100, 108]⟩, 3, 0), (⟨#[97, 104]⟩, 0, 8), (⟨#[98, 104]⟩, 1, 8), (⟨#[99, 104]⟩, 2, 8), (⟨#[100, 104]⟩, 3, 8)].map (fun s => { name := s.1, width := 8, of := s.2.1, low := s.2.2 })
  ++ [ByteArray.mk #[122, 102], ⟨#[99, 102]⟩, ⟨#[115, 102]⟩].map (fun s => { name := s, width := 1, of := -1, low := 0 })
def gRegs1 : List PV := regs1.map Reg.pv
def banks1 : List Bank := [{ name := ⟨#[119]⟩, regs := [0, 1, 2, 3, 4, 5, 6, 7] }, { name := ⟨#[98]⟩, regs := [8, 9, 10, 11, 12, 13, 14, 15] }]
def gBanks1 : List PV := banks1.map Bank.pv
def units1 : List Unt := [{ name := ⟨#[99, 111, 114, 101]⟩, count := 1 }]
def gUnits1 : List PV := units1.map Unt.pv
def given1 : Mach := { name := ⟨#[102, 108, 97, 103, 115]⟩, word := 2, address := 16, regs := regs1, banks := banks1, units := units1, instrs := (gInsW ++ gInsB) ++ gInsJ }
theorem p_givenFlags (gl : Glob) : PCall Tryz.prog gl 96 [] (.pv given1.pv) := by
  refine k_api_givenFlags.pcall (by simp) (by simp) (by simp) fun hwf => ?_
  simp [c_api_givenFlags]
  simp [c_api_givenFlags_s11]
  simp [c_api_givenFlags_s10]
  simp [c_api_givenFlags_s9]
  refine Loop.rounds 8 ?_
  repeat (first | (rw [LoopN_succ]; simp [wrap_small, nth]))
  simp [c_api_givenFlags_s8]
  refine Loop.rounds 8 ?_
  repeat (first | (rw [LoopN_succ]; simp [wrap_small, nth]))
  simp [c_api_givenFlags_s7]
  refine Loop.rounds 3 ?_
  repeat (first | (rw [LoopN_succ]; simp [wrap_small, nth]))
  simp [c_api_givenFlags_s6]
  change vc _ _ _ _ _ { e := _, h := [_, (1, .box [_, _, _, .pv (.lst 4 gRegs1), .pv (.lst 2 gBanks1), .pv (.lst 2 gUnits1), _]), _, _, _, _, _, _], nx := _ }
  simp [c_api_givenFlags_s5]
  refine CallNext.obs [1, 7] (p_givenFlagsWords gl (.str ⟨#[102, 108, 97, 103, 115]⟩) (.int .i64 2) (.int .i64 16) (.lst 4 gRegs1) (.lst 2 gBanks1) (.lst 2 gUnits1)) (by simp) (by simp) (by simp) (by simp) fun _ => ?_
  simp [c_api_givenFlags_s4]
  refine CallNext.obs [1, 7] (p_givenFlagsBytes gl (.str ⟨#[102, 108, 97, 103, 115]⟩) (.int .i64 2) (.int .i64 16) (.lst 4 gRegs1) (.lst 2 gBanks1) (.lst 2 gUnits1)) (by simp) (by simp) (by simp) (by simp) fun _ => ?_
  simp [c_api_givenFlags_s3]
  refine CallNext.obs [1, 7] (p_givenFlagsJumps gl (.str ⟨#[102, 108, 97, 103, 115]⟩) (.int .i64 2) (.int .i64 16) (.lst 4 gRegs1) (.lst 2 gBanks1) (.lst 2 gUnits1)) (by simp) (by simp) (by simp) (by simp) fun _ => ?_
  simp [c_api_givenFlags_s2]
  simp [c_api_givenFlags_s1]
  rw [← List.append_assoc, ← List.map_append, ← List.map_append]
  rfl
theorem p_Given0 (gl : Glob) : PCall Tryz.prog gl 33 [.pv (.int .i64 0)] (.pv given0.pv) := by
  refine k_api_Given.pcall (by simp) (by simp) (by simp) fun hwf => ?_
  simp [c_api_Given]
  refine CallNext.data (p_givenRisc gl) ?_
  simp
theorem p_Given1 (gl : Glob) : PCall Tryz.prog gl 33 [.pv (.int .i64 1)] (.pv given1.pv) := by
  refine k_api_Given.pcall (by simp) (by simp) (by simp) fun hwf => ?_
  simp [c_api_Given]
  refine CallNext.data (p_givenFlags gl) ?_
  simp
end Go.Proofs.YteiampdhhigjcaaGreatDoorV

/- Contracts: layer 8 of the program: roots and parts. -/
namespace Go.Proofs.YteiampdhhigjcaaGreatDoorV
open Go
set_option maxRecDepth 100000
set_option maxHeartbeats 4000000

theorem p_isNaN (gl : Glob) (x : Int) : PCall Tryz.prog gl 158 [.pv (.int .i64 x)] (.pv (.bool false)) := by
  refine k_cmp_isNaN_int.pcall (by simp) (by simp) (by simp) fun hwf => ?_
  simp [c_cmp_isNaN_int]
theorem p_Less (gl : Glob) (a b : Int) : PCall Tryz.prog gl 123 [.pv (.int .i64 a), .pv (.int .i64 b)] (.pv (.bool (decide (a < b)))) := by
  refine k_cmp_Less_int.pcall (by simp) (by simp) (by simp) fun hwf => ?_
  simp [c_cmp_Less_int]
  refine CallNext.pure (p_isNaN gl a) fun _ => ?_
  simp
  refine ⟨.pv (.bool false), by simp, ?_⟩
  simp
theorem p_BinarySearch (gl : Glob) (l : List Int) (x : Int) (hs : l.Pairwise (· < ·)) (hx : x ∈ l) (hl : l.length ≤ 1000) : PCall Tryz.prog gl 86 [.pv (.lst 1 (ints l)), .pv (.int .i64 x)] (.tup [.pv (.int .i64 (place l x : Nat)), .pv (.bool true)]) := by
  refine k_slices_BinarySearch_int_int.pcall (by simp) (by simp) (by simp) fun hwf => ?_
  simp [c_slices_BinarySearch_int_int]
  refine Loop.intro (fun y : Nat × Nat => { e := [(0, .pv (.lst 1 (ints l))), (1, .pv (.int .i64 x)), (6, .pv (.int .i64 l.length)), (7, .pv (.int .i64 y.1)), (8, .pv (.int .i64 y.2))], h := [], nx := 0 }) (fun y => y.2 - y.1)
    (fun y => y.1 ≤ y.2 ∧ y.2 ≤ l.length ∧ (∀ k, k < y.1 → gt l (k : Nat) < x) ∧ ∀ k, y.2 ≤ k → k < l.length → x ≤ gt l (k : Nat)) (0, l.length) (by simp) ⟨by simp, by simp, by simp, by intro k h1 h2; simp at h1; omega⟩ (by simp) fun ⟨i, j⟩ ⟨h1, h2, h3, h4⟩ => ?_
  simp only at h1 h2 h3 h4
  simp
  obtain ⟨k, hkd⟩ : ∃ k : Nat, k = (i + j) / 2 := ⟨_, rfl⟩
  have hh : IntKind.i64.wrap ((IntKind.u64.wrap (IntKind.i64.wrap ((i : Int) + j))).fdiv (2 ^ min 1 IntKind.u64.bits)) = (k : Int) := by
    rw [wrap_i64 (n := (i : Int) + j) (by omega) (by omega), wrap_u64 (n := (i : Int) + j) (by omega) (by omega), show min 1 IntKind.u64.bits = 1 from rfl]
    have : ((i : Int) + j).fdiv (2 ^ 1) = (k : Int) := by
      rw [Int.fdiv_eq_ediv_of_nonneg _ (by omega)]; omega
    rw [this, wrap_nat (by omega) (by omega)]
  refine ⟨fun hlt => ?_, fun hge => ?_⟩
  · have hk : k < l.length := by omega
    simp only [hh]
    refine ⟨⟨by omega, by omega⟩, ?_⟩
    simp [hk]
    refine CallNext.pure (p_Less gl _ _) fun _ => ?_
    simp [wrap_nat (show (0:Int) ≤ k + 1 by omega) (by omega)]
    refine ⟨fun h => ⟨k + 1, j, ⟨by omega, h2, fun q hq => ?_, h4⟩, by omega, by simp, rfl⟩, fun h => ⟨i, k, ⟨by omega, by omega, h3, fun q hq hql => ?_⟩, by omega, rfl, rfl⟩⟩
    · rcases Nat.lt_or_eq_of_le (Nat.le_of_lt_succ hq) with hq | rfl
      · have := sorted_gt hs hq hk; omega
      · exact h
    · rcases Nat.lt_or_eq_of_le hq with hq | rfl
      · have := sorted_gt hs hq hql; omega
      · exact h
  · obtain rfl : i = j := by omega
    have hpl := sorted_place hs hx h2 h3 h4
    obtain ⟨hp1, hp2⟩ := place_gt hx
    rw [hpl] at hp1 hp2
    simp [hp1, hp2, hpl]
    refine ⟨.pv (.bool false), by simp, ?_⟩
    simp
    refine ⟨.pv (.bool false), by simp, ?_⟩
    simp
theorem p_machine_tops (gl : Glob) (m : Mach) (hl : m.regs.length ≤ 1000) : PCall Tryz.prog gl 84 [.pv m.pv] (.pv (.lst 1 (ints (tops m)))) := by
  refine k_machine_tops.pcall (by simp) (by simp) (by simp) fun hwf => ?_
  simp [c_machine_tops]
  refine Loop.nat (fun i => { e := [(3, .own 1 1 (ints (topsN m i))), (7, .pv (.lst 4 (m.regs.map Reg.pv))), (8, .pv (.int .i64 m.regs.length)), (9, .pv (.int .i64 i))], h := [(0, m.bx), (1, .tip 1 (topsN m i).length)], nx := 2 }) m.regs.length (fun _ => True) (by simp) (by simp) (by simp [Mach.bx, topsN, ints]) fun i hi hinv => ?_
  by_cases hlt : i < m.regs.length
  · have h1 := topsN_len m i
    simp [hlt, Mach.bx, wrap_nat (show (0:Int) ≤ i + 1 by omega) (by omega)]
    refine ⟨fun h => ⟨by omega, ?_, ?_⟩, fun h => ⟨?_, ?_⟩⟩ <;> simp [topsN, h, ints]
  · obtain rfl : i = m.regs.length := by omega
    simp [Mach.bx, tops]
theorem p_machine_Roots (m : Mach) (ht : mTerms m) : PCall Tryz.prog glob 22 [.pv m.pv] (.tup [.pv (.lst 1 (ints (rootsL m))), .pv (.int .i64 (mcheck m))]) := by
  refine k_machine_Roots.pcall (by simp) (by simp) (by simp) fun hwf => ?_
  have hm : m.pv.wf := by have := hwf (.pv m.pv) (by simp); simpa only [DV.wf] using this
  simp [c_machine_Roots]
  refine CallNext.pure (p_mCheck hm ht) fun _ => ?_
  simp
  refine ⟨fun h => ?_, fun h => ?_⟩
  · simp [rootsL, h, ints]
  · have hl := (inLimits_iff (mcheck_regs h).2).1
    refine CallNext.pure (p_machine_tops glob m (by omega)) fun _ => ?_
    simp [rootsL, h]
theorem p_machine_Part (m : Mach) (reg : Int) (ht : mTerms m) : PCall Tryz.prog glob 24 [.pv m.pv, .pv (.int .i64 reg)] (.tup [.pv (.int .i64 (partR m reg).1), .pv (.int .i64 (partR m reg).2.1), .pv (.int .i64 (partR m reg).2.2), .pv (.int .i64 (partE m reg))]) := by
  refine k_machine_Part.pcall (by simp) (by simp) (by simp) fun hwf => ?_
  have hm : m.pv.wf := by have := hwf (.pv m.pv) (by simp); simpa only [DV.wf] using this
  simp [c_machine_Part]
  refine CallNext.pure (p_mCheck hm ht) fun _ => ?_
  simp
  refine ⟨fun h => ?_, fun h => ?_⟩
  · simp [partR, partE, h]
  obtain ⟨hr, hl⟩ := mcheck_regs h
  have hl := (inLimits_iff hl).1
  refine CallNext.pure (p_machine_within glob _ _ _) fun _ => ?_
  simp
  rw [wrap_i64 (by omega) (by omega)]
  refine ⟨fun hi => ?_, fun hi => ?_⟩
  · simp [partR, partE, partI, h, hi]
  have hi' : 0 ≤ reg ∧ reg ≤ (m.regs.length : Int) - 1 := by simpa [inR] using hi
  have hne : m.regs ≠ [] := by intro h; simp [h] at hi'; omega
  have hk := topsN_len m m.regs.length
  have hmem := topOf_mem hr hi
  have h0 := (topsN_lt m _ _ hmem).1
  have hpi : partR m reg = (((place (tops m) (topOf m reg) : Nat) : Int), (gt m.regs reg).low, (gt m.regs reg).width) := by simp only [partR, partI, h, hi, if_true]
  have hpe : partE m reg = 0 := by simp only [partE, h, hi, if_true]
  rw [hpi, hpe]
  simp [hne, Mach.bx, Reg.bx, show 0 ≤ reg by omega, show reg < (m.regs.length : Int) by omega]
  refine ⟨fun g => ?_, fun g => ?_⟩
  · have ht2 : topOf m reg = (gt m.regs reg).of := by rw [topOf, if_neg (by omega)]
    refine CallNext.pure (p_machine_tops glob m (by omega)) fun _ => ?_
    simp
    rw [ht2] at hmem ⊢
    refine CallNext.pure (p_BinarySearch glob (tops m) _ (topsN_sorted m _) hmem (by unfold tops; omega)) fun _ => ?_
    simp [Reg.bx]
  · have ht2 : topOf m reg = reg := by
      by_cases hof : (gt m.regs reg).of = -1
      · rw [topOf, if_pos hof]
      · rw [topOf, if_neg hof] at h0; omega
    refine CallNext.pure (p_machine_tops glob m (by omega)) fun _ => ?_
    simp
    rw [ht2] at hmem ⊢
    refine CallNext.pure (p_BinarySearch glob (tops m) _ (topsN_sorted m _) hmem (by unfold tops; omega)) fun _ => ?_
    simp [Reg.bx]
theorem partE_ok {m : Mach} {reg : Int} (h : partE m reg = 0) : mcheck m = 0 ∧ inR reg 0 (m.regs.length - 1) = true := by
  unfold partE at h
  split at h
  · rename_i hc
    refine ⟨hc, ?_⟩
    split at h
    · assumption
    · omega
  · rename_i hc; exact absurd h hc
theorem p_machine_Overlap (m : Mach) (a b : Int) (ht : mTerms m) : PCall Tryz.prog glob 26 [.pv m.pv, .pv (.int .i64 a), .pv (.int .i64 b)] (.tup [.pv (.bool (overR m a b)), .pv (.int .i64 (overE m a b))]) := by
  refine k_machine_Overlap.pcall (by simp) (by simp) (by simp) fun hwf => ?_
  simp [c_machine_Overlap]
  refine CallNext.pure (p_machine_Part m a ht) fun _ => ?_
  simp
  refine ⟨fun h => ?_, fun h => ?_⟩
  · simp [overR, overE, h]
  refine CallNext.pure (p_machine_Part m b ht) fun _ => ?_
  simp
  refine ⟨fun h2 => ?_, fun h2 => ?_⟩
  · simp [overR, overE, h, h2]
  obtain ⟨hc, ha⟩ := partE_ok h
  obtain ⟨-, hb⟩ := partE_ok h2
  obtain ⟨hr, -⟩ := mcheck_regs hc
  have hE : overE m a b = 0 := by simp only [overE, h, h2, if_true]
  have hla := low_of hr ha
  have hlb := low_of hr hb
  have hpa : partR m a = partI m a := by simp only [partR, hc, if_true]
  have hpb : partR m b = partI m b := by simp only [partR, hc, if_true]
  have la : (partI m a).2 = ((gt m.regs a).low, (gt m.regs a).width) := by simp only [partI, ha, if_true]
  have lb : (partI m b).2 = ((gt m.regs b).low, (gt m.regs b).width) := by simp only [partI, hb, if_true]
  refine ⟨?_, hE.symm⟩
  rw [overR, hE, over_eq hr ha hb, hpa, hpb, la, lb]
  rw [wrap_i64 (by omega) (by omega), wrap_i64 (by omega) (by omega)]
  simp
end Go.Proofs.YteiampdhhigjcaaGreatDoorV

/- Plain law: words, masks and shifts. -/
namespace Go.Proofs.YteiampdhhigjcaaGreatDoorV
open Go

theorem okVal_eq {w x : Int} (h : 1 ≤ w ∧ w ≤ 64) : okVal w x = decide (x < 2 ^ w.toNat) := by
  have h1 : wideB w = true := by simp [wideB, inR, h]
  rw [okVal, h1, maskI, if_pos h1, Bool.true_and, decide_eq_decide]
  omega
theorem maskI_of {w : Nat} (h : 1 ≤ w ∧ w ≤ 64) : maskI (w : Int) = ((2 ^ w - 1 : Nat) : Int) := by
  have h1 : wideB (w : Int) = true := by simp [wideB, inR]; omega
  rw [maskI, if_pos h1, Int.toNat_natCast]
  have h2 := Nat.two_pow_pos w
  have h3 : ((2 : Int) ^ w) = ((2 ^ w : Nat) : Int) := by push_cast; rfl
  omega
theorem shr_nat (n l : Nat) (hl : l ≤ 64) : (n : Int).fdiv (2 ^ min l IntKind.u64.bits) = ((n / 2 ^ l : Nat) : Int) := by
  rw [show min l IntKind.u64.bits = l from Nat.min_eq_left hl, Int.fdiv_eq_ediv_of_nonneg _ (Int.pow_nonneg (by omega))]
  push_cast; rfl
theorem rd_ops {n l w : Nat} (hn : n < 2 ^ 64) (hlw : l + w ≤ 64) : bandI .u64 ((n : Int).fdiv (2 ^ min l IntKind.u64.bits)) ((2 ^ w - 1 : Nat) : Int) = (fldN n l w : Nat) := by
  have h1 : n / 2 ^ l < 2 ^ 64 := Nat.lt_of_le_of_lt (Nat.div_le_self _ _) hn
  have h2 : 2 ^ w ≤ 2 ^ 64 := Nat.pow_le_pow_right (by omega) (by omega)
  rw [shr_nat n l (by omega), and_u64 h1 (by omega), Nat.and_two_pow_sub_one_eq_mod]; rfl
theorem flat_words (l : List Int) : flat (words l) = words l := by
  induction l with
  | nil => rfl
  | cons x r ih => simp only [words, List.map_cons, flat, List.flatMap_cons] at ih ⊢; rw [ih]; rfl
theorem pvs_map : ∀ l : List PV, pvs (l.map DV.pv) = some l
  | [] => rfl
  | x :: r => by rw [List.map_cons, pvs, pvs_map r]; rfl
theorem words_set {l : List Int} {p : Nat} {v : Int} : ((words l).map DV.pv).set p (.pv (.int .u64 v)) = (words (l.set p v)).map DV.pv := by
  simp only [words, ← List.map_set]
theorem words_cells {l : List Int} : ∀ x ∈ words l, x.cells.length = 1 := by
  intro x hx; simp only [words, List.mem_map] at hx; obtain ⟨y, -, rfl⟩ := hx; rfl
theorem words_one {l : List Int} : ∀ x ∈ words l, x.one = true := by
  intro x hx; simp only [words, List.mem_map] at hx; obtain ⟨y, -, rfl⟩ := hx; rfl
theorem shl_nat {x l k : Nat} (h : x < 2 ^ k) (hk : k + l ≤ 64) : shlI .u64 (x : Int) (l : Int) = ((x <<< l : Nat) : Int) := by
  have h1 : x <<< l < 2 ^ 64 := by
    apply Nat.lt_pow_two_of_testBit
    intro i hi
    rw [shl_bit, Bool.and_eq_false_iff]
    right
    rw [Bool.eq_false_iff]; intro hb; have := bits_lt h hb; omega
  have h2 : (x : Int) * 2 ^ l = ((x <<< l : Nat) : Int) := by rw [Nat.shiftLeft_eq]; push_cast; rfl
  rw [shlI, Int.toNat_natCast, show min l IntKind.u64.bits = l from Nat.min_eq_left (by show l ≤ 64; omega), h2]
  generalize x <<< l = y at h1
  exact wrap_u64 (by omega) (by omega)
theorem wr_ops {n l w x : Nat} (hn : n < 2 ^ 64) (hx : x < 2 ^ w) (hlw : l + w ≤ 64) : borI .u64 (bandNotI .u64 (n : Int) (shlI .u64 ((2 ^ w - 1 : Nat) : Int) (l : Int))) (shlI .u64 (x : Int) (l : Int)) = (putN n l w x : Nat) := by
  have hm : (2 ^ w - 1) <<< l < 2 ^ 64 := by
    apply Nat.lt_pow_two_of_testBit
    intro i hi
    rw [mask_bit]; simp; omega
  have hs : x <<< l < 2 ^ 64 := by
    apply Nat.lt_pow_two_of_testBit
    intro i hi
    rw [shl_bit, Bool.and_eq_false_iff]
    right
    rw [Bool.eq_false_iff]; intro hb; have := bits_lt hx hb; omega
  have h2 := Nat.two_pow_pos w
  rw [shl_nat (k := w) (by omega) (by omega), shl_nat hx (by omega), andNot_u64 hn hm, or_u64 (Nat.lt_of_le_of_lt Nat.and_le_left hn) hs, put_eq hn hx hlw]
theorem words_at {l : List Int} {p : Nat} (h : p < (words l).length) : (words l)[p] = .int .u64 (gt l (p : Nat)) := by
  have h2 : p < l.length := by simpa using h
  rw [gt_nat h2]; simp [words]
@[simp] theorem ren_comp {ρ : Nat → Nat} : (fun x => DV.ren ρ x) ∘ DV.pv = DV.pv := by funext x; simp
@[simp] theorem ren_map {ρ : Nat → Nat} {l : List PV} : (l.map DV.pv).map (fun x => DV.ren ρ x) = l.map DV.pv := by simp
end Go.Proofs.YteiampdhhigjcaaGreatDoorV
