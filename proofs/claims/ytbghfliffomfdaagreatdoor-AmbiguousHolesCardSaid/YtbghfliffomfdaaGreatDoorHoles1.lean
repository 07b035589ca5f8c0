/- Packed: Tb Ta Tf Tg Td Tc Od Kc -/
import Derived.Test.YtbghfliffomfdaaGreatDoorChk5
import Derived.Test.YtbghfliffomfdaaGreatDoorProg
set_option linter.all false
/- The program's functions as trees of our logic (group b). -/
namespace Go.Proofs.YtbghfliffomfdaaGreatDoorV
open Go
set_option maxRecDepth 100000
end Go.Proofs.YtbghfliffomfdaaGreatDoorV

/- The program's functions as trees of our logic (group a). -/
namespace Go.Proofs.YtbghfliffomfdaaGreatDoorV
open Go
set_option maxRecDepth 100000
end Go.Proofs.YtbghfliffomfdaaGreatDoorV

/- The program's functions as trees of our logic (group f). -/
namespace Go.Proofs.YtbghfliffomfdaaGreatDoorV
open Go
set_option maxRecDepth 100000
/- "retarget/retargetlaw11.AmbiguousHoles" -/
def c_retargetlaw11_AmbiguousHoles : C :=
.seq (.reg [⟨some 4, none, .box 7 (.t 0)⟩, ⟨some 8, none, .mov (.c (.pv (.bool false)))⟩]) (.seq (.seq (.reg [⟨some 17, none, .load (some 7) (.t 4)⟩, ⟨some 18, none, .callf 6 [(.t 17)]⟩, ⟨some 19, none, .mov (.t 18)⟩, ⟨some 20, some (19, false), .mov (.t 2)⟩, ⟨some 21, some (19, false), .bin .gtr (.t 20) (.c (.pv (.int .i64 300)))⟩, ⟨some 22, some (19, false), .mov (.t 21)⟩, ⟨some 23, some (22, true), .mov (.t 2)⟩, ⟨some 24, some (22, true), .bin .leq (.t 23) (.c (.pv (.int .i64 4096)))⟩, ⟨some 25, some (19, false), .land (.t 22) (.t 24)⟩, ⟨some 26, none, .lor (.t 19) (.t 25)⟩]) (.cond (.t 26) (.seq (.reg [⟨some 8, none, .mov (.c (.pv (.bool true)))⟩]) (.ret)) (.skip))) (.seq (.reg [⟨some 28, none, .load (some 7) (.t 4)⟩, ⟨some 29, none, .mov (.t 1)⟩, ⟨some 30, none, .mov (.t 2)⟩, ⟨some 31, none, .callf 17 [(.t 28), (.t 29), (.t 30)]⟩, ⟨some 27, none, .mov (.t 31)⟩, ⟨some 32, none, .ext (.t 27) 0⟩, ⟨some 33, none, .ext (.t 27) 1⟩, ⟨some 9, none, .mov (.t 32)⟩, ⟨some 10, none, .mov (.t 33)⟩]) (.seq (.reg [⟨some 35, none, .load (some 7) (.t 4)⟩, ⟨some 36, none, .mov (.t 1)⟩, ⟨some 37, none, .mov (.t 2)⟩, ⟨some 38, none, .callf 18 [(.t 35), (.t 36), (.t 37)]⟩, ⟨some 34, none, .mov (.t 38)⟩, ⟨some 39, none, .ext (.t 34) 0⟩, ⟨some 40, none, .ext (.t 34) 1⟩, ⟨some 11, none, .mov (.t 39)⟩, ⟨some 12, none, .mov (.t 40)⟩]) (.seq (.reg [⟨some 42, none, .load (some 7) (.t 4)⟩, ⟨some 43, none, .mov (.t 3)⟩, ⟨some 44, none, .callf 19 [(.t 42), (.t 43)]⟩, ⟨some 41, none, .mov (.t 44)⟩, ⟨some 45, none, .ext (.t 41) 0⟩, ⟨some 46, none, .ext (.t 41) 1⟩, ⟨some 13, none, .mov (.t 45)⟩, ⟨some 14, none, .mov (.t 46)⟩]) (.seq (.reg [⟨some 48, none, .load (some 7) (.t 4)⟩, ⟨some 49, none, .mov (.t 3)⟩, ⟨some 50, none, .callf 20 [(.t 48), (.t 49)]⟩, ⟨some 47, none, .mov (.t 50)⟩, ⟨some 51, none, .ext (.t 47) 0⟩, ⟨some 52, none, .ext (.t 47) 1⟩, ⟨some 15, none, .mov (.t 51)⟩, ⟨some 16, none, .mov (.t 52)⟩]) (.seq (.reg [⟨some 53, none, .mov (.t 9)⟩, ⟨some 54, none, .mov (.t 11)⟩, ⟨some 55, none, .callf 21 [(.t 53), (.t 54)]⟩, ⟨some 56, none, .mov (.t 55)⟩, ⟨some 57, some (56, true), .mov (.t 10)⟩, ⟨some 58, some (56, true), .mov (.t 12)⟩, ⟨some 59, some (56, true), .bin .eql (.t 57) (.t 58)⟩, ⟨some 60, none, .land (.t 56) (.t 59)⟩, ⟨some 61, none, .mov (.t 60)⟩, ⟨some 62, some (61, true), .mov (.t 13)⟩, ⟨some 63, some (61, true), .mov (.t 15)⟩, ⟨some 64, some (61, true), .bin .eql (.t 62) (.t 63)⟩, ⟨some 65, none, .land (.t 61) (.t 64)⟩, ⟨some 66, none, .mov (.t 65)⟩, ⟨some 67, some (66, true), .mov (.t 14)⟩, ⟨some 68, some (66, true), .mov (.t 16)⟩, ⟨some 69, some (66, true), .bin .eql (.t 67) (.t 68)⟩, ⟨some 70, none, .land (.t 66) (.t 69)⟩, ⟨some 8, none, .mov (.t 70)⟩]) (.ret)))))))
theorem k_retargetlaw11_AmbiguousHoles : FnOk Tryz.prog 5 71 c_retargetlaw11_AmbiguousHoles [.tmp 8] := .mk' (fn := Tryz.f5) rfl rfl (by kernel_rfl) rfl (by kernel_rfl) (by kernel_rfl)
end Go.Proofs.YtbghfliffomfdaaGreatDoorV

/- The program's functions as trees of our logic (group g). -/
namespace Go.Proofs.YtbghfliffomfdaaGreatDoorV
open Go
set_option maxRecDepth 100000
/- "retarget/retargetref11.Holes" -/
def c_retargetref11_Holes : C :=
.seq (.reg [⟨some 3, none, .box 7 (.t 0)⟩, ⟨some 6, none, .mov (.c (.nilS 1))⟩, ⟨some 7, none, .mov (.c (.pv (.int .i64 0)))⟩]) (.seq (.reg [⟨some 13, none, .load (some 7) (.t 3)⟩, ⟨some 14, none, .callf 28 [(.t 13)]⟩, ⟨some 8, none, .mov (.t 14)⟩]) (.seq (.seq (.reg [⟨some 15, none, .mov (.t 8)⟩, ⟨some 16, none, .bin .neq (.t 15) (.c (.pv (.int .i64 0)))⟩]) (.cond (.t 16) (.seq (.reg [⟨some 17, none, .mov (.t 8)⟩, ⟨some 6, none, .mov (.c (.nilS 1))⟩, ⟨some 7, none, .mov (.t 17)⟩]) (.ret)) (.skip))) (.seq (.seq (.reg [⟨some 18, none, .mov (.t 2)⟩, ⟨some 19, none, .callf 29 [(.t 18), (.c (.pv (.int .i64 0))), (.c (.pv (.int .i64 4096)))]⟩, ⟨some 20, none, .un .not (.t 19)⟩]) (.cond (.t 20) (.seq (.reg [⟨some 6, none, .mov (.c (.nilS 1))⟩, ⟨some 7, none, .mov (.c (.pv (.int .i64 2)))⟩]) (.ret)) (.skip))) (.seq (.reg [⟨some 21, none, .fad 1 (.t 3)⟩, ⟨some 22, none, .load none (.t 21)⟩, ⟨some 23, none, .bin .mul (.c (.pv (.int .i64 8))) (.t 22)⟩, ⟨some 24, none, .callf 40 [(.t 23)]⟩, ⟨some 25, none, .conv .u64 (.t 24)⟩, ⟨some 9, none, .mov (.t 25)⟩]) (.seq (.seq (.reg [⟨some 26, none, .mov (.t 1)⟩, ⟨some 27, none, .mov (.t 9)⟩, ⟨some 28, none, .bin .gtr (.t 26) (.t 27)⟩, ⟨some 29, none, .mov (.t 28)⟩, ⟨some 30, some (29, false), .mov (.t 1)⟩, ⟨some 31, some (29, false), .mov (.t 2)⟩, ⟨some 32, some (29, false), .conv .u64 (.t 31)⟩, ⟨some 33, some (29, false), .bin .add (.t 30) (.t 32)⟩, ⟨some 34, some (29, false), .mov (.t 9)⟩, ⟨some 35, some (29, false), .bin .gtr (.t 33) (.t 34)⟩, ⟨some 36, none, .lor (.t 29) (.t 35)⟩]) (.cond (.t 36) (.seq (.reg [⟨some 6, none, .mov (.c (.nilS 1))⟩, ⟨some 7, none, .mov (.c (.pv (.int .i64 24)))⟩]) (.ret)) (.skip))) (.seq (.reg [⟨some 10, none, .mov (.c (.nilS 1))⟩]) (.gh (.own 10 1) (.seq (.seq (.reg [⟨some 11, none, .mov (.c (.pv (.int .i64 0)))⟩]) (.blk 0 (.loop ⟨[1, 2, 3, 10, 11], [0, 1], 2⟩ (.seq (.seq (.reg [⟨some 37, none, .mov (.t 11)⟩, ⟨some 38, none, .mov (.t 2)⟩, ⟨some 39, none, .bin .lss (.t 37) (.t 38)⟩]) (.cond (.t 39) (.skip) (.ext 0))) (.seq (.blk 1 (.seq (.reg [⟨some 42, none, .mov (.t 1)⟩, ⟨some 43, none, .mov (.t 11)⟩, ⟨some 44, none, .conv .u64 (.t 43)⟩, ⟨some 45, none, .bin .add (.t 42) (.t 44)⟩, ⟨some 12, none, .mov (.t 45)⟩]) (.seq (.reg [⟨some 46, none, .load (some 7) (.t 3)⟩, ⟨some 47, none, .mov (.t 12)⟩, ⟨some 48, none, .callf 35 [(.t 46), (.t 47)]⟩, ⟨some 49, none, .len (.t 48)⟩, ⟨some 50, none, .bin .eql (.t 49) (.c (.pv (.int .i64 0)))⟩]) (.cond (.t 50) (.reg [⟨some 51, none, .mov (.t 10)⟩, ⟨some 52, none, .mov (.t 12)⟩, ⟨some 53, none, .lit 1 [(.t 52)]⟩, ⟨some 54, none, .app 1 8 (.t 51) (.t 53)⟩, ⟨some 10, none, .mov (.t 54)⟩]) (.skip))))) (.reg [⟨some 40, none, .mov (.t 11)⟩, ⟨some 41, none, .bin .add (.t 40) (.c (.pv (.int .i64 1)))⟩, ⟨some 11, none, .mov (.t 41)⟩])))))) (.seq (.reg [⟨some 55, none, .mov (.t 10)⟩, ⟨some 6, none, .mov (.t 55)⟩, ⟨some 7, none, .mov (.c (.pv (.int .i64 0)))⟩]) (.ret))))))))))
theorem k_retargetref11_Holes : FnOk Tryz.prog 18 56 c_retargetref11_Holes [.tmp 6, .tmp 7] := .mk' (fn := Tryz.f18) rfl rfl (by kernel_rfl) rfl (by kernel_rfl) (by kernel_rfl)
/- "retarget/retargetref11.Count" -/
def c_retargetref11_Count : C :=
.seq (.reg [⟨some 2, none, .box 7 (.t 0)⟩, ⟨some 4, none, .mov (.c (.pv (.int .u64 0)))⟩, ⟨some 5, none, .mov (.c (.pv (.int .i64 0)))⟩]) (.seq (.reg [⟨some 11, none, .load (some 7) (.t 2)⟩, ⟨some 12, none, .callf 28 [(.t 11)]⟩, ⟨some 6, none, .mov (.t 12)⟩]) (.seq (.seq (.reg [⟨some 13, none, .mov (.t 6)⟩, ⟨some 14, none, .bin .eql (.t 13) (.c (.pv (.int .i64 0)))⟩, ⟨some 15, none, .mov (.t 14)⟩, ⟨some 16, some (15, true), .mov (.t 1)⟩, ⟨some 17, some (15, true), .fad 6 (.t 2)⟩, ⟨some 18, some (15, true), .load none (.t 17)⟩, ⟨some 19, some (15, true), .len (.t 18)⟩, ⟨some 20, some (15, true), .bin .sub (.t 19) (.c (.pv (.int .i64 1)))⟩, ⟨some 21, some (15, true), .callf 29 [(.t 16), (.c (.pv (.int .i64 0))), (.t 20)]⟩, ⟨some 22, some (15, true), .un .not (.t 21)⟩, ⟨some 23, none, .land (.t 15) (.t 22)⟩]) (.cond (.t 23) (.reg [⟨some 6, none, .mov (.c (.pv (.int .i64 2)))⟩]) (.skip))) (.seq (.seq (.reg [⟨some 24, none, .mov (.t 6)⟩, ⟨some 25, none, .bin .neq (.t 24) (.c (.pv (.int .i64 0)))⟩]) (.cond (.t 25) (.seq (.reg [⟨some 26, none, .mov (.t 6)⟩, ⟨some 4, none, .mov (.c (.pv (.int .u64 0)))⟩, ⟨some 5, none, .mov (.t 26)⟩]) (.ret)) (.skip))) (.seq (.reg [⟨some 7, none, .mov (.c (.pv (.int .i64 1)))⟩]) (.seq (.reg [⟨some 27, none, .fad 6 (.t 2)⟩, ⟨some 28, none, .load none (.t 27)⟩, ⟨some 29, none, .mov (.t 1)⟩, ⟨some 30, none, .iad 9 (.t 28) (.t 29)⟩, ⟨some 31, none, .load (some 9) (.t 30)⟩, ⟨some 8, none, .alloc [.pv (.str ⟨#[]⟩), .pv (.int .u64 0), .pv (.int .u64 0), .nilS 6, .nilS 21, .pv (.int .i64 0), .pv (.int .i64 0), .pv (.int .i64 0), .pv (.int .i64 0)]⟩, ⟨none, none, .store 9 (.t 8) (.t 31)⟩]) (.seq (.seq (.reg [⟨some 9, none, .mov (.c (.pv (.int .i64 0)))⟩]) (.blk 0 (.loop ⟨[2, 7, 8, 9], [0, 1], 2⟩ (.seq (.seq (.reg [⟨some 32, none, .mov (.t 9)⟩, ⟨some 33, none, .fad 3 (.t 8)⟩, ⟨some 34, none, .load none (.t 33)⟩, ⟨some 35, none, .len (.t 34)⟩, ⟨some 36, none, .bin .lss (.t 32) (.t 35)⟩]) (.cond (.t 36) (.skip) (.ext 0))) (.seq (.blk 1 (.seq (.reg [⟨some 39, none, .fad 3 (.t 8)⟩, ⟨some 40, none, .load none (.t 39)⟩, ⟨some 41, none, .mov (.t 9)⟩, ⟨some 42, none, .iad 6 (.t 40) (.t 41)⟩, ⟨some 43, none, .load (some 6) (.t 42)⟩, ⟨some 10, none, .alloc [.pv (.str ⟨#[]⟩), .pv (.int .u8 0), .pv (.int .i64 0), .pv (.int .i64 0), .nilS 2, .pv (.int .i64 0)]⟩, ⟨none, none, .store 6 (.t 10) (.t 43)⟩]) (.seq (.reg [⟨some 44, none, .fad 1 (.t 10)⟩, ⟨some 45, none, .load none (.t 44)⟩, ⟨some 46, none, .bin .neq (.t 45) (.c (.pv (.int .u8 1)))⟩]) (.cond (.t 46) (.reg [⟨some 47, none, .mov (.t 7)⟩, ⟨some 48, none, .load (some 6) (.t 10)⟩, ⟨some 49, none, .callf 41 [(.t 48)]⟩, ⟨some 50, none, .callf 40 [(.t 49)]⟩, ⟨some 51, none, .bin .mul (.t 47) (.t 50)⟩, ⟨some 7, none, .mov (.t 51)⟩]) (.seq (.reg [⟨some 52, none, .fad 5 (.t 10)⟩, ⟨some 53, none, .load none (.t 52)⟩, ⟨some 54, none, .bin .eql (.t 53) (.c (.pv (.int .i64 (-1))))⟩]) (.cond (.t 54) (.reg [⟨some 55, none, .mov (.t 7)⟩, ⟨some 56, none, .fad 4 (.t 2)⟩, ⟨some 57, none, .load none (.t 56)⟩, ⟨some 58, none, .fad 2 (.t 10)⟩, ⟨some 59, none, .load none (.t 58)⟩, ⟨some 60, none, .iad 2 (.t 57) (.t 59)⟩, ⟨some 61, none, .fad 1 (.t 60)⟩, ⟨some 62, none, .load none (.t 61)⟩, ⟨some 63, none, .len (.t 62)⟩, ⟨some 64, none, .bin .mul (.t 55) (.t 63)⟩, ⟨some 7, none, .mov (.t 64)⟩]) (.skip))))))) (.reg [⟨some 37, none, .mov (.t 9)⟩, ⟨some 38, none, .bin .add (.t 37) (.c (.pv (.int .i64 1)))⟩, ⟨some 9, none, .mov (.t 38)⟩])))))) (.seq (.reg [⟨some 65, none, .mov (.t 7)⟩, ⟨some 66, none, .conv .u64 (.t 65)⟩, ⟨some 4, none, .mov (.t 66)⟩, ⟨some 5, none, .mov (.c (.pv (.int .i64 0)))⟩]) (.ret))))))))
theorem k_retargetref11_Count : FnOk Tryz.prog 20 67 c_retargetref11_Count [.tmp 4, .tmp 5] := .mk' (fn := Tryz.f20) rfl rfl (by kernel_rfl) rfl (by kernel_rfl) (by kernel_rfl)
end Go.Proofs.YtbghfliffomfdaaGreatDoorV

/- The program's functions as trees of our logic (group d). -/
namespace Go.Proofs.YtbghfliffomfdaaGreatDoorV
open Go
set_option maxRecDepth 100000
end Go.Proofs.YtbghfliffomfdaaGreatDoorV

/- The program's functions as trees of our logic (group c). -/
namespace Go.Proofs.YtbghfliffomfdaaGreatDoorV
open Go
set_option maxRecDepth 100000
end Go.Proofs.YtbghfliffomfdaaGreatDoorV

/- Contracts: the reference of layer 11: holes, counts. -/
namespace Go.Proofs.YtbghfliffomfdaaGreatDoorV
open Go
set_option maxRecDepth 100000
set_option maxHeartbeats 4000000

theorem p_r11_Holes (gl : Glob) (m : Mach) (w : Nat) (c : Int) (ht : mTerms m) (hw64 : w < 2 ^ 64) : PCall Tryz.prog gl 18 [.pv m.pv, .pv (.int .u64 w), .pv (.int .i64 c)] (.tup [.pv (.lst 1 (words (holesL m w c))), .pv (.int .i64 (holesE m w c))]) := by
  refine k_retargetref11_Holes.pcall (by simp) (by simp) (by simp) fun hwf => ?_
  have hm : m.pv.wf := by have := hwf (.pv m.pv) (by simp); simpa only [DV.wf] using this
  simp [c_retargetref11_Holes]
  refine CallNext.pure (p_r8_Check gl m ht) fun _ => ?_
  simp
  refine ⟨fun h => ?_, fun hc => ?_⟩
  · have hE : holesE m w c = mcheck m := by rw [holesE, if_neg h]
    simp [holesL, hE, h, words]
  have hv := mach_valid hc hm
  have hmw := hv.1
  obtain ⟨W, hW⟩ : ∃ W : Nat, W = (8 * m.word).toNat := ⟨_, rfl⟩
  have hW' : 8 * m.word = (W : Int) := by omega
  have hp : 2 ^ W ≤ 2 ^ 32 := Nat.pow_le_pow_right (by omega) (by omega)
  have hwd : IntKind.i64.wrap (8 * m.word) = W := by rw [hW']; exact wrap_i64 (by omega) (by omega)
  have hpI : (2 : Int) ^ W ≤ 4294967296 ∧ 1 ≤ (2 : Int) ^ W := by have := Nat.two_pow_pos W; rw [pow_cast]; omega
  have hpc := pow_cast W
  refine CallNext.pure (p_r8_In gl _ _ _) fun _ => ?_
  simp
  refine ⟨fun h => ?_, fun hin => ?_⟩
  · have hE : holesE m w c = 2 := by rw [holesE, if_pos hc, if_neg (by simp [h])]
    simp [holesL, hE, words]
  have hc' : 0 ≤ c ∧ c ≤ 4096 := by simpa [inR] using hin
  have hE : holesE m w c = if w + c ≤ 2 ^ W then 0 else 24 := by rw [holesE, if_pos hc, if_pos hin, ← hW]
  simp [Mach.bx, hwd]
  refine CallNext.pure (p_r8_Power gl W (by omega)) fun _ => ?_
  have hwp : IntKind.u64.wrap ((2 : Int) ^ W) = 2 ^ W := wrap_u64 (by omega) (by omega)
  have hwc : IntKind.u64.wrap c = c := wrap_u64 (by omega) (by omega)
  simp [hwp, hwc]
  refine ⟨fun h => ?_, fun g3 g4 => ?_⟩
  · have hn : ¬ ((w : Int) + c ≤ 2 ^ W) := by
      rcases h with h | h
      · omega
      · by_cases hw : (w : Int) ≤ 2 ^ W
        · rw [wrap_u64 (by omega) (by omega)] at h; omega
        · omega
    rw [if_neg hn] at hE
    simp [holesL, hE, words]
  rw [wrap_u64 (by omega) (by omega)] at g4
  rw [if_pos (by omega)] at hE
  obtain ⟨C, rfl⟩ := Int.eq_ofNat_of_zero_le hc'.1
  have hHL : holesL m w (C : Int) = holesN m w C := by rw [holesL, if_pos hE, Int.toNat_natCast]
  rw [hHL, hE]
  refine Loop.nat (fun i => { e := [(1, .pv (.int .u64 w)), (2, .pv (.int .i64 C)), (3, .ptr 0 0), (10, .own 1 1 (words (holesN m w i))), (11, .pv (.int .i64 i))], h := [(0, m.bx), (1, .tip 1 (holesN m w i).length)], nx := 2 }) C (fun _ => True) (by simp [Mach.bx]) trivial (by simp [Mach.bx, holesN, words]) fun i hi hinv => ?_
  by_cases hlt : i < C
  · have hwi : w + i < 2 ^ W := by omega
    have hwi0 : IntKind.u64.wrap (i : Int) = i := wrap_u64 (by omega) (by omega)
    have hwa : IntKind.u64.wrap ((w : Int) + (i : Int)) = ((w + i : Nat) : Int) := by rw [wrap_u64 (by omega) (by omega)]; push_cast; rfl
    have hw1 : IntKind.i64.wrap ((i : Int) + 1) = (i : Int) + 1 := wrap_nat (by omega) (by omega)
    have hhs : holesN m w (i + 1) = holesN m w i ++ if ownN m ((w : Int) + (i : Int)) = [] then [(w : Int) + (i : Int)] else [] := rfl
    have hhl := holesN_len (m := m) (w := w) i
    simp [hlt, hwi0, hwa, Mach.bx]
    refine CallNext.pure (by have := p_r11_Owned gl m (w + i) hv (by rw [← hW]; exact hwi); push_cast at this; exact this) fun _ => ?_
    by_cases hown : ownN m ((w : Int) + (i : Int)) = []
    · simp [hown, hhs, hlt, hw1, words, Mach.bx]
      omega
    · simp [hown, hhs, hlt, hw1, Mach.bx]
  · obtain rfl : i = C := by omega
    simp
theorem p_r11_Count (gl : Glob) (m : Mach) (i : Int) (ht : mTerms m) : PCall Tryz.prog gl 20 [.pv m.pv, .pv (.int .i64 i)] (.tup [.pv (.int .u64 (countW m i)), .pv (.int .i64 (indexE m i))]) := by
  refine k_retargetref11_Count.pcall (by simp) (by simp) (by simp) fun hwf => ?_
  have hm : m.pv.wf := by have := hwf (.pv m.pv) (by simp); simpa only [DV.wf] using this
  simp [c_retargetref11_Count]
  refine CallNext.pure (p_r8_Check gl m ht) fun _ => ?_
  by_cases hc : mcheck m = 0
  rotate_left
  · have hE : indexE m i = mcheck m := by rw [indexE, if_neg hc]
    simp [hc]
    refine ⟨.pv (.bool false), by simp, ?_⟩
    simp [hc, countW, hE]
  have hv := mach_valid hc hm
  have hlen := hv.2.1
  have hmw := hv.1
  have hwl : IntKind.i64.wrap ((m.instrs.length : Int) - 1) = (m.instrs.length : Int) - 1 := wrap_i64 (by omega) (by omega)
  simp [hc, Mach.bx, hwl]
  refine ⟨_, .of (p_r8_In gl _ _ _), by simp, ?_⟩
  simp
  refine ⟨fun hi => ?_, fun hi => ?_⟩
  · have hE : indexE m i = 2 := by rw [indexE, if_pos hc, if_neg (by simp [hi])]
    simp [countW, hE]
  have hE : indexE m i = 0 := by rw [indexE, if_pos hc, if_pos hi]
  have hi' : 0 ≤ i ∧ i ≤ (m.instrs.length : Int) - 1 := by simpa [inR] using hi
  have hs : gt m.instrs i ∈ m.instrs := gt_mem hi'.1 (by omega)
  obtain ⟨h1, h2⟩ := hv.2.2 _ hs
  have hne : m.instrs ≠ [] := by intro hh; simp [hh] at hi'; omega
  simp only [countW, hE, if_true]
  simp [hne, Mach.bx, hi'.1, show i < (m.instrs.length : Int) by omega]
  generalize gt m.instrs i = s at *
  have hso := h1.2.2.2.1
  have hco := fun n hn => countN_le h1 h2 n hn
  have hoo := fun n hn => offO_le (n := n) h1 hn
  refine Loop.nat (fun k => { e := [(2, .ptr 0 0), (7, .pv (.int .i64 (countN m s k : Nat))), (8, .ptr 1 0), (9, .pv (.int .i64 k))], h := [(0, m.bx), (1, s.bx)], nx := 2 }) s.operands.length (fun _ => True) (by simp [Mach.bx, Ins_.bx]) trivial (by simp [Mach.bx, Ins_.bx, countN]) fun k hk hinv => ?_
  by_cases hlt : k < s.operands.length
  · have hl := insV_lay h1 hlt
    have hop := h2 k hlt
    have hcs : countN m s (k + 1) = countN m s k * countO m (gt s.operands (k : Nat)) := rfl
    have hle : countN m s (k + 1) ≤ 2 ^ 32 := Nat.le_trans (hco _ hlt) (Nat.pow_le_pow_right (by omega) (Nat.le_trans (hoo _ hlt) (by omega)))
    have hw1 : IntKind.i64.wrap ((k : Int) + 1) = (k : Int) + 1 := wrap_nat (by omega) (by omega)
    have hone : s.operands ≠ [] := by intro hh; simp [hh] at hlt
    have hmul : ∀ y : Nat, countN m s k * y ≤ 2 ^ 32 → IntKind.i64.wrap ((countN m s k : Int) * (y : Int)) = ((countN m s k * y : Nat) : Int) := fun y hy => by
      have e : (countN m s k : Int) * (y : Int) = ((countN m s k * y : Nat) : Int) := by push_cast; rfl
      rw [e]; exact wrap_i64 (by omega) (by omega)
    simp [hlt, hone, Mach.bx, Ins_.bx]
    generalize hoe : gt s.operands (k : Nat) = o at *
    by_cases hk1 : o.kind = 1
    · by_cases htd : o.tied = -1
      · obtain ⟨⟨b0, b1⟩, r0, r1, -⟩ := hop hk1 htd
        have hbne : m.banks ≠ [] := by intro hh; simp [hh] at b1; omega
        have hcO : countO m o = (gt m.banks o.bank).regs.length := by rw [countO, if_pos hk1, if_pos htd]
        rw [hcO] at hcs
        have hm2 := hmul _ (by rw [← hcs]; exact hle)
        simp [Opnd.bx, hk1, htd, b0, b1, hbne, hm2, hlt, hw1, hcs, Mach.bx]
      · have hcO : countO m o = 1 := by rw [countO, if_pos hk1, if_neg htd]
        simp [Opnd.bx, hk1, htd, hcs, hcO, hlt, hw1, Mach.bx]
    · have hcO : countO m o = 2 ^ offN o.pieces o.pieces.length := by rw [countO, if_neg hk1, fieldI_off hl, Int.toNat_natCast]
      have hoN := off_le hl (k := o.pieces.length) (Nat.le_refl _)
      rw [hcO] at hcs
      have hm2 := hmul _ (by rw [← hcs]; exact hle)
      simp [Opnd.bx, hk1]
      refine CallNext.pure (p_r8_Field gl o) fun _ => ?_
      rw [fieldI_off hl]
      simp
      refine CallNext.pure (p_r8_Power gl _ (by omega)) fun _ => ?_
      rw [pow_cast] 
      simp only [hm2, ← hcs]
      simp [hlt, hw1, Mach.bx, hcs, hm2]
      push_cast at hm2
      exact hm2
  · obtain rfl : k = s.operands.length := by omega
    have hle : countN m s s.operands.length ≤ 2 ^ 32 := Nat.le_trans (hco _ (Nat.le_refl _)) (Nat.pow_le_pow_right (by omega) (Nat.le_trans (hoo _ (Nat.le_refl _)) (by omega)))
    simp [Mach.bx, Ins_.bx]
    exact wrap_u64 (by omega) (by omega)
end Go.Proofs.YtbghfliffomfdaaGreatDoorV

/- The law AmbiguousHoles gives true. -/
namespace Go.Proofs.YtbghfliffomfdaaGreatDoorV
open Go
set_option maxRecDepth 100000
set_option maxHeartbeats 4000000

theorem p_AmbiguousHoles (m : Mach) (w c i : Int) : PCall Tryz.prog glob 5 [.pv m.pv, .pv (.int .u64 w), .pv (.int .i64 c), .pv (.int .i64 i)] (.pv (.bool true)) := by
  refine k_retargetlaw11_AmbiguousHoles.pcall (by simp) (by simp) (by simp) fun hwf => ?_
  have hw0 := hwf (.pv (.int .u64 w)) (by simp)
  simp [IntKind.min, IntKind.max, IntKind.signed, IntKind.bits] at hw0
  obtain ⟨W, rfl⟩ := Int.eq_ofNat_of_zero_le hw0.1
  have hW : W < 2 ^ 64 := by omega
  simp [c_retargetlaw11_AmbiguousHoles]
  refine CallNext.pure (p_r8_Great glob m) fun _ => ?_
  simp
  intro hg hn
  have ht := great_terms hg
  refine CallNext.pure (p_amb_Holes m W c ht hW) fun _ => ?_
  simp
  refine CallNext.pure (p_r11_Holes glob m W c ht hW) fun _ => ?_
  simp
  refine CallNext.pure (p_amb_Count m i ht) fun _ => ?_
  simp
  refine CallNext.pure (p_r11_Count glob m i ht) fun _ => ?_
  simp
  refine CallNext.pure (p_r8_SameWords glob _ _) fun _ => ?_
  simp
end Go.Proofs.YtbghfliffomfdaaGreatDoorV
