/- Packed: Tb Ta Tf Te Tc Td Lp -/
import Derived.Test.YteiampdhhigjcaaGreatDoorChk5
import Derived.Test.YteiampdhhigjcaaGreatDoorProg
set_option linter.all false
/- The program's functions as trees of our logic (group b). -/
namespace Go.Proofs.YteiampdhhigjcaaGreatDoorV
open Go
set_option maxRecDepth 100000
end Go.Proofs.YteiampdhhigjcaaGreatDoorV

/- The program's functions as trees of our logic (group a). -/
namespace Go.Proofs.YteiampdhhigjcaaGreatDoorV
open Go
set_option maxRecDepth 100000
end Go.Proofs.YteiampdhhigjcaaGreatDoorV

/- The program's functions as trees of our logic (group f). -/
namespace Go.Proofs.YteiampdhhigjcaaGreatDoorV
open Go
set_option maxRecDepth 100000
/- "retarget/retargetlaw08.MachineOverlaps" -/
def c_retargetlaw08_MachineOverlaps : C :=
.seq (.reg [⟨some 3, none, .box 7 (.t 0)⟩, ⟨some 6, none, .mov (.c (.pv (.bool false)))⟩]) (.seq (.reg [⟨some 26, none, .callf 37 []⟩, ⟨some 7, none, .mov (.t 26)⟩]) (.seq (.seq (.reg [⟨some 27, none, .load (some 7) (.t 3)⟩, ⟨some 28, none, .callf 11 [(.t 27)]⟩, ⟨some 29, none, .mov (.t 28)⟩, ⟨some 30, some (29, false), .mov (.t 7)⟩, ⟨some 31, some (29, false), .un .not (.t 30)⟩, ⟨some 32, none, .lor (.t 29) (.t 31)⟩]) (.cond (.t 32) (.seq (.reg [⟨some 33, none, .mov (.t 7)⟩, ⟨some 6, none, .mov (.t 33)⟩]) (.ret)) (.skip))) (.seq (.reg [⟨some 35, none, .load (some 7) (.t 3)⟩, ⟨some 36, none, .mov (.t 1)⟩, ⟨some 37, none, .mov (.t 2)⟩, ⟨some 38, none, .callf 26 [(.t 35), (.t 36), (.t 37)]⟩, ⟨some 34, none, .mov (.t 38)⟩, ⟨some 39, none, .ext (.t 34) 0⟩, ⟨some 40, none, .ext (.t 34) 1⟩, ⟨some 8, none, .mov (.t 39)⟩, ⟨some 9, none, .mov (.t 40)⟩]) (.seq (.reg [⟨some 42, none, .load (some 7) (.t 3)⟩, ⟨some 43, none, .mov (.t 2)⟩, ⟨some 44, none, .mov (.t 1)⟩, ⟨some 45, none, .callf 26 [(.t 42), (.t 43), (.t 44)]⟩, ⟨some 41, none, .mov (.t 45)⟩, ⟨some 46, none, .ext (.t 41) 0⟩, ⟨some 47, none, .ext (.t 41) 1⟩, ⟨some 10, none, .mov (.t 46)⟩, ⟨some 11, none, .mov (.t 47)⟩]) (.seq (.seq (.reg [⟨some 48, none, .mov (.t 9)⟩, ⟨some 49, none, .bin .neq (.t 48) (.c (.pv (.int .i64 0)))⟩]) (.cond (.t 49) (.seq (.reg [⟨some 50, none, .mov (.t 7)⟩, ⟨some 51, none, .mov (.t 50)⟩, ⟨some 52, some (51, true), .mov (.t 11)⟩, ⟨some 53, some (51, true), .mov (.t 9)⟩, ⟨some 54, some (51, true), .bin .eql (.t 52) (.t 53)⟩, ⟨some 55, none, .land (.t 51) (.t 54)⟩, ⟨some 56, none, .mov (.t 55)⟩, ⟨some 57, some (56, true), .mov (.t 8)⟩, ⟨some 58, some (56, true), .un .not (.t 57)⟩, ⟨some 59, none, .land (.t 56) (.t 58)⟩, ⟨some 60, none, .mov (.t 59)⟩, ⟨some 61, some (60, true), .mov (.t 10)⟩, ⟨some 62, some (60, true), .un .not (.t 61)⟩, ⟨some 63, none, .land (.t 60) (.t 62)⟩, ⟨some 6, none, .mov (.t 63)⟩]) (.ret)) (.skip))) (.seq (.reg [⟨some 65, none, .load (some 7) (.t 3)⟩, ⟨some 66, none, .mov (.t 1)⟩, ⟨some 67, none, .mov (.t 1)⟩, ⟨some 68, none, .callf 26 [(.t 65), (.t 66), (.t 67)]⟩, ⟨some 64, none, .mov (.t 68)⟩, ⟨some 69, none, .ext (.t 64) 0⟩, ⟨some 70, none, .ext (.t 64) 1⟩, ⟨some 12, none, .mov (.t 69)⟩, ⟨some 13, none, .mov (.t 70)⟩]) (.seq (.reg [⟨some 72, none, .load (some 7) (.t 3)⟩, ⟨some 73, none, .callf 22 [(.t 72)]⟩, ⟨some 71, none, .mov (.t 73)⟩, ⟨some 74, none, .ext (.t 71) 0⟩, ⟨some 75, none, .ext (.t 71) 1⟩, ⟨some 14, none, .mov (.t 74)⟩, ⟨some 15, none, .mov (.t 75)⟩]) (.seq (.reg [⟨some 77, none, .load (some 7) (.t 3)⟩, ⟨some 78, none, .mov (.t 1)⟩, ⟨some 79, none, .callf 24 [(.t 77), (.t 78)]⟩, ⟨some 76, none, .mov (.t 79)⟩, ⟨some 80, none, .ext (.t 76) 0⟩, ⟨some 81, none, .ext (.t 76) 1⟩, ⟨some 82, none, .ext (.t 76) 2⟩, ⟨some 83, none, .ext (.t 76) 3⟩, ⟨some 16, none, .mov (.t 80)⟩, ⟨some 17, none, .mov (.t 81)⟩, ⟨some 18, none, .mov (.t 82)⟩, ⟨some 19, none, .mov (.t 83)⟩]) (.seq (.seq (.reg [⟨some 84, none, .mov (.t 11)⟩, ⟨some 85, none, .bin .neq (.t 84) (.c (.pv (.int .i64 0)))⟩, ⟨some 86, none, .mov (.t 85)⟩, ⟨some 87, some (86, false), .mov (.t 13)⟩, ⟨some 88, some (86, false), .bin .neq (.t 87) (.c (.pv (.int .i64 0)))⟩, ⟨some 89, none, .lor (.t 86) (.t 88)⟩, ⟨some 90, none, .mov (.t 89)⟩, ⟨some 91, some (90, false), .mov (.t 15)⟩, ⟨some 92, some (90, false), .bin .neq (.t 91) (.c (.pv (.int .i64 0)))⟩, ⟨some 93, none, .lor (.t 90) (.t 92)⟩, ⟨some 94, none, .mov (.t 93)⟩, ⟨some 95, some (94, false), .mov (.t 19)⟩, ⟨some 96, some (94, false), .bin .neq (.t 95) (.c (.pv (.int .i64 0)))⟩, ⟨some 97, none, .lor (.t 94) (.t 96)⟩, ⟨some 98, none, .mov (.t 97)⟩, ⟨some 99, some (98, false), .mov (.t 12)⟩, ⟨some 100, some (98, false), .un .not (.t 99)⟩, ⟨some 101, none, .lor (.t 98) (.t 100)⟩, ⟨some 102, none, .mov (.t 101)⟩, ⟨some 103, some (102, false), .mov (.t 8)⟩, ⟨some 104, some (102, false), .mov (.t 10)⟩, ⟨some 105, some (102, false), .beq true (.t 103) (.t 104)⟩, ⟨some 106, none, .lor (.t 102) (.t 105)⟩, ⟨some 107, none, .mov (.t 106)⟩, ⟨some 108, some (107, false), .mov (.t 16)⟩, ⟨some 109, some (107, false), .bin .lss (.t 108) (.c (.pv (.int .i64 0)))⟩, ⟨some 110, none, .lor (.t 107) (.t 109)⟩, ⟨some 111, none, .mov (.t 110)⟩, ⟨some 112, some (111, false), .mov (.t 16)⟩, ⟨some 113, some (111, false), .mov (.t 14)⟩, ⟨some 114, some (111, false), .len (.t 113)⟩, ⟨some 115, some (111, false), .bin .geq (.t 112) (.t 114)⟩, ⟨some 116, none, .lor (.t 111) (.t 115)⟩, ⟨some 117, none, .mov (.t 116)⟩, ⟨some 118, some (117, false), .mov (.t 18)⟩, ⟨some 119, some (117, false), .bin .lss (.t 118) (.c (.pv (.int .i64 1)))⟩, ⟨some 120, none, .lor (.t 117) (.t 119)⟩, ⟨some 121, none, .mov (.t 120)⟩, ⟨some 122, some (121, false), .mov (.t 18)⟩, ⟨some 123, some (121, false), .bin .gtr (.t 122) (.c (.pv (.int .i64 64)))⟩, ⟨some 124, none, .lor (.t 121) (.t 123)⟩, ⟨some 125, none, .mov (.t 124)⟩, ⟨some 126, some (125, false), .mov (.t 14)⟩, ⟨some 127, some (125, false), .len (.t 126)⟩, ⟨some 128, some (125, false), .bin .gtr (.t 127) (.c (.pv (.int .i64 64)))⟩, ⟨some 129, none, .lor (.t 125) (.t 128)⟩]) (.cond (.t 129) (.seq (.reg [⟨some 6, none, .mov (.c (.pv (.bool false)))⟩]) (.ret)) (.skip))) (.seq (.dreg [⟨some 131, none, .load (some 7) (.t 3)⟩, ⟨some 132, none, .mov (.t 1)⟩, ⟨some 133, none, .mov (.t 14)⟩, ⟨some 134, none, .mov (.t 16)⟩, ⟨some 135, none, .iad 1 (.t 133) (.t 134)⟩, ⟨some 136, none, .load none (.t 135)⟩, ⟨some 137, none, .callf 26 [(.t 131), (.t 132), (.t 136)]⟩, ⟨some 130, none, .mov (.t 137)⟩, ⟨some 138, none, .ext (.t 130) 0⟩, ⟨some 139, none, .ext (.t 130) 1⟩, ⟨some 20, none, .mov (.t 138)⟩, ⟨some 21, none, .mov (.t 139)⟩] [[], [], [], [], [2, 3], [2, 3, 4], [0, 1, 2, 3, 4, 5], [0, 1, 2, 3, 4, 5, 6], [0, 1, 2, 3, 4, 5, 6, 7], [0, 1, 2, 3, 4, 5, 6, 7], [0, 1, 2, 3, 4, 5, 6, 7, 8], [0, 1, 2, 3, 4, 5, 6, 7, 8, 9, 10]]) (.seq (.dreg [⟨some 141, none, .load (some 7) (.t 3)⟩, ⟨some 142, none, .mov (.t 14)⟩, ⟨some 143, none, .len (.t 142)⟩, ⟨some 144, none, .mkz 8 (.int .u64 0) (.t 143)⟩, ⟨some 145, none, .mov (.t 1)⟩, ⟨some 146, none, .mov (.t 18)⟩, ⟨some 147, none, .bin .sub (.c (.pv (.int .i64 64))) (.t 146)⟩, ⟨some 148, none, .conv .u64 (.t 147)⟩, ⟨some 149, none, .bin .shr (.c (.pv (.int .u64 18446744073709551615))) (.t 148)⟩, ⟨some 150, none, .callf 30 [(.t 141), (.t 144), (.t 145), (.t 149)]⟩, ⟨some 140, none, .mov (.t 150)⟩, ⟨some 151, none, .ext (.t 140) 0⟩, ⟨some 152, none, .ext (.t 140) 1⟩, ⟨some 22, none, .mov (.t 151)⟩, ⟨some 23, none, .mov (.t 152)⟩] [[], [], [1], [1, 2], [], [], [5], [5, 6], [5, 6, 7], [0, 1, 2, 3, 4, 5, 6, 7, 8], [0, 1, 2, 3, 4, 5, 6, 7, 8, 9], [0, 1, 2, 3, 4, 5, 6, 7, 8, 9, 10], [0, 1, 2, 3, 4, 5, 6, 7, 8, 9, 10], [0, 1, 2, 3, 4, 5, 6, 7, 8, 9, 10, 11], [0, 1, 2, 3, 4, 5, 6, 7, 8, 9, 10, 11, 12, 13]]) (.seq (.reg [⟨some 154, none, .load (some 7) (.t 3)⟩, ⟨some 155, none, .mov (.t 22)⟩, ⟨some 156, none, .mov (.t 2)⟩, ⟨some 157, none, .callf 28 [(.t 154), (.t 155), (.t 156)]⟩, ⟨some 153, none, .mov (.t 157)⟩, ⟨some 158, none, .ext (.t 153) 0⟩, ⟨some 159, none, .ext (.t 153) 1⟩, ⟨some 24, none, .mov (.t 158)⟩, ⟨some 25, none, .mov (.t 159)⟩]) (.seq (.reg [⟨some 160, none, .mov (.t 7)⟩, ⟨some 161, none, .mov (.t 160)⟩, ⟨some 162, some (161, true), .mov (.t 21)⟩, ⟨some 163, some (161, true), .bin .eql (.t 162) (.c (.pv (.int .i64 0)))⟩, ⟨some 164, none, .land (.t 161) (.t 163)⟩, ⟨some 165, none, .mov (.t 164)⟩, ⟨some 166, some (165, true), .mov (.t 20)⟩, ⟨some 167, none, .land (.t 165) (.t 166)⟩, ⟨some 168, none, .mov (.t 167)⟩, ⟨some 169, some (168, true), .mov (.t 23)⟩, ⟨some 170, some (168, true), .bin .eql (.t 169) (.c (.pv (.int .i64 0)))⟩, ⟨some 171, none, .land (.t 168) (.t 170)⟩, ⟨some 172, none, .mov (.t 171)⟩, ⟨some 173, some (172, true), .mov (.t 25)⟩, ⟨some 174, some (172, true), .bin .eql (.t 173) (.c (.pv (.int .i64 0)))⟩, ⟨some 175, none, .land (.t 172) (.t 174)⟩, ⟨some 176, none, .mov (.t 175)⟩, ⟨some 177, some (176, true), .mov (.t 24)⟩, ⟨some 178, some (176, true), .bin .neq (.t 177) (.c (.pv (.int .u64 0)))⟩, ⟨some 179, some (176, true), .mov (.t 8)⟩, ⟨some 180, some (176, true), .beq false (.t 178) (.t 179)⟩, ⟨some 181, none, .land (.t 176) (.t 180)⟩, ⟨some 6, none, .mov (.t 181)⟩]) (.ret))))))))))))))
theorem k_retargetlaw08_MachineOverlaps : FnOk Tryz.prog 9 182 c_retargetlaw08_MachineOverlaps [.tmp 6] := .mk' (fn := Tryz.f9) rfl rfl (by kernel_rfl) rfl (by kernel_rfl) (by kernel_rfl)
end Go.Proofs.YteiampdhhigjcaaGreatDoorV

/- The program's functions as trees of our logic (group e). -/
namespace Go.Proofs.YteiampdhhigjcaaGreatDoorV
open Go
set_option maxRecDepth 100000
end Go.Proofs.YteiampdhhigjcaaGreatDoorV

/- The program's functions as trees of our logic (group c). -/
namespace Go.Proofs.YteiampdhhigjcaaGreatDoorV
open Go
set_option maxRecDepth 100000
end Go.Proofs.YteiampdhhigjcaaGreatDoorV

/- The program's functions as trees of our logic (group d). -/
namespace Go.Proofs.YteiampdhhigjcaaGreatDoorV
open Go
set_option maxRecDepth 100000
end Go.Proofs.YteiampdhhigjcaaGreatDoorV

/- The law MachineOverlaps gives true. -/
namespace Go.Proofs.YteiampdhhigjcaaGreatDoorV
open Go
set_option maxRecDepth 100000
set_option maxHeartbeats 4000000

theorem p_MachineOverlaps (m : Mach) (a b : Int) : PCall Tryz.prog glob 9 [.pv m.pv, .pv (.int .i64 a), .pv (.int .i64 b)] (.pv (.bool true)) := by
  refine k_retargetlaw08_MachineOverlaps.pcall (by simp) (by simp) (by simp) fun hwf => ?_
  simp [c_retargetlaw08_MachineOverlaps]
  refine CallNext.data p_alive ?_
  simp
  refine CallNext.pure (p_r8_Great glob m) fun _ => ?_
  simp
  intro hg
  have ht := great_terms hg
  refine CallNext.data (p_machine_Overlap m a b ht) ?_
  simp
  refine CallNext.data (p_machine_Overlap m b a ht) ?_
  simp
  by_cases hE : overE m a b = 0
  · obtain ⟨hpa, hpb⟩ := overE_parts hE
    have hE' : overE m b a = 0 := overE_of hpb hpa
    have hEa : overE m a a = 0 := overE_of hpa hpa
    have hc := (partE_zero hpa).1
    obtain ⟨p, l, w, a1, a2, a3, a4, a5⟩ := part_fit hpa
    obtain ⟨q, l', w', b1, b2, b3, b4, b5⟩ := part_fit hpb
    obtain ⟨r1, r2⟩ := root_of hpa a1
    have hrl : rootsL m = tops m := by rw [rootsL, if_pos hc]
    have hpr : partR m a = ((p : Int), (l : Int), (w : Int)) := by rw [partR, if_pos hc, a1]
    have h64 := tops_le (inLimits_iff (mcheck_regs hc).2).1
    have hs : overR m a a = true := by rw [overR_of hEa]; exact over_self hpa
    have hsym : overR m a b = overR m b a := by rw [overR_of hE, overR_of hE', overB_comm]
    have hf0 := fits_zeros m
    have hv0 : valE m (List.replicate (tops m).length 0) a = 0 := by rw [valE, if_pos hpa, if_pos hf0]
    have hx : ((2 ^ w - 1 : Nat) : Int) < 2 ^ w := by
      have : (2 ^ w - 1 : Nat) < 2 ^ w := by have := Nat.two_pow_pos w; omega
      exact_mod_cast this
    obtain ⟨w1, w2⟩ := write_of hv0 a1 hx
    have hf1 := fits_wr (x := ((2 ^ w - 1 : Nat) : Int)) hf0 (by intro y hy; rw [(List.mem_replicate.1 hy).2]; omega) (by simpa using a2) a5
    have hvb : valE m (wrF (List.replicate (tops m).length 0) p l w ((2 ^ w - 1 : Nat) : Int)) b = 0 := by rw [valE, if_pos hpb, if_pos hf1]
    have hsee := seen_iff a1 b1 a2 b2 a3 b3
    have hup : overE m a (gt (tops m) (p : Nat)) = 0 := overE_of hpa r1
    have hup' : overR m a (gt (tops m) (p : Nat)) = true := by rw [overR_of hup]; exact r2
    have hne : tops m ≠ [] := by intro h; rw [h] at a2; simp at a2
    simp [hE]
    refine CallNext.data (p_machine_Overlap m a a ht) ?_
    simp
    refine CallNext.data (p_machine_Roots m ht) ?_
    simp
    refine CallNext.data (p_machine_Part m a ht) ?_
    simp
    simp only [hE', hEa, hc, hpa, hs, hsym, hpr, hrl]
    refine ⟨⟨⟨⟨⟨⟨⟨⟨⟨⟨⟨trivial, trivial⟩, trivial⟩, trivial⟩, trivial⟩, trivial⟩, by omega⟩, by omega⟩, by omega⟩, by omega⟩, by omega⟩, fun _ _ _ _ _ _ _ _ _ _ _ => ⟨⟨by omega, by omega⟩, ?_⟩⟩
    simp [hne]
    refine DCallNext.pure (p_machine_Overlap m a _ ht) ?_
    simp
    have hz : List.replicate (tops m).length (PV.int .u64 0) = words (List.replicate (tops m).length 0) := by simp [words]
    have hsh : Int.fdiv 18446744073709551615 (2 ^ min (64 - (w : Int)).toNat IntKind.u64.bits) = ((2 ^ w - 1 : Nat) : Int) := ones_shift w a3 (by omega)
    have hw1 : IntKind.i64.wrap (64 - (w : Int)) = 64 - w := wrap_small (by omega) (by omega)
    have hw2 : IntKind.u64.wrap (64 - (w : Int)) = 64 - w := wrap_small (by omega) (by omega)
    simp only [hw1, hw2, hsh, hz]
    refine ⟨by omega, by omega, ?_⟩
    refine DCallNext.pure (p_machine_Write m (List.replicate (tops m).length 0) a _ ht) ?_
    simp [w1, w2, hup, hup']
    refine CallNext.data (p_machine_Read m (wrF (List.replicate (tops m).length 0) p l w ((2 ^ w - 1 : Nat) : Int)) b ht) ?_
    simp [hvb, read_of hvb b1]
    rw [← hsym, overR_of hE]
    exact hsee
  · have hE' : overE m b a ≠ 0 := by rw [overE_comm]; exact hE
    simp [hE]
    exact ⟨⟨overE_comm m b a, by simp [overR, hE]⟩, by simp [overR, hE']⟩
end Go.Proofs.YteiampdhhigjcaaGreatDoorV
