/- Packed: Tb Ta Tf Tg Tc Td Kg -/
import Derived.Test.YthocoandbiaoiaaDoorChk4
import Derived.Test.YthocoandbiaoiaaDoorProg
set_option linter.all false
namespace Go.Proofs.YthocoandbiaoiaaDoorV
open Go
set_option maxRecDepth 100000
end Go.Proofs.YthocoandbiaoiaaDoorV

namespace Go.Proofs.YthocoandbiaoiaaDoorV
open Go
set_option maxRecDepth 100000
end Go.Proofs.YthocoandbiaoiaaDoorV

namespace Go.Proofs.YthocoandbiaoiaaDoorV
open Go
set_option maxRecDepth 100000
/- "retarget/retargetlaw11.AmbiguousSelf" -/
def c_retargetlaw11_AmbiguousSelf : C :=
.seq (.reg [⟨some 3, none, .box 7 (.t 0)⟩, ⟨some 6, none, .mov (.c (.pv (.bool false)))⟩]) (.seq (.reg [⟨some 17, none, .callf 8 []⟩, ⟨some 7, none, .mov (.t 17)⟩]) (.seq (.seq (.reg [⟨some 18, none, .load (some 7) (.t 3)⟩, ⟨some 19, none, .callf 9 [(.t 18)]⟩, ⟨some 20, none, .mov (.t 19)⟩, ⟨some 21, some (20, false), .mov (.t 7)⟩, ⟨some 22, some (20, false), .un .not (.t 21)⟩, ⟨some 23, none, .lor (.t 20) (.t 22)⟩]) (.cond (.t 23) (.seq (.reg [⟨some 24, none, .mov (.t 7)⟩, ⟨some 6, none, .mov (.t 24)⟩]) (.ret)) (.skip))) (.seq (.reg [⟨some 26, none, .load (some 7) (.t 3)⟩, ⟨some 27, none, .mov (.t 1)⟩, ⟨some 28, none, .mov (.t 2)⟩, ⟨some 29, none, .callf 15 [(.t 26), (.t 27), (.t 28)]⟩, ⟨some 25, none, .mov (.t 29)⟩, ⟨some 30, none, .ext (.t 25) 0⟩, ⟨some 31, none, .ext (.t 25) 1⟩, ⟨some 32, none, .ext (.t 25) 2⟩, ⟨some 8, none, .mov (.t 30)⟩, ⟨some 9, none, .mov (.t 31)⟩, ⟨some 10, none, .mov (.t 32)⟩]) (.seq (.reg [⟨some 34, none, .load (some 7) (.t 3)⟩, ⟨some 35, none, .mov (.t 2)⟩, ⟨some 36, none, .mov (.t 1)⟩, ⟨some 37, none, .callf 15 [(.t 34), (.t 35), (.t 36)]⟩, ⟨some 33, none, .mov (.t 37)⟩, ⟨some 38, none, .ext (.t 33) 0⟩, ⟨some 39, none, .ext (.t 33) 1⟩, ⟨some 40, none, .ext (.t 33) 2⟩, ⟨some 11, none, .mov (.t 38)⟩, ⟨some 12, none, .mov (.t 39)⟩, ⟨some 13, none, .mov (.t 40)⟩]) (.seq (.seq (.reg [⟨some 41, none, .mov (.t 10)⟩, ⟨some 42, none, .mov (.t 13)⟩, ⟨some 43, none, .bin .neq (.t 41) (.t 42)⟩, ⟨some 44, none, .mov (.t 43)⟩, ⟨some 45, some (44, false), .mov (.t 8)⟩, ⟨some 46, some (44, false), .mov (.t 11)⟩, ⟨some 47, some (44, false), .bin .neq (.t 45) (.t 46)⟩, ⟨some 48, none, .lor (.t 44) (.t 47)⟩, ⟨some 49, none, .mov (.t 48)⟩, ⟨some 50, some (49, false), .mov (.t 9)⟩, ⟨some 51, some (49, false), .mov (.t 12)⟩, ⟨some 52, some (49, false), .beq true (.t 50) (.t 51)⟩, ⟨some 53, none, .lor (.t 49) (.t 52)⟩]) (.cond (.t 53) (.seq (.reg [⟨some 6, none, .mov (.c (.pv (.bool false)))⟩]) (.ret)) (.skip))) (.seq (.seq (.reg [⟨some 54, none, .mov (.t 10)⟩, ⟨some 55, none, .bin .neq (.t 54) (.c (.pv (.int .i64 0)))⟩, ⟨some 56, none, .mov (.t 55)⟩, ⟨some 57, some (56, false), .mov (.t 1)⟩, ⟨some 58, some (56, false), .bin .lss (.t 57) (.c (.pv (.int .i64 0)))⟩, ⟨some 59, none, .lor (.t 56) (.t 58)⟩, ⟨some 60, none, .mov (.t 59)⟩, ⟨some 61, some (60, false), .mov (.t 1)⟩, ⟨some 62, some (60, false), .fad 6 (.t 3)⟩, ⟨some 63, some (60, false), .load none (.t 62)⟩, ⟨some 64, some (60, false), .len (.t 63)⟩, ⟨some 65, some (60, false), .bin .geq (.t 61) (.t 64)⟩, ⟨some 66, none, .lor (.t 60) (.t 65)⟩]) (.cond (.t 66) (.seq (.reg [⟨some 67, none, .mov (.t 7)⟩, ⟨some 68, none, .mov (.t 67)⟩, ⟨some 69, some (68, true), .mov (.t 10)⟩, ⟨some 70, some (68, true), .bin .neq (.t 69) (.c (.pv (.int .i64 0)))⟩, ⟨some 71, none, .land (.t 68) (.t 70)⟩, ⟨some 72, none, .mov (.t 71)⟩, ⟨some 73, some (72, true), .mov (.t 8)⟩, ⟨some 74, some (72, true), .bin .eql (.t 73) (.c (.pv (.int .u64 0)))⟩, ⟨some 75, none, .land (.t 72) (.t 74)⟩, ⟨some 76, none, .mov (.t 75)⟩, ⟨some 77, some (76, true), .mov (.t 9)⟩, ⟨some 78, some (76, true), .un .not (.t 77)⟩, ⟨some 79, none, .land (.t 76) (.t 78)⟩, ⟨some 6, none, .mov (.t 79)⟩]) (.ret)) (.skip))) (.seq (.reg [⟨some 81, none, .load (some 7) (.t 3)⟩, ⟨some 82, none, .mov (.t 1)⟩, ⟨some 83, none, .mov (.t 1)⟩, ⟨some 84, none, .callf 15 [(.t 81), (.t 82), (.t 83)]⟩, ⟨some 80, none, .mov (.t 84)⟩, ⟨some 85, none, .ext (.t 80) 0⟩, ⟨some 86, none, .ext (.t 80) 1⟩, ⟨some 87, none, .ext (.t 80) 2⟩, ⟨some 14, none, .mov (.t 85)⟩, ⟨some 15, none, .mov (.t 86)⟩, ⟨some 16, none, .mov (.t 87)⟩]) (.seq (.reg [⟨some 88, none, .mov (.t 7)⟩, ⟨some 89, none, .mov (.t 88)⟩, ⟨some 90, some (89, true), .mov (.t 16)⟩, ⟨some 91, some (89, true), .bin .eql (.t 90) (.c (.pv (.int .i64 0)))⟩, ⟨some 92, none, .land (.t 89) (.t 91)⟩, ⟨some 93, none, .mov (.t 92)⟩, ⟨some 94, some (93, true), .mov (.t 15)⟩, ⟨some 95, none, .land (.t 93) (.t 94)⟩, ⟨some 96, none, .mov (.t 95)⟩, ⟨some 97, some (96, true), .mov (.t 14)⟩, ⟨some 98, some (96, true), .fad 6 (.t 3)⟩, ⟨some 99, some (96, true), .load none (.t 98)⟩, ⟨some 100, some (96, true), .mov (.t 1)⟩, ⟨some 101, some (96, true), .iad 9 (.t 99) (.t 100)⟩, ⟨some 102, some (96, true), .fad 2 (.t 101)⟩, ⟨some 103, some (96, true), .load none (.t 102)⟩, ⟨some 104, some (96, true), .bin .eql (.t 97) (.t 103)⟩, ⟨some 105, none, .land (.t 96) (.t 104)⟩, ⟨some 106, none, .mov (.t 105)⟩, ⟨some 107, some (106, true), .mov (.t 9)⟩, ⟨some 108, some (106, true), .un .not (.t 107)⟩, ⟨some 109, some (106, true), .mov (.t 108)⟩, ⟨some 110, some (109, false), .mov (.t 8)⟩, ⟨some 111, some (109, false), .mov (.t 14)⟩, ⟨some 112, some (109, false), .bin .geq (.t 110) (.t 111)⟩, ⟨some 113, some (106, true), .lor (.t 109) (.t 112)⟩, ⟨some 114, none, .land (.t 106) (.t 113)⟩, ⟨some 6, none, .mov (.t 114)⟩]) (.ret)))))))))
theorem k_retargetlaw11_AmbiguousSelf : FnOk Tryd.prog 5 115 c_retargetlaw11_AmbiguousSelf [.tmp 6] := .mk' (fn := Tryd.f5) rfl rfl (by kernel_rfl) rfl (by kernel_rfl) (by kernel_rfl)
end Go.Proofs.YthocoandbiaoiaaDoorV

namespace Go.Proofs.YthocoandbiaoiaaDoorV
open Go
set_option maxRecDepth 100000
end Go.Proofs.YthocoandbiaoiaaDoorV

namespace Go.Proofs.YthocoandbiaoiaaDoorV
open Go
set_option maxRecDepth 100000
end Go.Proofs.YthocoandbiaoiaaDoorV

namespace Go.Proofs.YthocoandbiaoiaaDoorV
open Go
set_option maxRecDepth 100000
end Go.Proofs.YthocoandbiaoiaaDoorV

namespace Go.Proofs.YthocoandbiaoiaaDoorV
open Go
set_option maxRecDepth 100000
set_option maxHeartbeats 4000000
theorem meet_comm (m : Mach) (a b : Ins_) : meetW a b = meetW b a := by
  rw [meetW, meetW, borI, borI, BitVec.or_comm]
theorem common_comm (m : Mach) (a b : Int) : commonB m a b = commonB m b a ∧ commonW m a b = commonW m b a := by
  have hB : commonB m a b = commonB m b a := by
    rw [commonB, commonB, commonE_comm m a b, meetB, meetB, meet_comm m (gt m.instrs a), Bool.and_comm (lawB m (gt m.instrs a) _)]
  exact ⟨hB, by rw [commonW, commonW, hB, meet_comm m]⟩
theorem p_AmbiguousSelf (m : Mach) (a b : Int) : PCall Tryd.prog glob 5 [.pv m.pv, .pv (.int .i64 a), .pv (.int .i64 b)] (.pv (.bool true)) := by
  refine k_retargetlaw11_AmbiguousSelf.pcall (by simp) (by simp) (by simp) fun hwf => ?_
  have hm : m.pv.wf := by have := hwf (.pv m.pv) (by simp); simpa only [DV.wf] using this
  have hmk : masksOk m := mach_masks hm
  simp [c_retargetlaw11_AmbiguousSelf]
  refine CallNext.data p_alive11 ?_
  simp
  refine CallNext.pure (p_r8_Great glob m) fun _ => ?_
  simp
  intro hg
  have ht := great_terms hg
  refine CallNext.pure (p_amb_Common m a b ht) fun _ => ?_
  simp
  refine CallNext.pure (p_amb_Common m b a ht) fun _ => ?_
  rw [commonE_comm m b a, (common_comm m b a).1, (common_comm m b a).2]
  simp
  by_cases hE : commonE m a b = 0
  · obtain ⟨ia, ib⟩ := common_in hE
    obtain ⟨hc, h0, h1⟩ := index_in ia
    obtain ⟨s1, s2⟩ := self_law hmk ia
    have hself := common_self hE
    have hne : m.instrs ≠ [] := by intro hh; simp [hh] at h1; omega
    simp [hE, Mach.bx, h0, show a < (m.instrs.length : Int) by omega, show ¬ a < 0 by omega, show ¬ (m.instrs.length : Int) ≤ a by omega]
    refine CallNext.pure (p_amb_Common m a a ht) fun _ => ?_
    rw [s1, s2, hself]
    simp [hne, h0, show a < (m.instrs.length : Int) by omega]
    by_cases hB : commonB m a b = true
    · exact .inr (common_ge hmk hB)
    · exact .inl (by simpa using hB)
  · have hB : commonB m a b = false := by simp [commonB, hE]
    simp [hE, hB, commonW]
end Go.Proofs.YthocoandbiaoiaaDoorV
