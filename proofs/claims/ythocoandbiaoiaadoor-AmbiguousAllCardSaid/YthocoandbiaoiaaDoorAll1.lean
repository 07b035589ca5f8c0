/- Packed: Tb Ta Tf Tg Tc Td Ki -/
import Derived.Test.YthocoandbiaoiaaDoorChk4
import Derived.Test.YthocoandbiaoiaaDoorProg
set_option linter.all false
namespace Go.Proofs.YthocoandbiaoiaaDoorV
open Go
set_option maxRecDepth 100000
end Go.Proofs.YthocoandbiaoiaaDoorV

namespace Go.Proofs.YthocoandbiaoiaaDoorV
open Go
set_option maxRecDepth 100000
end Go.Proofs.YthocoandbiaoiaaDoorV

namespace Go.Proofs.YthocoandbiaoiaaDoorV
open Go
set_option maxRecDepth 100000
/- "retarget/retargetlaw11.AmbiguousAll" -/
def c_retargetlaw11_AmbiguousAll : C :=
.seq (.reg [⟨some 1, none, .box 7 (.t 0)⟩, ⟨some 2, none, .mov (.c (.pv (.bool false)))⟩]) (.seq (.reg [⟨some 12, none, .callf 8 []⟩, ⟨some 3, none, .mov (.t 12)⟩]) (.seq (.seq (.reg [⟨some 13, none, .load (some 7) (.t 1)⟩, ⟨some 14, none, .callf 9 [(.t 13)]⟩, ⟨some 15, none, .mov (.t 14)⟩, ⟨some 16, some (15, false), .fad 1 (.t 1)⟩, ⟨some 17, some (15, false), .load none (.t 16)⟩, ⟨some 18, some (15, false), .bin .neq (.t 17) (.c (.pv (.int .i64 1)))⟩, ⟨some 19, none, .lor (.t 15) (.t 18)⟩, ⟨some 20, none, .mov (.t 19)⟩, ⟨some 21, some (20, false), .mov (.t 3)⟩, ⟨some 22, some (20, false), .un .not (.t 21)⟩, ⟨some 23, none, .lor (.t 20) (.t 22)⟩]) (.cond (.t 23) (.seq (.reg [⟨some 24, none, .mov (.t 3)⟩, ⟨some 2, none, .mov (.t 24)⟩]) (.ret)) (.skip))) (.seq (.reg [⟨some 26, none, .load (some 7) (.t 1)⟩, ⟨some 27, none, .callf 10 [(.t 26)]⟩, ⟨some 25, none, .mov (.t 27)⟩, ⟨some 28, none, .ext (.t 25) 0⟩, ⟨some 29, none, .ext (.t 25) 1⟩, ⟨some 4, none, .mov (.t 28)⟩, ⟨some 5, none, .mov (.t 29)⟩]) (.seq (.reg [⟨some 31, none, .load (some 7) (.t 1)⟩, ⟨some 32, none, .callf 11 [(.t 31), (.c (.pv (.int .u64 0))), (.c (.pv (.int .i64 256)))]⟩, ⟨some 30, none, .mov (.t 32)⟩, ⟨some 33, none, .ext (.t 30) 0⟩, ⟨some 34, none, .ext (.t 30) 1⟩, ⟨some 6, none, .mov (.t 33)⟩, ⟨some 7, none, .mov (.t 34)⟩]) (.seq (.seq (.reg [⟨some 35, none, .mov (.t 5)⟩, ⟨some 36, none, .bin .neq (.t 35) (.c (.pv (.int .i64 0)))⟩]) (.cond (.t 36) (.seq (.reg [⟨some 37, none, .mov (.t 3)⟩, ⟨some 38, none, .mov (.t 37)⟩, ⟨some 39, some (38, true), .mov (.t 7)⟩, ⟨some 40, some (38, true), .mov (.t 5)⟩, ⟨some 41, some (38, true), .bin .eql (.t 39) (.t 40)⟩, ⟨some 42, none, .land (.t 38) (.t 41)⟩, ⟨some 43, none, .mov (.t 42)⟩, ⟨some 44, some (43, true), .mov (.t 6)⟩, ⟨some 45, some (43, true), .len (.t 44)⟩, ⟨some 46, some (43, true), .bin .eql (.t 45) (.c (.pv (.int .i64 0)))⟩, ⟨some 47, none, .land (.t 43) (.t 46)⟩, ⟨some 2, none, .mov (.t 47)⟩]) (.ret)) (.skip))) (.seq (.reg [⟨some 48, none, .mov (.t 6)⟩, ⟨some 49, none, .len (.t 48)⟩, ⟨some 50, none, .conv .u64 (.t 49)⟩, ⟨some 8, none, .mov (.t 50)⟩]) (.seq (.seq (.reg [⟨some 9, none, .mov (.c (.pv (.int .i64 0)))⟩]) (.blk 0 (.loop ⟨[1, 3, 4, 7, 8, 9], [0], 1⟩ (.seq (.seq (.reg [⟨some 51, none, .mov (.t 9)⟩, ⟨some 52, none, .fad 6 (.t 1)⟩, ⟨some 53, none, .load none (.t 52)⟩, ⟨some 54, none, .len (.t 53)⟩, ⟨some 55, none, .bin .lss (.t 51) (.t 54)⟩]) (.cond (.t 55) (.skip) (.ext 0))) (.seq (.blk 1 (.seq (.reg [⟨some 59, none, .load (some 7) (.t 1)⟩, ⟨some 60, none, .mov (.t 9)⟩, ⟨some 61, none, .callf 12 [(.t 59), (.t 60)]⟩, ⟨some 58, none, .mov (.t 61)⟩, ⟨some 62, none, .ext (.t 58) 0⟩, ⟨some 63, none, .ext (.t 58) 1⟩, ⟨some 10, none, .mov (.t 62)⟩, ⟨some 11, none, .mov (.t 63)⟩]) (.seq (.seq (.reg [⟨some 64, none, .mov (.t 11)⟩, ⟨some 65, none, .bin .neq (.t 64) (.c (.pv (.int .i64 0)))⟩, ⟨some 66, none, .mov (.t 65)⟩, ⟨some 67, some (66, false), .mov (.t 10)⟩, ⟨some 68, some (66, false), .bin .gtr (.t 67) (.c (.pv (.int .u64 256)))⟩, ⟨some 69, none, .lor (.t 66) (.t 68)⟩]) (.cond (.t 69) (.seq (.reg [⟨some 2, none, .mov (.c (.pv (.bool false)))⟩]) (.ret)) (.skip))) (.reg [⟨some 70, none, .mov (.t 8)⟩, ⟨some 71, none, .mov (.t 10)⟩, ⟨some 72, none, .bin .add (.t 70) (.t 71)⟩, ⟨some 8, none, .mov (.t 72)⟩])))) (.reg [⟨some 56, none, .mov (.t 9)⟩, ⟨some 57, none, .bin .add (.t 56) (.c (.pv (.int .i64 1)))⟩, ⟨some 9, none, .mov (.t 57)⟩])))))) (.seq (.reg [⟨some 73, none, .mov (.t 3)⟩, ⟨some 74, none, .mov (.t 73)⟩, ⟨some 75, some (74, true), .mov (.t 7)⟩, ⟨some 76, some (74, true), .bin .eql (.t 75) (.c (.pv (.int .i64 0)))⟩, ⟨some 77, none, .land (.t 74) (.t 76)⟩, ⟨some 78, none, .mov (.t 77)⟩, ⟨some 79, some (78, true), .mov (.t 4)⟩, ⟨some 80, some (78, true), .len (.t 79)⟩, ⟨some 81, some (78, true), .bin .eql (.t 80) (.c (.pv (.int .i64 0)))⟩, ⟨some 82, some (78, true), .mov (.t 8)⟩, ⟨some 83, some (78, true), .bin .eql (.t 82) (.c (.pv (.int .u64 256)))⟩, ⟨some 84, some (78, true), .beq false (.t 81) (.t 83)⟩, ⟨some 85, none, .land (.t 78) (.t 84)⟩, ⟨some 86, none, .mov (.t 85)⟩, ⟨some 87, some (86, true), .mov (.t 8)⟩, ⟨some 88, some (86, true), .bin .geq (.t 87) (.c (.pv (.int .u64 256)))⟩, ⟨some 89, none, .land (.t 86) (.t 88)⟩, ⟨some 2, none, .mov (.t 89)⟩]) (.ret)))))))))
theorem k_retargetlaw11_AmbiguousAll : FnOk Tryd.prog 3 90 c_retargetlaw11_AmbiguousAll [.tmp 2] := .mk' (fn := Tryd.f3) rfl rfl (by kernel_rfl) rfl (by kernel_rfl) (by kernel_rfl)
end Go.Proofs.YthocoandbiaoiaaDoorV

namespace Go.Proofs.YthocoandbiaoiaaDoorV
open Go
set_option maxRecDepth 100000
end Go.Proofs.YthocoandbiaoiaaDoorV

namespace Go.Proofs.YthocoandbiaoiaaDoorV
open Go
set_option maxRecDepth 100000
end Go.Proofs.YthocoandbiaoiaaDoorV

namespace Go.Proofs.YthocoandbiaoiaaDoorV
open Go
set_option maxRecDepth 100000
end Go.Proofs.YthocoandbiaoiaaDoorV

namespace Go.Proofs.YthocoandbiaoiaaDoorV
open Go
set_option maxRecDepth 100000
set_option maxHeartbeats 4000000
theorem p_AmbiguousAll (m : Mach) : PCall Tryd.prog glob 3 [.pv m.pv] (.pv (.bool true)) := by
  refine k_retargetlaw11_AmbiguousAll.pcall (by simp) (by simp) (by simp) fun hwf => ?_
  have hm : m.pv.wf := by have := hwf (.pv m.pv) (by simp); simpa only [DV.wf] using this
  have hmk : masksOk m := mach_masks hm
  simp [c_retargetlaw11_AmbiguousAll]
  refine CallNext.data p_alive11 ?_
  simp
  refine CallNext.pure (p_r8_Great glob m) fun _ => ?_
  simp [Mach.bx]
  intro hg hw
  have ht := great_terms hg
  refine CallNext.pure (p_amb_Clashes m ht) fun _ => ?_
  simp
  refine CallNext.pure (by have := p_amb_Holes m 0 256 ht (by omega); exact this) fun _ => ?_
  simp
  refine ⟨fun h => ?_, fun hc => ?_⟩
  · have hE : holesE m 0 256 = mcheck m := by rw [holesE, if_neg h]
    exact ⟨hE, holes_nil (by rw [hE]; exact h)⟩
  obtain ⟨a1, a2, a3⟩ := all_law hc hmk hw
  have hE : holesE m 0 256 = 0 := by rw [holesE, if_pos hc, hw]; rfl
  have hL : holesL m 0 256 = holesN m 0 256 := by rw [holesL, if_pos hE]; rfl
  have hlen := (inLimits_iff (mcheck_regs hc).2).2.2.2.1
  have hhl := holesN_len (m := m) (w := 0) 256
  have hs := fun n hn => counts_le (m := m) (f := fun i => countN m (gt m.instrs (i : Nat)) (gt m.instrs (i : Nat)).operands.length) n fun i (hi : i < n) => a3 i (Nat.lt_of_lt_of_le hi hn)
  rw [hE, hL]
  have hw0 : IntKind.u64.wrap ((holesN m 0 256).length : Int) = ((holesN m 0 256).length : Int) := wrap_u64 (by omega) (by omega)
  refine Loop.nat (fun i => { e := [(1, .ptr 0 0), (3, .pv (.bool true)), (4, .pv (.lst 3 ((clashL m).map Clash.pv))), (7, .pv (.int .i64 0)), (8, .pv (.int .u64 (sumN (fun i => countN m (gt m.instrs (i : Nat)) (gt m.instrs (i : Nat)).operands.length) i + (holesN m 0 256).length : Nat))), (9, .pv (.int .i64 i))], h := [(0, m.bx)], nx := 1 }) m.instrs.length (fun _ => True) (by simp [Mach.bx]) trivial (by simp [Mach.bx, sumN, hw0]) fun i hi hinv => ?_
  by_cases hlt : i < m.instrs.length
  · have h0 : indexE m i = 0 := by rw [indexE, if_pos hc, if_pos (by simp [inR]; omega)]
    have hcw : countW m i = ((countN m (gt m.instrs (i : Nat)) (gt m.instrs (i : Nat)).operands.length : Nat) : Int) := by rw [countW, if_pos h0]
    have hh := a3 i hlt
    have hsi := hs i (by omega)
    have hsu : sumN (fun i => countN m (gt m.instrs (i : Nat)) (gt m.instrs (i : Nat)).operands.length) (i + 1) = sumN (fun i => countN m (gt m.instrs (i : Nat)) (gt m.instrs (i : Nat)).operands.length) i + countN m (gt m.instrs (i : Nat)) (gt m.instrs (i : Nat)).operands.length := rfl
    simp [hlt, Mach.bx]
    refine CallNext.data (p_amb_Count m i ht) ?_
    rw [h0, hcw]
    have hw1 : IntKind.i64.wrap ((i : Int) + 1) = (i : Int) + 1 := wrap_nat (by omega) (by omega)
    have hwS : IntKind.u64.wrap (((sumN (fun i => countN m (gt m.instrs (i : Nat)) (gt m.instrs (i : Nat)).operands.length) i : Nat) : Int) + ((holesN m 0 256).length : Int) + ((countN m (gt m.instrs (i : Nat)) (gt m.instrs (i : Nat)).operands.length : Nat) : Int)) = ((sumN (fun i => countN m (gt m.instrs (i : Nat)) (gt m.instrs (i : Nat)).operands.length) (i + 1) : Nat) : Int) + ((holesN m 0 256).length : Int) := by
      rw [hsu, wrap_u64 (by omega) (by omega)]; push_cast; omega
    simp [hlt, hw1, hwS]
    omega
  · obtain rfl : i = m.instrs.length := by omega
    simp [Mach.bx]
    exact ⟨⟨fun h => by have := a2.2 h; omega, fun h => a2.1 (by omega)⟩, by omega⟩
end Go.Proofs.YthocoandbiaoiaaDoorV
