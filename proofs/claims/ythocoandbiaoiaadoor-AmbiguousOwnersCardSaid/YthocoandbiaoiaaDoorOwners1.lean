/- Packed: Tb Ta Tf Tg Tc Td Kf -/
import Derived.Test.YthocoandbiaoiaaDoorChk4
import Derived.Test.YthocoandbiaoiaaDoorProg
set_option linter.all false
namespace Go.Proofs.YthocoandbiaoiaaDoorV
open Go
set_option maxRecDepth 100000
end Go.Proofs.YthocoandbiaoiaaDoorV

namespace Go.Proofs.YthocoandbiaoiaaDoorV
open Go
set_option maxRecDepth 100000
end Go.Proofs.YthocoandbiaoiaaDoorV

namespace Go.Proofs.YthocoandbiaoiaaDoorV
open Go
set_option maxRecDepth 100000
/- "retarget/retargetlaw11.AmbiguousOwners" -/
def c_retargetlaw11_AmbiguousOwners : C :=
.seq (.reg [⟨some 2, none, .box 7 (.t 0)⟩, ⟨some 4, none, .mov (.c (.pv (.bool false)))⟩]) (.seq (.reg [⟨some 12, none, .callf 8 []⟩, ⟨some 5, none, .mov (.t 12)⟩]) (.seq (.seq (.reg [⟨some 13, none, .load (some 7) (.t 2)⟩, ⟨some 14, none, .callf 9 [(.t 13)]⟩, ⟨some 15, none, .mov (.t 14)⟩, ⟨some 16, some (15, false), .mov (.t 5)⟩, ⟨some 17, some (15, false), .un .not (.t 16)⟩, ⟨some 18, none, .lor (.t 15) (.t 17)⟩]) (.cond (.t 18) (.seq (.reg [⟨some 19, none, .mov (.t 5)⟩, ⟨some 4, none, .mov (.t 19)⟩]) (.ret)) (.skip))) (.seq (.reg [⟨some 21, none, .load (some 7) (.t 2)⟩, ⟨some 22, none, .mov (.t 1)⟩, ⟨some 23, none, .callf 16 [(.t 21), (.t 22)]⟩, ⟨some 20, none, .mov (.t 23)⟩, ⟨some 24, none, .ext (.t 20) 0⟩, ⟨some 25, none, .ext (.t 20) 1⟩, ⟨some 6, none, .mov (.t 24)⟩, ⟨some 7, none, .mov (.t 25)⟩]) (.seq (.seq (.reg [⟨some 26, none, .mov (.t 7)⟩, ⟨some 27, none, .bin .neq (.t 26) (.c (.pv (.int .i64 0)))⟩]) (.cond (.t 27) (.seq (.reg [⟨some 28, none, .mov (.t 5)⟩, ⟨some 29, none, .mov (.t 28)⟩, ⟨some 30, some (29, true), .mov (.t 6)⟩, ⟨some 31, some (29, true), .len (.t 30)⟩, ⟨some 32, some (29, true), .bin .eql (.t 31) (.c (.pv (.int .i64 0)))⟩, ⟨some 33, none, .land (.t 29) (.t 32)⟩, ⟨some 4, none, .mov (.t 33)⟩]) (.ret)) (.skip))) (.seq (.reg [⟨some 8, none, .mov (.c (.pv (.int .i64 0)))⟩]) (.seq (.seq (.reg [⟨some 9, none, .mov (.c (.pv (.int .i64 0)))⟩]) (.blk 0 (.loop ⟨[1, 2, 5, 6, 8, 9], [0], 1⟩ (.seq (.seq (.reg [⟨some 34, none, .mov (.t 9)⟩, ⟨some 35, none, .fad 6 (.t 2)⟩, ⟨some 36, none, .load none (.t 35)⟩, ⟨some 37, none, .len (.t 36)⟩, ⟨some 38, none, .bin .lss (.t 34) (.t 37)⟩]) (.cond (.t 38) (.skip) (.ext 0))) (.seq (.blk 1 (.seq (.reg [⟨some 42, none, .load (some 7) (.t 2)⟩, ⟨some 43, none, .mov (.t 9)⟩, ⟨some 44, none, .mov (.t 1)⟩, ⟨some 45, none, .callf 17 [(.t 42), (.t 43), (.t 44)]⟩, ⟨some 41, none, .mov (.t 45)⟩, ⟨some 46, none, .ext (.t 41) 0⟩, ⟨some 47, none, .ext (.t 41) 1⟩, ⟨some 10, none, .mov (.t 46)⟩, ⟨some 11, none, .mov (.t 47)⟩]) (.seq (.seq (.reg [⟨some 48, none, .mov (.t 11)⟩, ⟨some 49, none, .bin .neq (.t 48) (.c (.pv (.int .i64 0)))⟩]) (.cond (.t 49) (.seq (.reg [⟨some 4, none, .mov (.c (.pv (.bool false)))⟩]) (.ret)) (.skip))) (.seq (.reg [⟨some 50, none, .mov (.t 10)⟩]) (.cond (.t 50) (.seq (.seq (.reg [⟨some 51, none, .mov (.t 8)⟩, ⟨some 52, none, .mov (.t 6)⟩, ⟨some 53, none, .len (.t 52)⟩, ⟨some 54, none, .bin .geq (.t 51) (.t 53)⟩, ⟨some 55, none, .mov (.t 54)⟩, ⟨some 56, some (55, false), .mov (.t 6)⟩, ⟨some 57, some (55, false), .mov (.t 8)⟩, ⟨some 58, some (55, false), .iad 1 (.t 56) (.t 57)⟩, ⟨some 59, some (55, false), .load none (.t 58)⟩, ⟨some 60, some (55, false), .mov (.t 9)⟩, ⟨some 61, some (55, false), .bin .neq (.t 59) (.t 60)⟩, ⟨some 62, none, .lor (.t 55) (.t 61)⟩]) (.cond (.t 62) (.seq (.reg [⟨some 4, none, .mov (.c (.pv (.bool false)))⟩]) (.ret)) (.skip))) (.reg [⟨some 63, none, .mov (.t 8)⟩, ⟨some 64, none, .bin .add (.t 63) (.c (.pv (.int .i64 1)))⟩, ⟨some 8, none, .mov (.t 64)⟩])) (.skip)))))) (.reg [⟨some 39, none, .mov (.t 9)⟩, ⟨some 40, none, .bin .add (.t 39) (.c (.pv (.int .i64 1)))⟩, ⟨some 9, none, .mov (.t 40)⟩])))))) (.seq (.reg [⟨some 65, none, .mov (.t 5)⟩, ⟨some 66, none, .mov (.t 65)⟩, ⟨some 67, some (66, true), .mov (.t 8)⟩, ⟨some 68, some (66, true), .mov (.t 6)⟩, ⟨some 69, some (66, true), .len (.t 68)⟩, ⟨some 70, some (66, true), .bin .eql (.t 67) (.t 69)⟩, ⟨some 71, none, .land (.t 66) (.t 70)⟩, ⟨some 4, none, .mov (.t 71)⟩]) (.ret))))))))
theorem k_retargetlaw11_AmbiguousOwners : FnOk Tryd.prog 6 72 c_retargetlaw11_AmbiguousOwners [.tmp 4] := .mk' (fn := Tryd.f6) rfl rfl (by kernel_rfl) rfl (by kernel_rfl) (by kernel_rfl)
end Go.Proofs.YthocoandbiaoiaaDoorV

namespace Go.Proofs.YthocoandbiaoiaaDoorV
open Go
set_option maxRecDepth 100000
end Go.Proofs.YthocoandbiaoiaaDoorV

namespace Go.Proofs.YthocoandbiaoiaaDoorV
open Go
set_option maxRecDepth 100000
end Go.Proofs.YthocoandbiaoiaaDoorV

namespace Go.Proofs.YthocoandbiaoiaaDoorV
open Go
set_option maxRecDepth 100000
end Go.Proofs.YthocoandbiaoiaaDoorV

namespace Go.Proofs.YthocoandbiaoiaaDoorV
open Go
set_option maxRecDepth 100000
set_option maxHeartbeats 4000000
theorem p_AmbiguousOwners (m : Mach) (w : Int) : PCall Tryd.prog glob 6 [.pv m.pv, .pv (.int .u64 w)] (.pv (.bool true)) := by
  refine k_retargetlaw11_AmbiguousOwners.pcall (by simp) (by simp) (by simp) fun hwf => ?_
  have hw0 := hwf (.pv (.int .u64 w)) (by simp)
  simp [IntKind.min, IntKind.max, IntKind.signed, IntKind.bits] at hw0
  obtain ⟨W, rfl⟩ := Int.eq_ofNat_of_zero_le hw0.1
  have hW : W < 2 ^ 64 := by omega
  simp [c_retargetlaw11_AmbiguousOwners]
  refine CallNext.data p_alive11 ?_
  simp
  refine CallNext.pure (p_r8_Great glob m) fun _ => ?_
  simp
  intro hg
  have ht := great_terms hg
  refine CallNext.pure (p_amb_Owners m W ht hW) fun _ => ?_
  simp
  refine ⟨fun h => ?_, fun hE => ?_⟩
  · rw [ownersL, if_neg h]
  have hL : ownersL m W = whereN (fun i => lawB m (gt m.instrs (i : Nat)) W) m.instrs.length := by rw [ownersL, if_pos hE]; rfl
  have hlen := (inLimits_iff (mcheck_regs (owners_ok hE).1).2).2.2.2.1
  have hwl := fun n => whereN_len (p := fun i => lawB m (gt m.instrs (i : Nat)) W) n
  rw [hL]
  refine Loop.nat (fun i => { e := [(1, .pv (.int .u64 W)), (2, .ptr 0 0), (5, .pv (.bool true)), (6, .pv (.lst 1 (ints (whereN (fun i => lawB m (gt m.instrs (i : Nat)) W) m.instrs.length)))), (8, .pv (.int .i64 (whereN (fun i => lawB m (gt m.instrs (i : Nat)) W) i).length)), (9, .pv (.int .i64 i))], h := [(0, m.bx)], nx := 1 }) m.instrs.length (fun _ => True) (by simp [Mach.bx]) (by simp) (by simp [Mach.bx, whereN]) fun i hi hinv => ?_
  by_cases hlt : i < m.instrs.length
  · obtain ⟨g1, g2⟩ := legal_of hE hlt
    have h1 := hwl i
    have hsu : whereN (fun i => lawB m (gt m.instrs (i : Nat)) W) (i + 1) = whereN (fun i => lawB m (gt m.instrs (i : Nat)) W) i ++ if lawB m (gt m.instrs (i : Nat)) W then [(i : Int)] else [] := rfl
    simp [hlt, Mach.bx]
    refine CallNext.data (p_amb_Legal m i W ht hW) ?_
    rw [g1, g2]
    have hw1 : IntKind.i64.wrap ((i : Int) + 1) = (i : Int) + 1 := wrap_nat (by omega) (by omega)
    cases hp : lawB m (gt m.instrs (i : Nat)) W
    · rw [hp] at hsu
      simp [hsu, hlt, hw1]
    · obtain ⟨a1, a2⟩ := owners_at hp hlt
      rw [hp] at hsu
      have hne : whereN (fun i => lawB m (gt m.instrs (i : Nat)) W) m.instrs.length ≠ [] := by intro hh; rw [hh] at a1; simp at a1
      have hw2 : IntKind.i64.wrap (((whereN (fun i => lawB m (gt m.instrs (i : Nat)) W) i).length : Int) + 1) = ((whereN (fun i => lawB m (gt m.instrs (i : Nat)) W) i).length : Int) + 1 := wrap_nat (by omega) (by omega)
      simp [hsu, hlt, hw1, hw2, a1, a2, hne]
  · obtain rfl : i = m.instrs.length := by omega
    simp [Mach.bx]
end Go.Proofs.YthocoandbiaoiaaDoorV
