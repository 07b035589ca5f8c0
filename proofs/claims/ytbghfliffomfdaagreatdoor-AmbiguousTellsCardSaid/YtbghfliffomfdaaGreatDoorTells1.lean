/- Packed: Tb Ta Tf Tg Tc Td Ka -/
import Derived.Test.YtbghfliffomfdaaGreatDoorChk5
import Derived.Test.YtbghfliffomfdaaGreatDoorProg
set_option linter.all false
/- The program's functions as trees of our logic (group b). -/
namespace Go.Proofs.YtbghfliffomfdaaGreatDoorV
open Go
set_option maxRecDepth 100000
end Go.Proofs.YtbghfliffomfdaaGreatDoorV

/- The program's functions as trees of our logic (group a). -/
namespace Go.Proofs.YtbghfliffomfdaaGreatDoorV
open Go
set_option maxRecDepth 100000
end Go.Proofs.YtbghfliffomfdaaGreatDoorV

/- The program's functions as trees of our logic (group f). -/
namespace Go.Proofs.YtbghfliffomfdaaGreatDoorV
open Go
set_option maxRecDepth 100000
/- "retarget/retargetlaw11.AmbiguousTells" -/
def c_retargetlaw11_AmbiguousTells : C :=
.seq (.reg [⟨some 3, none, .box 7 (.t 0)⟩, ⟨some 6, none, .mov (.c (.pv (.bool false)))⟩]) (.seq (.seq (.reg [⟨some 15, none, .load (some 7) (.t 3)⟩, ⟨some 16, none, .callf 6 [(.t 15)]⟩]) (.cond (.t 16) (.seq (.reg [⟨some 6, none, .mov (.c (.pv (.bool true)))⟩]) (.ret)) (.skip))) (.seq (.reg [⟨some 18, none, .load (some 7) (.t 3)⟩, ⟨some 19, none, .mov (.t 1)⟩, ⟨some 20, none, .mov (.t 2)⟩, ⟨some 21, none, .callf 7 [(.t 18), (.t 19), (.t 20)]⟩, ⟨some 17, none, .mov (.t 21)⟩, ⟨some 22, none, .ext (.t 17) 0⟩, ⟨some 23, none, .ext (.t 17) 1⟩, ⟨some 7, none, .mov (.t 22)⟩, ⟨some 8, none, .mov (.t 23)⟩]) (.seq (.reg [⟨some 25, none, .load (some 7) (.t 3)⟩, ⟨some 26, none, .mov (.t 1)⟩, ⟨some 27, none, .mov (.t 2)⟩, ⟨some 28, none, .callf 8 [(.t 25), (.t 26), (.t 27)]⟩, ⟨some 24, none, .mov (.t 28)⟩, ⟨some 29, none, .ext (.t 24) 0⟩, ⟨some 30, none, .ext (.t 24) 1⟩, ⟨some 9, none, .mov (.t 29)⟩, ⟨some 10, none, .mov (.t 30)⟩]) (.seq (.reg [⟨some 32, none, .load (some 7) (.t 3)⟩, ⟨some 33, none, .mov (.t 2)⟩, ⟨some 34, none, .callf 9 [(.t 32), (.t 33)]⟩, ⟨some 31, none, .mov (.t 34)⟩, ⟨some 35, none, .ext (.t 31) 0⟩, ⟨some 36, none, .ext (.t 31) 1⟩, ⟨some 11, none, .mov (.t 35)⟩, ⟨some 12, none, .mov (.t 36)⟩]) (.seq (.reg [⟨some 38, none, .load (some 7) (.t 3)⟩, ⟨some 39, none, .mov (.t 2)⟩, ⟨some 40, none, .callf 10 [(.t 38), (.t 39)]⟩, ⟨some 37, none, .mov (.t 40)⟩, ⟨some 41, none, .ext (.t 37) 0⟩, ⟨some 42, none, .ext (.t 37) 1⟩, ⟨some 13, none, .mov (.t 41)⟩, ⟨some 14, none, .mov (.t 42)⟩]) (.seq (.reg [⟨some 43, none, .mov (.t 7)⟩, ⟨some 44, none, .mov (.t 9)⟩, ⟨some 45, none, .beq false (.t 43) (.t 44)⟩, ⟨some 46, none, .mov (.t 45)⟩, ⟨some 47, some (46, true), .mov (.t 8)⟩, ⟨some 48, some (46, true), .mov (.t 10)⟩, ⟨some 49, some (46, true), .bin .eql (.t 47) (.t 48)⟩, ⟨some 50, none, .land (.t 46) (.t 49)⟩, ⟨some 51, none, .mov (.t 50)⟩, ⟨some 52, some (51, true), .mov (.t 11)⟩, ⟨some 53, some (51, true), .mov (.t 13)⟩, ⟨some 54, some (51, true), .callf 11 [(.t 52), (.t 53)]⟩, ⟨some 55, none, .land (.t 51) (.t 54)⟩, ⟨some 56, none, .mov (.t 55)⟩, ⟨some 57, some (56, true), .mov (.t 12)⟩, ⟨some 58, some (56, true), .mov (.t 14)⟩, ⟨some 59, some (56, true), .bin .eql (.t 57) (.t 58)⟩, ⟨some 60, none, .land (.t 56) (.t 59)⟩, ⟨some 6, none, .mov (.t 60)⟩]) (.ret)))))))
theorem k_retargetlaw11_AmbiguousTells : FnOk Tryz.prog 3 61 c_retargetlaw11_AmbiguousTells [.tmp 6] := .mk' (fn := Tryz.f3) rfl rfl (by kernel_rfl) rfl (by kernel_rfl) (by kernel_rfl)
end Go.Proofs.YtbghfliffomfdaaGreatDoorV

/- The program's functions as trees of our logic (group g). -/
namespace Go.Proofs.YtbghfliffomfdaaGreatDoorV
open Go
set_option maxRecDepth 100000
end Go.Proofs.YtbghfliffomfdaaGreatDoorV

/- The program's functions as trees of our logic (group c). -/
namespace Go.Proofs.YtbghfliffomfdaaGreatDoorV
open Go
set_option maxRecDepth 100000
end Go.Proofs.YtbghfliffomfdaaGreatDoorV

/- The program's functions as trees of our logic (group d). -/
namespace Go.Proofs.YtbghfliffomfdaaGreatDoorV
open Go
set_option maxRecDepth 100000
end Go.Proofs.YtbghfliffomfdaaGreatDoorV

/- The law AmbiguousTells gives true. -/
namespace Go.Proofs.YtbghfliffomfdaaGreatDoorV
open Go
set_option maxRecDepth 100000
set_option maxHeartbeats 4000000

theorem p_AmbiguousTells (m : Mach) (i w : Int) : PCall Tryz.prog glob 3 [.pv m.pv, .pv (.int .i64 i), .pv (.int .u64 w)] (.pv (.bool true)) := by
  refine k_retargetlaw11_AmbiguousTells.pcall (by simp) (by simp) (by simp) fun hwf => ?_
  have hw0 := hwf (.pv (.int .u64 w)) (by simp)
  simp [IntKind.min, IntKind.max, IntKind.signed, IntKind.bits] at hw0
  obtain ⟨W, rfl⟩ := Int.eq_ofNat_of_zero_le hw0.1
  have hW : W < 2 ^ 64 := by omega
  simp [c_retargetlaw11_AmbiguousTells]
  refine CallNext.pure (p_r8_Great glob m) fun _ => ?_
  simp
  intro hg
  have ht := great_terms hg
  refine CallNext.pure (p_amb_Legal m i W ht hW) fun _ => ?_
  simp
  refine CallNext.pure (p_r11_Legal glob m i W ht hW) fun _ => ?_
  simp
  refine CallNext.pure (p_amb_Owners m W ht hW) fun _ => ?_
  simp
  refine CallNext.pure (p_r11_Owners glob m W ht hW) fun _ => ?_
  simp
  refine ⟨_, .of (p_r11_SameInts glob _ _), by simp, ?_⟩
  simp
end Go.Proofs.YtbghfliffomfdaaGreatDoorV
