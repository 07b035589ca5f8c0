/- Packed: Tb Ta Tf Te Tc Td Lk -/
import Derived.Test.YteiampdhhigjcaaGreatDoorChk5
import Derived.Test.YteiampdhhigjcaaGreatDoorProg
set_option linter.all false
/- The program's functions as trees of our logic (group b). -/
namespace Go.Proofs.YteiampdhhigjcaaGreatDoorV
open Go
set_option maxRecDepth 100000
end Go.Proofs.YteiampdhhigjcaaGreatDoorV

/- The program's functions as trees of our logic (group a). -/
namespace Go.Proofs.YteiampdhhigjcaaGreatDoorV
open Go
set_option maxRecDepth 100000
end Go.Proofs.YteiampdhhigjcaaGreatDoorV

/- The program's functions as trees of our logic (group f). -/
namespace Go.Proofs.YteiampdhhigjcaaGreatDoorV
open Go
set_option maxRecDepth 100000
/- "retarget/retargetlaw08.MachineKeeps" -/
def c_retargetlaw08_MachineKeeps : C :=
.seq (.reg [⟨some 4, none, .box 7 (.t 0)⟩, ⟨some 8, none, .mov (.c (.pv (.bool false)))⟩]) (.seq (.reg [⟨some 21, none, .callf 37 []⟩, ⟨some 9, none, .mov (.t 21)⟩]) (.seq (.seq (.reg [⟨some 22, none, .load (some 7) (.t 4)⟩, ⟨some 23, none, .callf 11 [(.t 22)]⟩, ⟨some 24, none, .mov (.t 23)⟩, ⟨some 25, some (24, false), .load (some 7) (.t 4)⟩, ⟨some 26, some (24, false), .callf 38 [(.t 25)]⟩, ⟨some 27, some (24, false), .un .not (.t 26)⟩, ⟨some 28, none, .lor (.t 24) (.t 27)⟩, ⟨some 29, none, .mov (.t 28)⟩, ⟨some 30, some (29, false), .mov (.t 1)⟩, ⟨some 31, some (29, false), .len (.t 30)⟩, ⟨some 32, some (29, false), .bin .gtr (.t 31) (.c (.pv (.int .i64 100)))⟩, ⟨some 33, none, .lor (.t 29) (.t 32)⟩, ⟨some 34, none, .mov (.t 33)⟩, ⟨some 35, some (34, false), .mov (.t 9)⟩, ⟨some 36, some (34, false), .un .not (.t 35)⟩, ⟨some 37, none, .lor (.t 34) (.t 36)⟩]) (.cond (.t 37) (.seq (.reg [⟨some 38, none, .mov (.t 9)⟩, ⟨some 8, none, .mov (.t 38)⟩]) (.ret)) (.skip))) (.seq (.reg [⟨some 40, none, .load (some 7) (.t 4)⟩, ⟨some 41, none, .mov (.t 1)⟩, ⟨some 42, none, .mov (.t 2)⟩, ⟨some 43, none, .mov (.t 3)⟩, ⟨some 44, none, .callf 30 [(.t 40), (.t 41), (.t 42), (.t 43)]⟩, ⟨some 39, none, .mov (.t 44)⟩, ⟨some 45, none, .ext (.t 39) 0⟩, ⟨some 46, none, .ext (.t 39) 1⟩, ⟨some 10, none, .mov (.t 45)⟩, ⟨some 11, none, .mov (.t 46)⟩]) (.seq (.seq (.reg [⟨some 47, none, .mov (.t 11)⟩, ⟨some 48, none, .bin .neq (.t 47) (.c (.pv (.int .i64 0)))⟩]) (.cond (.t 48) (.seq (.reg [⟨some 49, none, .mov (.t 9)⟩, ⟨some 50, none, .mov (.t 49)⟩, ⟨some 51, some (50, true), .mov (.t 10)⟩, ⟨some 52, some (50, true), .len (.t 51)⟩, ⟨some 53, some (50, true), .bin .eql (.t 52) (.c (.pv (.int .i64 0)))⟩, ⟨some 54, none, .land (.t 50) (.t 53)⟩, ⟨some 8, none, .mov (.t 54)⟩]) (.ret)) (.skip))) (.seq (.reg [⟨some 56, none, .load (some 7) (.t 4)⟩, ⟨some 57, none, .mov (.t 10)⟩, ⟨some 58, none, .mov (.t 2)⟩, ⟨some 59, none, .callf 28 [(.t 56), (.t 57), (.t 58)]⟩, ⟨some 55, none, .mov (.t 59)⟩, ⟨some 60, none, .ext (.t 55) 0⟩, ⟨some 61, none, .ext (.t 55) 1⟩, ⟨some 12, none, .mov (.t 60)⟩, ⟨some 13, none, .mov (.t 61)⟩]) (.seq (.seq (.reg [⟨some 62, none, .mov (.t 13)⟩, ⟨some 63, none, .bin .neq (.t 62) (.c (.pv (.int .i64 0)))⟩, ⟨some 64, none, .mov (.t 63)⟩, ⟨some 65, some (64, false), .mov (.t 12)⟩, ⟨some 66, some (64, false), .mov (.t 3)⟩, ⟨some 67, some (64, false), .bin .neq (.t 65) (.t 66)⟩, ⟨some 68, none, .lor (.t 64) (.t 67)⟩, ⟨some 69, none, .mov (.t 68)⟩, ⟨some 70, some (69, false), .mov (.t 10)⟩, ⟨some 71, some (69, false), .len (.t 70)⟩, ⟨some 72, some (69, false), .mov (.t 1)⟩, ⟨some 73, some (69, false), .len (.t 72)⟩, ⟨some 74, some (69, false), .bin .neq (.t 71) (.t 73)⟩, ⟨some 75, none, .lor (.t 69) (.t 74)⟩]) (.cond (.t 75) (.seq (.reg [⟨some 8, none, .mov (.c (.pv (.bool false)))⟩]) (.ret)) (.skip))) (.seq (.seq (.reg [⟨some 14, none, .mov (.c (.pv (.int .i64 0)))⟩]) (.blk 0 (.loop ⟨[1, 2, 4, 9, 10, 14], [0], 1⟩ (.seq (.seq (.reg [⟨some 76, none, .mov (.t 14)⟩, ⟨some 77, none, .fad 3 (.t 4)⟩, ⟨some 78, none, .load none (.t 77)⟩, ⟨some 79, none, .len (.t 78)⟩, ⟨some 80, none, .bin .lss (.t 76) (.t 79)⟩]) (.cond (.t 80) (.skip) (.ext 0))) (.seq (.blk 1 (.seq (.reg [⟨some 84, none, .load (some 7) (.t 4)⟩, ⟨some 85, none, .mov (.t 2)⟩, ⟨some 86, none, .mov (.t 14)⟩, ⟨some 87, none, .callf 26 [(.t 84), (.t 85), (.t 86)]⟩, ⟨some 83, none, .mov (.t 87)⟩, ⟨some 88, none, .ext (.t 83) 0⟩, ⟨some 89, none, .ext (.t 83) 1⟩, ⟨some 15, none, .mov (.t 88)⟩, ⟨some 16, none, .mov (.t 89)⟩]) (.seq (.reg [⟨some 91, none, .load (some 7) (.t 4)⟩, ⟨some 92, none, .mov (.t 1)⟩, ⟨some 93, none, .mov (.t 14)⟩, ⟨some 94, none, .callf 28 [(.t 91), (.t 92), (.t 93)]⟩, ⟨some 90, none, .mov (.t 94)⟩, ⟨some 95, none, .ext (.t 90) 0⟩, ⟨some 96, none, .ext (.t 90) 1⟩, ⟨some 17, none, .mov (.t 95)⟩, ⟨some 18, none, .mov (.t 96)⟩]) (.seq (.reg [⟨some 98, none, .load (some 7) (.t 4)⟩, ⟨some 99, none, .mov (.t 10)⟩, ⟨some 100, none, .mov (.t 14)⟩, ⟨some 101, none, .callf 28 [(.t 98), (.t 99), (.t 100)]⟩, ⟨some 97, none, .mov (.t 101)⟩, ⟨some 102, none, .ext (.t 97) 0⟩, ⟨some 103, none, .ext (.t 97) 1⟩, ⟨some 19, none, .mov (.t 102)⟩, ⟨some 20, none, .mov (.t 103)⟩]) (.seq (.reg [⟨some 104, none, .mov (.t 16)⟩, ⟨some 105, none, .bin .neq (.t 104) (.c (.pv (.int .i64 0)))⟩, ⟨some 106, none, .mov (.t 105)⟩, ⟨some 107, some (106, false), .mov (.t 18)⟩, ⟨some 108, some (106, false), .bin .neq (.t 107) (.c (.pv (.int .i64 0)))⟩, ⟨some 109, none, .lor (.t 106) (.t 108)⟩, ⟨some 110, none, .mov (.t 109)⟩, ⟨some 111, some (110, false), .mov (.t 20)⟩, ⟨some 112, some (110, false), .bin .neq (.t 111) (.c (.pv (.int .i64 0)))⟩, ⟨some 113, none, .lor (.t 110) (.t 112)⟩, ⟨some 114, none, .mov (.t 113)⟩, ⟨some 115, some (114, false), .mov (.t 15)⟩, ⟨some 116, some (114, false), .un .not (.t 115)⟩, ⟨some 117, some (114, false), .mov (.t 116)⟩, ⟨some 118, some (117, true), .mov (.t 17)⟩, ⟨some 119, some (117, true), .mov (.t 19)⟩, ⟨some 120, some (117, true), .bin .neq (.t 118) (.t 119)⟩, ⟨some 121, some (114, false), .land (.t 117) (.t 120)⟩, ⟨some 122, none, .lor (.t 114) (.t 121)⟩]) (.cond (.t 122) (.seq (.reg [⟨some 8, none, .mov (.c (.pv (.bool false)))⟩]) (.ret)) (.skip))))))) (.reg [⟨some 81, none, .mov (.t 14)⟩, ⟨some 82, none, .bin .add (.t 81) (.c (.pv (.int .i64 1)))⟩, ⟨some 14, none, .mov (.t 82)⟩])))))) (.seq (.reg [⟨some 123, none, .mov (.t 9)⟩, ⟨some 8, none, .mov (.t 123)⟩]) (.ret)))))))))
theorem k_retargetlaw08_MachineKeeps : FnOk Tryz.prog 7 124 c_retargetlaw08_MachineKeeps [.tmp 8] := .mk' (fn := Tryz.f7) rfl rfl (by kernel_rfl) rfl (by kernel_rfl) (by kernel_rfl)
/- "retarget/retargetlaw08.wide" -/
def c_retargetlaw08_wide : C :=
.seq (.reg [⟨some 1, none, .box 7 (.t 0)⟩, ⟨some 2, none, .mov (.c (.pv (.bool false)))⟩]) (.seq (.reg [⟨some 3, none, .fad 3 (.t 1)⟩, ⟨some 4, none, .load none (.t 3)⟩, ⟨some 5, none, .len (.t 4)⟩, ⟨some 6, none, .bin .leq (.t 5) (.c (.pv (.int .i64 80)))⟩, ⟨some 2, none, .mov (.t 6)⟩]) (.ret))
theorem k_retargetlaw08_wide : FnOk Tryz.prog 38 7 c_retargetlaw08_wide [.tmp 2] := .mk' (fn := Tryz.f38) rfl rfl (by kernel_rfl) rfl (by kernel_rfl) (by kernel_rfl)
end Go.Proofs.YteiampdhhigjcaaGreatDoorV

/- The program's functions as trees of our logic (group e). -/
namespace Go.Proofs.YteiampdhhigjcaaGreatDoorV
open Go
set_option maxRecDepth 100000
end Go.Proofs.YteiampdhhigjcaaGreatDoorV

/- The program's functions as trees of our logic (group c). -/
namespace Go.Proofs.YteiampdhhigjcaaGreatDoorV
open Go
set_option maxRecDepth 100000
end Go.Proofs.YteiampdhhigjcaaGreatDoorV

/- The program's functions as trees of our logic (group d). -/
namespace Go.Proofs.YteiampdhhigjcaaGreatDoorV
open Go
set_option maxRecDepth 100000
end Go.Proofs.YteiampdhhigjcaaGreatDoorV

/- The law MachineKeeps gives true. -/
namespace Go.Proofs.YteiampdhhigjcaaGreatDoorV
open Go
set_option maxRecDepth 100000
set_option maxHeartbeats 4000000

theorem p_wide (gl : Glob) (m : Mach) : PCall Tryz.prog gl 38 [.pv m.pv] (.pv (.bool (decide ((m.regs.length : Int) ≤ 80)))) := by
  refine k_retargetlaw08_wide.pcall (by simp) (by simp) (by simp) fun hwf => ?_
  simp [c_retargetlaw08_wide]
theorem p_MachineKeeps (m : Mach) (rs : List Int) (reg x : Int) : PCall Tryz.prog glob 7 [.pv m.pv, .pv (.lst 1 (words rs)), .pv (.int .i64 reg), .pv (.int .u64 x)] (.pv (.bool true)) := by
  refine k_retargetlaw08_MachineKeeps.pcall (by simp) (by simp) (by simp) fun hwf => ?_
  have hw := (words_wf (hwf (.pv (.lst 1 (words rs))) (by simp))).1
  have hx : 0 ≤ x := by have := hwf (.pv (.int .u64 x)) (by simp); simp [IntKind.min, IntKind.max, IntKind.signed, IntKind.bits] at this; exact this.1
  simp [c_retargetlaw08_MachineKeeps]
  refine CallNext.data p_alive ?_
  simp
  refine CallNext.pure (p_r8_Great glob m) fun _ => ?_
  simp
  refine ⟨_, by intros; exact .of (p_wide glob m), by simp, ?_⟩
  simp
  intro hg h80 hn
  have ht := great_terms hg
  refine CallNext.data (p_machine_Write m rs reg x ht) ?_
  simp
  by_cases hE : writeE m rs reg x = 0
  · obtain ⟨hv, p, l, w, a1, a2, a3, a4, a5, a6, a7, a8⟩ := wrote hE
    have hnn : ∀ y ∈ rs, 0 ≤ y := fun y hy => (hw y hy).1
    have hf := (valE_ok hv).2.2
    have hf' := fits_wr (x := x) hf hnn a2 a5
    have hr : readI m (wrF rs p l w x) reg = x := read_wrote hf' a1 a2 hv hx a8
    have hv' : valE m (wrF rs p l w x) reg = 0 := valE_of hv hf'
    rw [hE, a7]
    simp
    refine CallNext.data (p_machine_Read m (wrF rs p l w x) reg ht) ?_
    simp [hr, hv']
    refine Loop.nat (fun i => { e := [(1, .pv (.lst 1 (words rs))), (2, .pv (.int .i64 reg)), (4, .ptr 0 0), (9, .pv (.bool true)), (10, .pv (.lst 1 (words (wrF rs p l w x)))), (14, .pv (.int .i64 i))], h := [(0, m.bx)], nx := 1 }) m.regs.length (fun _ => True) (by simp [Mach.bx]) (by simp) (by simp [Mach.bx]) fun i hi hinv => ?_
    by_cases hlt : i < m.regs.length
    · have hp : partE m i = 0 := part_in (valE_ok hv).1 (by omega) (by omega)
      have hvi : valE m rs i = 0 := by rw [valE, if_pos hp, if_pos hf]
      have hvi' : valE m (wrF rs p l w x) i = 0 := valE_of hvi hf'
      have ho : overE m reg i = 0 := by rw [overE, if_pos (valE_ok hv).1, hp]
      have hkeep : overR m reg i = false → readI m rs i = readI m (wrF rs p l w x) i := fun h => (keeps hvi hf' a1 (by simpa [overR, ho] using h)).symm
      simp [hlt, Mach.bx]
      refine CallNext.data (p_machine_Overlap m reg i ht) ?_
      simp [ho]
      refine CallNext.data (p_machine_Read m rs i ht) ?_
      simp [hvi]
      refine CallNext.data (p_machine_Read m (wrF rs p l w x) i ht) ?_
      simp [hvi']
      exact ⟨hkeep, fun _ => ⟨hlt, wrap_nat (show (0:Int) ≤ i + 1 by omega) (by omega)⟩⟩
    · obtain rfl : i = m.regs.length := by omega
      simp [Mach.bx]
  · have hl : writeL m rs reg x = [] := by rw [writeL, if_neg hE]
    simp [hE, hl]
end Go.Proofs.YteiampdhhigjcaaGreatDoorV
