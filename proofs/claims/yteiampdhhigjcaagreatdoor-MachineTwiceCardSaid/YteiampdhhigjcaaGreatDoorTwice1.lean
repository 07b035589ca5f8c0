/- Packed: Tb Ta Tf Te Tc Td Lt -/
import Derived.Test.YteiampdhhigjcaaGreatDoorChk5
import Derived.Test.YteiampdhhigjcaaGreatDoorProg
set_option linter.all false
/- The program's functions as trees of our logic (group b). -/
namespace Go.Proofs.YteiampdhhigjcaaGreatDoorV
open Go
set_option maxRecDepth 100000
end Go.Proofs.YteiampdhhigjcaaGreatDoorV

/- The program's functions as trees of our logic (group a). -/
namespace Go.Proofs.YteiampdhhigjcaaGreatDoorV
open Go
set_option maxRecDepth 100000
end Go.Proofs.YteiampdhhigjcaaGreatDoorV

/- The program's functions as trees of our logic (group f). -/
namespace Go.Proofs.YteiampdhhigjcaaGreatDoorV
open Go
set_option maxRecDepth 100000
/- "retarget/retargetlaw08.MachineTwice" -/
def c_retargetlaw08_MachineTwice : C :=
.seq (.reg [⟨some 6, none, .box 7 (.t 0)⟩, ⟨some 12, none, .mov (.c (.pv (.bool false)))⟩]) (.seq (.reg [⟨some 30, none, .callf 37 []⟩, ⟨some 13, none, .mov (.t 30)⟩]) (.seq (.seq (.reg [⟨some 31, none, .load (some 7) (.t 6)⟩, ⟨some 32, none, .callf 11 [(.t 31)]⟩, ⟨some 33, none, .mov (.t 32)⟩, ⟨some 34, some (33, false), .mov (.t 1)⟩, ⟨some 35, some (33, false), .len (.t 34)⟩, ⟨some 36, some (33, false), .bin .gtr (.t 35) (.c (.pv (.int .i64 100)))⟩, ⟨some 37, none, .lor (.t 33) (.t 36)⟩, ⟨some 38, none, .mov (.t 37)⟩, ⟨some 39, some (38, false), .mov (.t 13)⟩, ⟨some 40, some (38, false), .un .not (.t 39)⟩, ⟨some 41, none, .lor (.t 38) (.t 40)⟩]) (.cond (.t 41) (.seq (.reg [⟨some 42, none, .mov (.t 13)⟩, ⟨some 12, none, .mov (.t 42)⟩]) (.ret)) (.skip))) (.seq (.reg [⟨some 44, none, .load (some 7) (.t 6)⟩, ⟨some 45, none, .mov (.t 1)⟩, ⟨some 46, none, .mov (.t 2)⟩, ⟨some 47, none, .callf 28 [(.t 44), (.t 45), (.t 46)]⟩, ⟨some 43, none, .mov (.t 47)⟩, ⟨some 48, none, .ext (.t 43) 0⟩, ⟨some 49, none, .ext (.t 43) 1⟩, ⟨some 14, none, .mov (.t 48)⟩, ⟨some 15, none, .mov (.t 49)⟩]) (.seq (.seq (.reg [⟨some 50, none, .mov (.t 15)⟩, ⟨some 51, none, .bin .neq (.t 50) (.c (.pv (.int .i64 0)))⟩]) (.cond (.t 51) (.seq (.reg [⟨some 52, none, .mov (.t 13)⟩, ⟨some 53, none, .mov (.t 52)⟩, ⟨some 54, some (53, true), .mov (.t 14)⟩, ⟨some 55, some (53, true), .bin .eql (.t 54) (.c (.pv (.int .u64 0)))⟩, ⟨some 56, none, .land (.t 53) (.t 55)⟩, ⟨some 12, none, .mov (.t 56)⟩]) (.ret)) (.skip))) (.seq (.reg [⟨some 58, none, .load (some 7) (.t 6)⟩, ⟨some 59, none, .mov (.t 1)⟩, ⟨some 60, none, .mov (.t 2)⟩, ⟨some 61, none, .mov (.t 14)⟩, ⟨some 62, none, .callf 30 [(.t 58), (.t 59), (.t 60), (.t 61)]⟩, ⟨some 57, none, .mov (.t 62)⟩, ⟨some 63, none, .ext (.t 57) 0⟩, ⟨some 64, none, .ext (.t 57) 1⟩, ⟨some 16, none, .mov (.t 63)⟩, ⟨some 17, none, .mov (.t 64)⟩]) (.seq (.seq (.reg [⟨some 65, none, .mov (.t 17)⟩, ⟨some 66, none, .bin .neq (.t 65) (.c (.pv (.int .i64 0)))⟩, ⟨some 67, none, .mov (.t 66)⟩, ⟨some 68, some (67, false), .mov (.t 16)⟩, ⟨some 69, some (67, false), .mov (.t 1)⟩, ⟨some 70, some (67, false), .callf 32 [(.t 68), (.t 69)]⟩, ⟨some 71, some (67, false), .un .not (.t 70)⟩, ⟨some 72, none, .lor (.t 67) (.t 71)⟩]) (.cond (.t 72) (.seq (.reg [⟨some 12, none, .mov (.c (.pv (.bool false)))⟩]) (.ret)) (.skip))) (.seq (.reg [⟨some 74, none, .load (some 7) (.t 6)⟩, ⟨some 75, none, .mov (.t 1)⟩, ⟨some 76, none, .mov (.t 2)⟩, ⟨some 77, none, .mov (.t 4)⟩, ⟨some 78, none, .callf 30 [(.t 74), (.t 75), (.t 76), (.t 77)]⟩, ⟨some 73, none, .mov (.t 78)⟩, ⟨some 79, none, .ext (.t 73) 0⟩, ⟨some 80, none, .ext (.t 73) 1⟩, ⟨some 18, none, .mov (.t 79)⟩, ⟨some 19, none, .mov (.t 80)⟩]) (.seq (.reg [⟨some 82, none, .load (some 7) (.t 6)⟩, ⟨some 83, none, .mov (.t 1)⟩, ⟨some 84, none, .mov (.t 3)⟩, ⟨some 85, none, .mov (.t 5)⟩, ⟨some 86, none, .callf 30 [(.t 82), (.t 83), (.t 84), (.t 85)]⟩, ⟨some 81, none, .mov (.t 86)⟩, ⟨some 87, none, .ext (.t 81) 0⟩, ⟨some 88, none, .ext (.t 81) 1⟩, ⟨some 20, none, .mov (.t 87)⟩, ⟨some 21, none, .mov (.t 88)⟩]) (.seq (.seq (.reg [⟨some 89, none, .mov (.t 19)⟩, ⟨some 90, none, .bin .neq (.t 89) (.c (.pv (.int .i64 0)))⟩]) (.cond (.t 90) (.seq (.reg [⟨some 91, none, .mov (.t 13)⟩, ⟨some 12, none, .mov (.t 91)⟩]) (.ret)) (.skip))) (.seq (.reg [⟨some 93, none, .load (some 7) (.t 6)⟩, ⟨some 94, none, .mov (.t 18)⟩, ⟨some 95, none, .mov (.t 2)⟩, ⟨some 96, none, .mov (.t 14)⟩, ⟨some 97, none, .callf 30 [(.t 93), (.t 94), (.t 95), (.t 96)]⟩, ⟨some 92, none, .mov (.t 97)⟩, ⟨some 98, none, .ext (.t 92) 0⟩, ⟨some 99, none, .ext (.t 92) 1⟩, ⟨some 22, none, .mov (.t 98)⟩, ⟨some 23, none, .mov (.t 99)⟩]) (.seq (.seq (.reg [⟨some 100, none, .mov (.t 23)⟩, ⟨some 101, none, .bin .neq (.t 100) (.c (.pv (.int .i64 0)))⟩, ⟨some 102, none, .mov (.t 101)⟩, ⟨some 103, some (102, false), .mov (.t 22)⟩, ⟨some 104, some (102, false), .mov (.t 1)⟩, ⟨some 105, some (102, false), .callf 32 [(.t 103), (.t 104)]⟩, ⟨some 106, some (102, false), .un .not (.t 105)⟩, ⟨some 107, none, .lor (.t 102) (.t 106)⟩]) (.cond (.t 107) (.seq (.reg [⟨some 12, none, .mov (.c (.pv (.bool false)))⟩]) (.ret)) (.skip))) (.seq (.reg [⟨some 109, none, .load (some 7) (.t 6)⟩, ⟨some 110, none, .mov (.t 2)⟩, ⟨some 111, none, .mov (.t 3)⟩, ⟨some 112, none, .callf 26 [(.t 109), (.t 110), (.t 111)]⟩, ⟨some 108, none, .mov (.t 112)⟩, ⟨some 113, none, .ext (.t 108) 0⟩, ⟨some 114, none, .ext (.t 108) 1⟩, ⟨some 24, none, .mov (.t 113)⟩, ⟨some 25, none, .mov (.t 114)⟩]) (.seq (.seq (.reg [⟨some 115, none, .mov (.t 21)⟩, ⟨some 116, none, .bin .neq (.t 115) (.c (.pv (.int .i64 0)))⟩, ⟨some 117, none, .mov (.t 116)⟩, ⟨some 118, some (117, false), .mov (.t 25)⟩, ⟨some 119, some (117, false), .bin .neq (.t 118) (.c (.pv (.int .i64 0)))⟩, ⟨some 120, none, .lor (.t 117) (.t 119)⟩, ⟨some 121, none, .mov (.t 120)⟩, ⟨some 122, some (121, false), .mov (.t 24)⟩, ⟨some 123, none, .lor (.t 121) (.t 122)⟩]) (.cond (.t 123) (.seq (.reg [⟨some 124, none, .mov (.t 13)⟩, ⟨some 12, none, .mov (.t 124)⟩]) (.ret)) (.skip))) (.seq (.reg [⟨some 126, none, .load (some 7) (.t 6)⟩, ⟨some 127, none, .mov (.t 18)⟩, ⟨some 128, none, .mov (.t 3)⟩, ⟨some 129, none, .mov (.t 5)⟩, ⟨some 130, none, .callf 30 [(.t 126), (.t 127), (.t 128), (.t 129)]⟩, ⟨some 125, none, .mov (.t 130)⟩, ⟨some 131, none, .ext (.t 125) 0⟩, ⟨some 132, none, .ext (.t 125) 1⟩, ⟨some 26, none, .mov (.t 131)⟩, ⟨some 27, none, .mov (.t 132)⟩]) (.seq (.reg [⟨some 134, none, .load (some 7) (.t 6)⟩, ⟨some 135, none, .mov (.t 20)⟩, ⟨some 136, none, .mov (.t 2)⟩, ⟨some 137, none, .mov (.t 4)⟩, ⟨some 138, none, .callf 30 [(.t 134), (.t 135), (.t 136), (.t 137)]⟩, ⟨some 133, none, .mov (.t 138)⟩, ⟨some 139, none, .ext (.t 133) 0⟩, ⟨some 140, none, .ext (.t 133) 1⟩, ⟨some 28, none, .mov (.t 139)⟩, ⟨some 29, none, .mov (.t 140)⟩]) (.seq (.reg [⟨some 141, none, .mov (.t 13)⟩, ⟨some 142, none, .mov (.t 141)⟩, ⟨some 143, some (142, true), .mov (.t 27)⟩, ⟨some 144, some (142, true), .bin .eql (.t 143) (.c (.pv (.int .i64 0)))⟩, ⟨some 145, none, .land (.t 142) (.t 144)⟩, ⟨some 146, none, .mov (.t 145)⟩, ⟨some 147, some (146, true), .mov (.t 29)⟩, ⟨some 148, some (146, true), .bin .eql (.t 147) (.c (.pv (.int .i64 0)))⟩, ⟨some 149, none, .land (.t 146) (.t 148)⟩, ⟨some 150, none, .mov (.t 149)⟩, ⟨some 151, some (150, true), .mov (.t 26)⟩, ⟨some 152, some (150, true), .mov (.t 28)⟩, ⟨some 153, some (150, true), .callf 32 [(.t 151), (.t 152)]⟩, ⟨some 154, none, .land (.t 150) (.t 153)⟩, ⟨some 12, none, .mov (.t 154)⟩]) (.ret)))))))))))))))))
theorem k_retargetlaw08_MachineTwice : FnOk Tryz.prog 8 155 c_retargetlaw08_MachineTwice [.tmp 12] := .mk' (fn := Tryz.f8) rfl rfl (by kernel_rfl) rfl (by kernel_rfl) (by kernel_rfl)
end Go.Proofs.YteiampdhhigjcaaGreatDoorV

/- The program's functions as trees of our logic (group e). -/
namespace Go.Proofs.YteiampdhhigjcaaGreatDoorV
open Go
set_option maxRecDepth 100000
end Go.Proofs.YteiampdhhigjcaaGreatDoorV

/- The program's functions as trees of our logic (group c). -/
namespace Go.Proofs.YteiampdhhigjcaaGreatDoorV
open Go
set_option maxRecDepth 100000
end Go.Proofs.YteiampdhhigjcaaGreatDoorV

/- The program's functions as trees of our logic (group d). -/
namespace Go.Proofs.YteiampdhhigjcaaGreatDoorV
open Go
set_option maxRecDepth 100000
end Go.Proofs.YteiampdhhigjcaaGreatDoorV

/- The law MachineTwice gives true. -/
namespace Go.Proofs.YteiampdhhigjcaaGreatDoorV
open Go
set_option maxRecDepth 100000
set_option maxHeartbeats 4000000

theorem p_MachineTwice (m : Mach) (rs : List Int) (a b x y : Int) : PCall Tryz.prog glob 8 [.pv m.pv, .pv (.lst 1 (words rs)), .pv (.int .i64 a), .pv (.int .i64 b), .pv (.int .u64 x), .pv (.int .u64 y)] (.pv (.bool true)) := by
  refine k_retargetlaw08_MachineTwice.pcall (by simp) (by simp) (by simp) fun hwf => ?_
  have hw := (words_wf (hwf (.pv (.lst 1 (words rs))) (by simp))).1
  have hnn : ∀ y ∈ rs, 0 ≤ y := fun y hy => (hw y hy).1
  have hx : 0 ≤ x := by have := hwf (.pv (.int .u64 x)) (by simp); simp [IntKind.min, IntKind.max, IntKind.signed, IntKind.bits] at this; exact this.1
  have hy : 0 ≤ y := by have := hwf (.pv (.int .u64 y)) (by simp); simp [IntKind.min, IntKind.max, IntKind.signed, IntKind.bits] at this; exact this.1
  simp [c_retargetlaw08_MachineTwice]
  refine CallNext.data p_alive ?_
  simp
  refine CallNext.pure (p_r8_Great glob m) fun _ => ?_
  simp
  intro hg hn
  have ht := great_terms hg
  refine CallNext.data (p_machine_Read m rs a ht) ?_
  simp
  by_cases hv : valE m rs a = 0
  · obtain ⟨p, l, w, a1, a2, a3, a4, a5, a6, -⟩ := val_parts hv
    have hf := (valE_ok hv).2.2
    have h0 : 0 ≤ gt rs (p : Nat) := hnn _ (gt_mem (by omega) (by omega))
    have hwas : readI m rs a = (rdF rs p l w : Nat) := read_of hv a1
    obtain ⟨w1, w2⟩ := write_of hv a1 (rdF_lt rs p l w)
    rw [wr_rd a2 h0] at w2
    simp [hv, hwas]
    refine CallNext.data (p_machine_Write m rs a _ ht) ?_
    simp [w1, w2]
    refine ⟨_, .of (p_r8_SameWords glob rs rs), by simp, ?_⟩
    simp
    refine CallNext.data (p_machine_Write m rs a x ht) ?_
    simp
    refine CallNext.data (p_machine_Write m rs b y ht) ?_
    simp
    by_cases hE : writeE m rs a x = 0
    · have hx' : x < 2 ^ w := by
        obtain ⟨-, p', l', w', b1, -, -, -, -, -, -, b8⟩ := wrote hE
        rw [a1] at b1; simp only [Prod.mk.injEq] at b1
        obtain ⟨-, -, h⟩ := b1
        have : w = w' := by omega
        rw [this]; exact b8
      have h1 := (write_of hv a1 hx').2
      have hf1 := fits_wr (x := x) hf hnn a2 a5
      have hv1 := valE_of hv hf1
      obtain ⟨v1, v2⟩ := write_of hv1 a1 (rdF_lt rs p l w)
      rw [wr_wr a2, wr_rd a2 h0] at v2
      simp [hE, h1]
      refine CallNext.data (p_machine_Write m (wrF rs p l w x) a _ ht) ?_
      simp [v1, v2]
      refine ⟨_, .of (p_r8_SameWords glob rs rs), by simp, ?_⟩
      simp
      refine CallNext.data (p_machine_Overlap m a b ht) ?_
      simp
      intro hEb hO hover
      obtain ⟨hvb, q, l', w', b1, b2, b3, b4, b5, b6, b7, b8⟩ := wrote hEb
      have hap := apart_of a1 b1 (by simpa [overR, hO] using hover)
      have hf2 := fits_wr (x := y) hf hnn b2 b5
      obtain ⟨u1, u2⟩ := write_of (valE_of hvb hf1) b1 b8
      obtain ⟨t1, t2⟩ := write_of (valE_of hv hf2) a1 hx'
      have hcomm : wrF (wrF rs p l w x) q l' w' y = wrF (wrF rs q l' w' y) p l w x := wr_comm a2 b2 hap
      refine CallNext.data (p_machine_Write m (wrF rs p l w x) b y ht) ?_
      simp [u1, u2, b7]
      refine CallNext.data (p_machine_Write m (wrF rs q l' w' y) a x ht) ?_
      simp [t1, t2]
      refine ⟨_, .of (p_r8_SameWords glob _ _), by simp, ?_⟩
      simp [hcomm]
    · simp [hE]
  · have hl : readI m rs a = 0 := by rw [readI, if_neg hv]
    simp [hv, hl]
end Go.Proofs.YteiampdhhigjcaaGreatDoorV
