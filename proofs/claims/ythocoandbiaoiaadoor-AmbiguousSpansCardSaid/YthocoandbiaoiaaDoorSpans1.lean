/- Packed: Tb Ta Tf Tg Tc Td Kh -/
import Derived.Test.YthocoandbiaoiaaDoorChk4
import Derived.Test.YthocoandbiaoiaaDoorProg
set_option linter.all false
namespace Go.Proofs.YthocoandbiaoiaaDoorV
open Go
set_option maxRecDepth 100000
end Go.Proofs.YthocoandbiaoiaaDoorV

namespace Go.Proofs.YthocoandbiaoiaaDoorV
open Go
set_option maxRecDepth 100000
end Go.Proofs.YthocoandbiaoiaaDoorV

namespace Go.Proofs.YthocoandbiaoiaaDoorV
open Go
set_option maxRecDepth 100000
/- "retarget/retargetlaw11.AmbiguousSpans" -/
def c_retargetlaw11_AmbiguousSpans : C :=
.seq (.reg [⟨some 4, none, .box 7 (.t 0)⟩, ⟨some 8, none, .mov (.c (.pv (.bool false)))⟩]) (.seq (.reg [⟨some 16, none, .callf 8 []⟩, ⟨some 9, none, .mov (.t 16)⟩]) (.seq (.seq (.reg [⟨some 17, none, .load (some 7) (.t 4)⟩, ⟨some 18, none, .callf 9 [(.t 17)]⟩, ⟨some 19, none, .mov (.t 18)⟩, ⟨some 20, some (19, false), .mov (.t 2)⟩, ⟨some 21, some (19, false), .bin .lss (.t 20) (.c (.pv (.int .i64 0)))⟩, ⟨some 22, none, .lor (.t 19) (.t 21)⟩, ⟨some 23, none, .mov (.t 22)⟩, ⟨some 24, some (23, false), .mov (.t 2)⟩, ⟨some 25, some (23, false), .bin .gtr (.t 24) (.c (.pv (.int .i64 300)))⟩, ⟨some 26, none, .lor (.t 23) (.t 25)⟩, ⟨some 27, none, .mov (.t 26)⟩, ⟨some 28, some (27, false), .mov (.t 3)⟩, ⟨some 29, some (27, false), .bin .lss (.t 28) (.c (.pv (.int .i64 0)))⟩, ⟨some 30, none, .lor (.t 27) (.t 29)⟩, ⟨some 31, none, .mov (.t 30)⟩, ⟨some 32, some (31, false), .mov (.t 3)⟩, ⟨some 33, some (31, false), .bin .gtr (.t 32) (.c (.pv (.int .i64 300)))⟩, ⟨some 34, none, .lor (.t 31) (.t 33)⟩, ⟨some 35, none, .mov (.t 34)⟩, ⟨some 36, some (35, false), .mov (.t 9)⟩, ⟨some 37, some (35, false), .un .not (.t 36)⟩, ⟨some 38, none, .lor (.t 35) (.t 37)⟩]) (.cond (.t 38) (.seq (.reg [⟨some 39, none, .mov (.t 9)⟩, ⟨some 8, none, .mov (.t 39)⟩]) (.ret)) (.skip))) (.seq (.reg [⟨some 41, none, .load (some 7) (.t 4)⟩, ⟨some 42, none, .mov (.t 1)⟩, ⟨some 43, none, .mov (.t 2)⟩, ⟨some 44, none, .mov (.t 3)⟩, ⟨some 45, none, .bin .add (.t 43) (.t 44)⟩, ⟨some 46, none, .callf 11 [(.t 41), (.t 42), (.t 45)]⟩, ⟨some 40, none, .mov (.t 46)⟩, ⟨some 47, none, .ext (.t 40) 0⟩, ⟨some 48, none, .ext (.t 40) 1⟩, ⟨some 10, none, .mov (.t 47)⟩, ⟨some 11, none, .mov (.t 48)⟩]) (.seq (.reg [⟨some 50, none, .load (some 7) (.t 4)⟩, ⟨some 51, none, .mov (.t 1)⟩, ⟨some 52, none, .mov (.t 2)⟩, ⟨some 53, none, .callf 11 [(.t 50), (.t 51), (.t 52)]⟩, ⟨some 49, none, .mov (.t 53)⟩, ⟨some 54, none, .ext (.t 49) 0⟩, ⟨some 55, none, .ext (.t 49) 1⟩, ⟨some 12, none, .mov (.t 54)⟩, ⟨some 13, none, .mov (.t 55)⟩]) (.seq (.seq (.reg [⟨some 56, none, .mov (.t 11)⟩, ⟨some 57, none, .bin .neq (.t 56) (.c (.pv (.int .i64 0)))⟩]) (.cond (.t 57) (.seq (.reg [⟨some 58, none, .mov (.t 9)⟩, ⟨some 59, none, .mov (.t 58)⟩, ⟨some 60, some (59, true), .mov (.t 10)⟩, ⟨some 61, some (59, true), .len (.t 60)⟩, ⟨some 62, some (59, true), .bin .eql (.t 61) (.c (.pv (.int .i64 0)))⟩, ⟨some 63, none, .land (.t 59) (.t 62)⟩, ⟨some 64, none, .mov (.t 63)⟩, ⟨some 65, some (64, true), .mov (.t 13)⟩, ⟨some 66, some (64, true), .bin .eql (.t 65) (.c (.pv (.int .i64 0)))⟩, ⟨some 67, some (64, true), .mov (.t 66)⟩, ⟨some 68, some (67, false), .mov (.t 12)⟩, ⟨some 69, some (67, false), .len (.t 68)⟩, ⟨some 70, some (67, false), .bin .eql (.t 69) (.c (.pv (.int .i64 0)))⟩, ⟨some 71, some (64, true), .lor (.t 67) (.t 70)⟩, ⟨some 72, none, .land (.t 64) (.t 71)⟩, ⟨some 8, none, .mov (.t 72)⟩]) (.ret)) (.skip))) (.seq (.reg [⟨some 74, none, .load (some 7) (.t 4)⟩, ⟨some 75, none, .mov (.t 1)⟩, ⟨some 76, none, .mov (.t 2)⟩, ⟨some 77, none, .conv .u64 (.t 76)⟩, ⟨some 78, none, .bin .add (.t 75) (.t 77)⟩, ⟨some 79, none, .mov (.t 3)⟩, ⟨some 80, none, .callf 11 [(.t 74), (.t 78), (.t 79)]⟩, ⟨some 73, none, .mov (.t 80)⟩, ⟨some 81, none, .ext (.t 73) 0⟩, ⟨some 82, none, .ext (.t 73) 1⟩, ⟨some 14, none, .mov (.t 81)⟩, ⟨some 15, none, .mov (.t 82)⟩]) (.seq (.reg [⟨some 83, none, .mov (.t 9)⟩, ⟨some 84, none, .mov (.t 83)⟩, ⟨some 85, some (84, true), .mov (.t 13)⟩, ⟨some 86, some (84, true), .bin .eql (.t 85) (.c (.pv (.int .i64 0)))⟩, ⟨some 87, none, .land (.t 84) (.t 86)⟩, ⟨some 88, none, .mov (.t 87)⟩, ⟨some 89, some (88, true), .mov (.t 15)⟩, ⟨some 90, some (88, true), .bin .eql (.t 89) (.c (.pv (.int .i64 0)))⟩, ⟨some 91, none, .land (.t 88) (.t 90)⟩, ⟨some 92, none, .mov (.t 91)⟩, ⟨some 93, some (92, true), .mov (.t 10)⟩, ⟨some 94, some (92, true), .lit 1 []⟩, ⟨some 95, some (92, true), .mov (.t 12)⟩, ⟨some 96, some (92, true), .app 1 8 (.t 94) (.t 95)⟩, ⟨some 97, some (92, true), .mov (.t 14)⟩, ⟨some 98, some (92, true), .app 1 8 (.t 96) (.t 97)⟩, ⟨some 99, some (92, true), .callf 13 [(.t 93), (.t 98)]⟩, ⟨some 100, none, .land (.t 92) (.t 99)⟩, ⟨some 101, none, .mov (.t 100)⟩, ⟨some 102, some (101, true), .load (some 7) (.t 4)⟩, ⟨some 103, some (101, true), .callf 14 [(.t 102)]⟩, ⟨some 104, some (101, true), .bin .eql (.t 103) (.c (.pv (.int .i64 0)))⟩, ⟨some 105, none, .land (.t 101) (.t 104)⟩, ⟨some 8, none, .mov (.t 105)⟩]) (.ret))))))))
theorem k_retargetlaw11_AmbiguousSpans : FnOk Tryd.prog 4 106 c_retargetlaw11_AmbiguousSpans [.tmp 8] := .mk' (fn := Tryd.f4) rfl rfl (by kernel_rfl) rfl (by kernel_rfl) (by kernel_rfl)
end Go.Proofs.YthocoandbiaoiaaDoorV

namespace Go.Proofs.YthocoandbiaoiaaDoorV
open Go
set_option maxRecDepth 100000
end Go.Proofs.YthocoandbiaoiaaDoorV

namespace Go.Proofs.YthocoandbiaoiaaDoorV
open Go
set_option maxRecDepth 100000
end Go.Proofs.YthocoandbiaoiaaDoorV

namespace Go.Proofs.YthocoandbiaoiaaDoorV
open Go
set_option maxRecDepth 100000
end Go.Proofs.YthocoandbiaoiaaDoorV

namespace Go.Proofs.YthocoandbiaoiaaDoorV
open Go
set_option maxRecDepth 100000
set_option maxHeartbeats 4000000
theorem p_AmbiguousSpans (m : Mach) (w a b : Int) : PCall Tryd.prog glob 4 [.pv m.pv, .pv (.int .u64 w), .pv (.int .i64 a), .pv (.int .i64 b)] (.pv (.bool true)) := by
  refine k_retargetlaw11_AmbiguousSpans.pcall (by simp) (by simp) (by simp) fun hwf => ?_
  have hm : m.pv.wf := by have := hwf (.pv m.pv) (by simp); simpa only [DV.wf] using this
  have hw0 := hwf (.pv (.int .u64 w)) (by simp)
  simp [IntKind.min, IntKind.max, IntKind.signed, IntKind.bits] at hw0
  obtain ⟨W, rfl⟩ := Int.eq_ofNat_of_zero_le hw0.1
  have hW : W < 2 ^ 64 := by omega
  simp [c_retargetlaw11_AmbiguousSpans]
  refine CallNext.data p_alive11 ?_
  simp
  refine CallNext.pure (p_r8_Great glob m) fun _ => ?_
  simp
  intro hg a0 a1 b0 b1
  have ht := great_terms hg
  have hab : IntKind.i64.wrap (a + b) = a + b := wrap_i64 (by omega) (by omega)
  rw [hab]
  refine CallNext.pure (p_amb_Holes m W (a + b) ht hW) fun _ => ?_
  simp
  refine CallNext.pure (p_amb_Holes m W a ht hW) fun _ => ?_
  simp
  by_cases hE : holesE m W (a + b) = 0
  · obtain ⟨e1, e2, e3⟩ := spans_law (m := m) (w := W) a0 b0 hE
    have hc := holesE_check hE
    have hmw := (mcheck_all hc).1
    have hle : (W : Int) + (a + b) ≤ 2 ^ (8 * m.word).toNat := by
      have h := hE
      rw [holesE, if_pos hc] at h
      split at h
      · split at h
        · assumption
        · omega
      · omega
    have hp : (2 : Int) ^ (8 * m.word).toNat ≤ 2 ^ 32 := by
      rw [pow_cast, show (2 : Int) ^ 32 = ((2 ^ 32 : Nat) : Int) by decide]
      exact Int.ofNat_le.2 (Nat.pow_le_pow_right (by omega) (by omega))
    obtain ⟨A, rfl⟩ := Int.eq_ofNat_of_zero_le a0
    have hwa : IntKind.u64.wrap ((W : Int) + IntKind.u64.wrap (A : Int)) = ((W + A : Nat) : Int) := by
      rw [wrap_u64 (n := (A : Int)) (by omega) (by omega), wrap_u64 (by omega) (by omega)]; push_cast; rfl
    have h2 := p_amb_Holes m (W + A) b ht (by omega)
    rw [Int.natCast_add, e2] at h2
    simp [hE, hwa]
    refine CallNext.data h2 ?_
    simp [e1]
    have b1 := holesN_len (m := m) (w := W) A
    have b2 := holesN_len (m := m) (w := W + A) b.toNat
    have c1 : (holesL m W A).length ≤ 300 := by rw [holesL, if_pos e1, Int.toNat_natCast]; omega
    have c2 : (holesL m ((W : Int) + A) b).length ≤ 300 := by rw [holesL, if_pos e2]; omega
    have hs := p_r8_SameWords glob (holesL m W ((A : Int) + b)) (holesL m W A ++ holesL m ((W : Int) + A) b)
    rw [show words (holesL m W A ++ holesL m ((W : Int) + A) b) = words (holesL m W A) ++ words (holesL m ((W : Int) + A) b) from List.map_append] at hs
    refine ⟨⟨by simp [Gd], by omega⟩, ⟨by simp [Gd], by omega⟩, _, .of hs, rfl, ?_⟩
    simp [e3]
    refine ⟨_, .of (p_mCheck hm ht), by simp, ?_⟩
    simp [hc]
  · have h1 : holesL m W (a + b) = [] := holes_nil hE
    simp [hE, h1]
    by_cases h2 : holesE m W a = 0
    · exact .inl h2
    · exact .inr (holes_nil h2)
end Go.Proofs.YthocoandbiaoiaaDoorV
