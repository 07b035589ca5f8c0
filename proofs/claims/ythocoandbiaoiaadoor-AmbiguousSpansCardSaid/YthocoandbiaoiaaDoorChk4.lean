/- Packed: Tf Pv Qa Ke Qb -/
import Derived.Test.YthocoandbiaoiaaDoorChk3
import Derived.Test.YthocoandbiaoiaaDoorProg
import Derived.KernelRfl
set_option linter.all false
namespace Go.Proofs.YthocoandbiaoiaaDoorV
open Go
set_option maxRecDepth 100000
/- "retarget/retargetlaw11.alive" -/
def c_retargetlaw11_alive : C :=
.seq (.reg [⟨some 0, none, .mov (.c (.pv (.bool false)))⟩]) (.seq (.reg [⟨some 9, none, .callf 23 []⟩, ⟨some 10, none, .callf 10 [(.t 9)]⟩, ⟨some 8, none, .mov (.t 10)⟩, ⟨some 11, none, .ext (.t 8) 0⟩, ⟨some 12, none, .ext (.t 8) 1⟩, ⟨some 1, none, .mov (.t 11)⟩, ⟨some 2, none, .mov (.t 12)⟩]) (.seq (.reg [⟨some 14, none, .callf 23 []⟩, ⟨some 15, none, .callf 11 [(.t 14), (.c (.pv (.int .u64 0))), (.c (.pv (.int .i64 256)))]⟩, ⟨some 13, none, .mov (.t 15)⟩, ⟨some 16, none, .ext (.t 13) 0⟩, ⟨some 17, none, .ext (.t 13) 1⟩, ⟨some 3, none, .mov (.t 16)⟩, ⟨some 4, none, .mov (.t 17)⟩]) (.seq (.reg [⟨some 19, none, .callf 23 []⟩, ⟨some 20, none, .callf 12 [(.t 19), (.c (.pv (.int .i64 0)))]⟩, ⟨some 18, none, .mov (.t 20)⟩, ⟨some 21, none, .ext (.t 18) 0⟩, ⟨some 22, none, .ext (.t 18) 1⟩, ⟨some 5, none, .mov (.t 21)⟩, ⟨some 6, none, .mov (.t 22)⟩]) (.seq (.seq (.reg [⟨some 23, none, .mov (.t 2)⟩, ⟨some 24, none, .bin .neq (.t 23) (.c (.pv (.int .i64 0)))⟩, ⟨some 25, none, .mov (.t 24)⟩, ⟨some 26, some (25, false), .mov (.t 1)⟩, ⟨some 27, some (25, false), .len (.t 26)⟩, ⟨some 28, some (25, false), .bin .neq (.t 27) (.c (.pv (.int .i64 1)))⟩, ⟨some 29, none, .lor (.t 25) (.t 28)⟩, ⟨some 30, none, .mov (.t 29)⟩, ⟨some 31, some (30, false), .mov (.t 1)⟩, ⟨some 32, some (30, false), .iad 3 (.t 31) (.c (.pv (.int .i64 0)))⟩, ⟨some 33, some (30, false), .load (some 3) (.t 32)⟩, ⟨some 34, some (30, false), .build [.pv (.int .i64 0), .pv (.int .i64 0), .pv (.int .u64 0)] [((0, 1), (.c (.pv (.int .i64 0)))), ((1, 1), (.c (.pv (.int .i64 1)))), ((2, 1), (.c (.pv (.int .u64 192))))]⟩, ⟨some 35, some (30, false), .ceq true [1, 1, 1] (.t 33) (.t 34)⟩, ⟨some 36, none, .lor (.t 30) (.t 35)⟩, ⟨some 37, none, .mov (.t 36)⟩, ⟨some 38, some (37, false), .mov (.t 4)⟩, ⟨some 39, some (37, false), .bin .neq (.t 38) (.c (.pv (.int .i64 0)))⟩, ⟨some 40, none, .lor (.t 37) (.t 39)⟩, ⟨some 41, none, .mov (.t 40)⟩, ⟨some 42, some (41, false), .mov (.t 3)⟩, ⟨some 43, some (41, false), .len (.t 42)⟩, ⟨some 44, some (41, false), .bin .neq (.t 43) (.c (.pv (.int .i64 64)))⟩, ⟨some 45, none, .lor (.t 41) (.t 44)⟩, ⟨some 46, none, .mov (.t 45)⟩, ⟨some 47, some (46, false), .mov (.t 6)⟩, ⟨some 48, some (46, false), .bin .neq (.t 47) (.c (.pv (.int .i64 0)))⟩, ⟨some 49, none, .lor (.t 46) (.t 48)⟩, ⟨some 50, none, .mov (.t 49)⟩, ⟨some 51, some (50, false), .mov (.t 5)⟩, ⟨some 52, some (50, false), .bin .neq (.t 51) (.c (.pv (.int .u64 128)))⟩, ⟨some 53, none, .lor (.t 50) (.t 52)⟩]) (.cond (.t 53) (.seq (.reg [⟨some 0, none, .mov (.c (.pv (.bool false)))⟩]) (.ret)) (.skip))) (.seq (.seq (.reg [⟨some 7, none, .mov (.c (.pv (.int .i64 0)))⟩]) (.blk 0 (.loop ⟨[3, 7], [], 0⟩ (.seq (.seq (.reg [⟨some 54, none, .mov (.t 7)⟩, ⟨some 55, none, .mov (.t 3)⟩, ⟨some 56, none, .len (.t 55)⟩, ⟨some 57, none, .bin .lss (.t 54) (.t 56)⟩]) (.cond (.t 57) (.skip) (.ext 0))) (.seq (.blk 1 (.seq (.reg [⟨some 60, none, .mov (.t 3)⟩, ⟨some 61, none, .mov (.t 7)⟩, ⟨some 62, none, .iad 1 (.t 60) (.t 61)⟩, ⟨some 63, none, .load none (.t 62)⟩, ⟨some 64, none, .mov (.t 7)⟩, ⟨some 65, none, .conv .u64 (.t 64)⟩, ⟨some 66, none, .bin .neq (.t 63) (.t 65)⟩]) (.cond (.t 66) (.seq (.reg [⟨some 0, none, .mov (.c (.pv (.bool false)))⟩]) (.ret)) (.skip)))) (.reg [⟨some 58, none, .mov (.t 7)⟩, ⟨some 59, none, .bin .add (.t 58) (.c (.pv (.int .i64 1)))⟩, ⟨some 7, none, .mov (.t 59)⟩])))))) (.seq (.reg [⟨some 0, none, .mov (.c (.pv (.bool true)))⟩]) (.ret)))))))
theorem k_retargetlaw11_alive : FnOk Tryd.prog 8 67 c_retargetlaw11_alive [.tmp 0] := .mk' (fn := Tryd.f8) rfl rfl (by kernel_rfl) rfl (by kernel_rfl) (by kernel_rfl)
/- "retarget/retargetlaw11.twoOf" -/
def c_retargetlaw11_twoOf : C :=
.seq (.reg [⟨some 0, none, .alloc [.pv (.str ⟨#[]⟩), .pv (.int .i64 0), .pv (.int .i64 0), .nilS 4, .nilS 2, .nilS 2, .nilS 9]⟩]) (.seq (.reg [⟨some 1, none, .mov (.c (.fn (.func 50) [] []))⟩]) (.seq (.reg [⟨some 3, none, .build [.pv (.str ⟨#[]⟩), .pv (.int .i64 0), .pv (.int .i64 0), .pv (.int .i64 0)] [((0, 1), (.c (.pv (.str ⟨#[97]⟩)))), ((1, 1), (.c (.pv (.int .i64 8)))), ((2, 1), (.c (.pv (.int .i64 (-1)))))]⟩, ⟨some 4, none, .lit 4 [(.t 3)]⟩, ⟨some 5, none, .build [.pv (.str ⟨#[]⟩), .pv (.int .i64 0)] [((0, 1), (.c (.pv (.str ⟨#[117]⟩)))), ((1, 1), (.c (.pv (.int .i64 1))))]⟩, ⟨some 6, none, .lit 2 [(.t 5)]⟩, ⟨some 7, none, .build [.pv (.str ⟨#[]⟩), .pv (.int .i64 0), .pv (.int .i64 0), .nilS 4, .nilS 2, .nilS 2, .nilS 9] [((0, 1), (.c (.pv (.str ⟨#[116, 119, 111]⟩)))), ((1, 1), (.c (.pv (.int .i64 1)))), ((2, 1), (.c (.pv (.int .i64 16)))), ((3, 1), (.t 4)), ((5, 1), (.t 6))]⟩, ⟨some 2, none, .alloc [.pv (.str ⟨#[]⟩), .pv (.int .i64 0), .pv (.int .i64 0), .nilS 4, .nilS 2, .nilS 2, .nilS 9]⟩, ⟨none, none, .store 7 (.t 2) (.t 7)⟩]) (.seq (.reg [⟨some 8, none, .mov (.t 1)⟩, ⟨some 9, none, .build [.pv (.int .i64 0), .pv (.int .i64 0)] [((0, 1), (.c (.pv (.int .i64 0)))), ((1, 1), (.c (.pv (.int .i64 7))))]⟩, ⟨some 10, none, .lit 2 [(.t 9)]⟩, ⟨some 11, none, .callv (.t 8) [(.t 10)]⟩, ⟨some 12, none, .build [.pv (.str ⟨#[]⟩), .pv (.int .u64 0), .pv (.int .u64 0), .nilS 6, .nilS 21, .pv (.int .i64 0), .pv (.int .i64 0), .pv (.int .i64 0), .pv (.int .i64 0)] [((0, 1), (.c (.pv (.str ⟨#[120]⟩)))), ((1, 1), (.c (.pv (.int .u64 128)))), ((2, 1), (.c (.pv (.int .u64 128)))), ((3, 1), (.t 11)), ((6, 1), (.c (.pv (.int .i64 1)))), ((7, 1), (.c (.pv (.int .i64 1))))]⟩, ⟨some 13, none, .mov (.t 1)⟩, ⟨some 14, none, .build [.pv (.int .i64 0), .pv (.int .i64 0)] [((0, 1), (.c (.pv (.int .i64 0)))), ((1, 1), (.c (.pv (.int .i64 6))))]⟩, ⟨some 15, none, .build [.pv (.int .i64 0), .pv (.int .i64 0)] [((0, 1), (.c (.pv (.int .i64 7)))), ((1, 1), (.c (.pv (.int .i64 1))))]⟩, ⟨some 16, none, .lit 2 [(.t 14), (.t 15)]⟩, ⟨some 17, none, .callv (.t 13) [(.t 16)]⟩, ⟨some 18, none, .build [.pv (.str ⟨#[]⟩), .pv (.int .u64 0), .pv (.int .u64 0), .nilS 6, .nilS 21, .pv (.int .i64 0), .pv (.int .i64 0), .pv (.int .i64 0), .pv (.int .i64 0)] [((0, 1), (.c (.pv (.str ⟨#[121]⟩)))), ((1, 1), (.c (.pv (.int .u64 64)))), ((2, 1), (.c (.pv (.int .u64 64)))), ((3, 1), (.t 17)), ((6, 1), (.c (.pv (.int .i64 1)))), ((7, 1), (.c (.pv (.int .i64 1))))]⟩, ⟨some 19, none, .lit 9 [(.t 12), (.t 18)]⟩, ⟨some 20, none, .fad 6 (.t 2)⟩, ⟨none, none, .store 1 (.t 20) (.t 19)⟩]) (.seq (.reg [⟨some 21, none, .load (some 7) (.t 2)⟩, ⟨none, none, .store 7 (.t 0) (.t 21)⟩]) (.ret)))))
theorem k_retargetlaw11_twoOf : FnOk Tryd.prog 23 22 c_retargetlaw11_twoOf [.cell 0 (some 7)] := .mk' (fn := Tryd.f23) rfl rfl (by kernel_rfl) rfl (by kernel_rfl) (by kernel_rfl)
/- "retarget/retargetlaw11.twoOf$1" -/
def c_retargetlaw11_twoOf_1 : C :=
.seq (.reg [⟨some 2, none, .mov (.c (.nilS 6))⟩]) (.seq (.reg [⟨some 3, none, .mov (.t 0)⟩, ⟨some 4, none, .build [.pv (.str ⟨#[]⟩), .pv (.int .u8 0), .pv (.int .i64 0), .pv (.int .i64 0), .nilS 2, .pv (.int .i64 0)] [((0, 1), (.c (.pv (.str ⟨#[110]⟩)))), ((1, 1), (.c (.pv (.int .u8 3)))), ((4, 1), (.t 3)), ((5, 1), (.c (.pv (.int .i64 (-1)))))]⟩, ⟨some 5, none, .lit 6 [(.t 4)]⟩, ⟨some 2, none, .mov (.t 5)⟩]) (.ret))
theorem k_retargetlaw11_twoOf_1 : FnOk Tryd.prog 50 6 c_retargetlaw11_twoOf_1 [.tmp 2] := .mk' (fn := Tryd.f50) rfl rfl (by kernel_rfl) rfl (by kernel_rfl) (by kernel_rfl)
end Go.Proofs.YthocoandbiaoiaaDoorV

namespace Go.Proofs.YthocoandbiaoiaaDoorV
open Go
set_option maxHeartbeats 1000000
theorem sumN_swap (f : Nat → Nat → Nat) (N : Nat) : ∀ k, sumN (fun i => sumN (fun w => f i w) N) k = sumN (fun w => sumN (fun i => f i w) k) N
  | 0 => by simp only [sumN]; rw [sumN_zero]
  | k + 1 => by
    rw [sumN, sumN_swap f N k, ← sumN_add]
    exact sumN_congr _ fun w _ => rfl
theorem sumN_ge {f : Nat → Nat} : ∀ N, (∀ w, w < N → 1 ≤ f w) → N ≤ sumN f N ∧ (sumN f N = N ↔ ∀ w, w < N → f w = 1)
  | 0, _ => by simp [sumN]
  | N + 1, h => by
    obtain ⟨h1, h2⟩ := sumN_ge N fun w hw => h w (by omega)
    have h3 := h N (by omega)
    rw [sumN]
    refine ⟨by omega, fun h4 w hw => ?_, fun h4 => ?_⟩
    · rcases Nat.lt_or_eq_of_le (Nat.le_of_lt_succ hw) with hw | rfl
      · exact h2.1 (by omega) w hw
      · omega
    · have := h2.2 fun w hw => h4 w (by omega)
      have := h4 N (by omega)
      omega
theorem sumN_le1 {p : Nat → Bool} : ∀ k, sumN (fun i => if p i then 1 else 0) k ≤ 1 ↔ ∀ i j, i < j → j < k → ¬ (p i = true ∧ p j = true)
  | 0 => by simp [sumN]
  | k + 1 => by
    have ih := sumN_le1 (p := p) k
    have h0 : sumN (fun i => if p i then 1 else 0) k = 0 ↔ ∀ i, i < k → p i = false := by
      clear ih
      induction k with
      | zero => simp [sumN]
      | succ k ih =>
        rw [sumN]
        constructor
        · intro h i hi
          rcases Nat.lt_or_eq_of_le (Nat.le_of_lt_succ hi) with hi | rfl
          · exact ih.1 (by omega) i hi
          · cases e : p i
            · rfl
            · simp [e] at h
        · intro h
          rw [ih.2 fun i hi => h i (by omega), h k (by omega)]; rfl
    rw [sumN]
    constructor
    · intro h i j hij hj
      rcases Nat.lt_or_eq_of_le (Nat.le_of_lt_succ hj) with hj | rfl
      · exact ih.1 (by omega) i j hij hj
      · rintro ⟨h1, h2⟩
        rw [if_pos h2] at h
        have := h0.1 (by omega) i hij
        rw [h1] at this; simp at this
    · intro h
      have h1 := ih.2 fun i j hij hj => h i j hij (by omega)
      cases e : p k
      · simpa using h1
      · have h2 := h0.2 fun i hi => by
          cases e2 : p i
          · rfl
          · exact absurd ⟨e2, e⟩ (h i k hi (by omega))
        rw [h2]; simp
def share (p : Nat → Bool) (k : Nat) : Nat := sumN (fun i => if p i then 1 else 0) k + if allB k (fun i => !p i) then 1 else 0
theorem share_ge (p : Nat → Bool) (k : Nat) : 1 ≤ share p k ∧ (share p k = 1 ↔ sumN (fun i => if p i then 1 else 0) k ≤ 1) := by
  have h0 : sumN (fun i => if p i then 1 else 0) k = 0 ↔ allB k (fun i => !p i) = true := by
    induction k with
    | zero => simp [sumN]
    | succ k ih =>
      rw [sumN, allB_succ, Bool.and_eq_true, ← ih]
      cases e : p k <;> simp [e]
  rw [share]
  by_cases h : allB k (fun i => !p i) = true
  · rw [if_pos h, h0.2 h]; omega
  · rw [if_neg h]
    have : sumN (fun i => if p i then 1 else 0) k ≠ 0 := fun e => h (h0.1 e)
    omega
theorem share_law (p : Nat → Nat → Bool) (k N : Nat) : N ≤ sumN (fun i => cnt (p i) N) k + cnt (fun w => allB k fun i => !p i w) N ∧
    (sumN (fun i => cnt (p i) N) k + cnt (fun w => allB k fun i => !p i w) N = N ↔ ∀ w, w < N → ∀ i j, i < j → j < k → ¬ (p i w = true ∧ p j w = true)) := by
  have h1 : sumN (fun i => cnt (p i) N) k + cnt (fun w => allB k fun i => !p i w) N = sumN (fun w => share (fun i => p i w) k) N := by
    simp only [cnt]
    rw [sumN_swap, ← sumN_add]
    exact sumN_congr _ fun w _ => rfl
  obtain ⟨h2, h3⟩ := sumN_ge (f := fun w => share (fun i => p i w) k) N fun w _ => (share_ge _ k).1
  rw [h1]
  refine ⟨h2, h3.trans ⟨fun h w hw => (sumN_le1 k).1 ((share_ge _ k).2.1 (h w hw)), fun h w hw => (share_ge _ k).2.2 ((sumN_le1 k).2 (h w hw))⟩⟩
theorem whereN_nil {p : Nat → Bool} : ∀ n, whereN p n = [] ↔ allB n (fun i => !p i) = true
  | 0 => by simp [whereN]
  | n + 1 => by
    rw [whereN, List.append_eq_nil_iff, whereN_nil n, allB_succ, Bool.and_eq_true]
    cases e : p n <;> simp [e]
theorem holesN_cnt (m : Mach) : ∀ n, (holesN m 0 n).length = cnt (fun w => allB m.instrs.length fun i => !lawB m (gt m.instrs (i : Nat)) w) n
  | 0 => rfl
  | n + 1 => by
    rw [holesN, List.length_append, holesN_cnt m n, cnt, cnt, sumN]
    congr 1
    have : ownN m (0 + (n : Int)) = [] ↔ allB m.instrs.length (fun i => !lawB m (gt m.instrs (i : Nat)) (n : Int)) = true := by rw [Int.zero_add, ownN, whereN_nil]
    by_cases h : ownN m (0 + (n : Int)) = []
    · rw [if_pos h, if_pos (this.1 h)]; rfl
    · rw [if_neg h, if_neg fun e => h (this.2 e)]; rfl
theorem clash1_nil (m : Mach) (a : Nat) : ∀ n, clash1 m a n = [] ↔ ∀ b : Nat, a < b → b < n → meetB m (gt m.instrs (a : Nat)) (gt m.instrs (b : Nat)) = false
  | 0 => by simp [clash1]
  | n + 1 => by
    rw [clash1, List.append_eq_nil_iff, clash1_nil m a n]
    constructor
    · rintro ⟨h1, h2⟩ b hab hb
      rcases Nat.lt_or_eq_of_le (Nat.le_of_lt_succ hb) with hb | rfl
      · exact h1 b hab hb
      · rw [Bool.eq_false_iff]; intro h
        rw [if_pos ⟨hab, h⟩] at h2; simp at h2
    · intro h
      refine ⟨fun b hab hb => h b hab (by omega), ?_⟩
      rw [if_neg]
      rintro ⟨h1, h2⟩
      rw [h n h1 (by omega)] at h2; simp at h2
theorem clashN_nil (m : Mach) : ∀ k, clashN m k = [] ↔ ∀ a b : Nat, a < k → a < b → b < m.instrs.length → meetB m (gt m.instrs (a : Nat)) (gt m.instrs (b : Nat)) = false
  | 0 => by simp [clashN]
  | k + 1 => by
    rw [clashN, List.append_eq_nil_iff, clashN_nil m k, clash1_nil]
    constructor
    · rintro ⟨h1, h2⟩ a b ha hab hb
      rcases Nat.lt_or_eq_of_le (Nat.le_of_lt_succ ha) with ha | rfl
      · exact h1 a b ha hab hb
      · exact h2 b hab hb
    · intro h
      exact ⟨fun a b ha hab hb => h a b (by omega) hab hb, fun b hab hb => h k b (by omega) hab hb⟩
theorem all_law {m : Mach} (hc : mcheck m = 0) (hm : ∀ s ∈ m.instrs, (0 ≤ s.mask ∧ s.mask ≤ 18446744073709551615) ∧ 0 ≤ s.mtch ∧ s.mtch ≤ 18446744073709551615) (hw : m.word = 1) :
    256 ≤ sumN (fun i => countN m (gt m.instrs (i : Nat)) (gt m.instrs (i : Nat)).operands.length) m.instrs.length + (holesN m 0 256).length ∧
    (sumN (fun i => countN m (gt m.instrs (i : Nat)) (gt m.instrs (i : Nat)).operands.length) m.instrs.length + (holesN m 0 256).length = 256 ↔ clashL m = []) ∧
    (∀ i : Nat, i < m.instrs.length → countN m (gt m.instrs (i : Nat)) (gt m.instrs (i : Nat)).operands.length ≤ 256) := by
  have hmem : ∀ i : Nat, i < m.instrs.length → gt m.instrs (i : Nat) ∈ m.instrs := fun i hi => gt_mem (by omega) (by omega)
  have hv : ∀ i : Nat, i < m.instrs.length → insV m (gt m.instrs (i : Nat)) := fun i hi => ins_valid hc hm (hmem i hi)
  have hcl : ∀ i : Nat, i < m.instrs.length → cnt (fun w : Nat => lawB m (gt m.instrs (i : Nat)) w) 256 = countN m (gt m.instrs (i : Nat)) (gt m.instrs (i : Nat)).operands.length := fun i hi => by
    have := count_law (hv i hi) fun j hj => ops_count hc (hmem i hi) (hv i hi) hj
    rw [hw] at this; exact this
  obtain ⟨h1, h2⟩ := share_law (fun i w => lawB m (gt m.instrs (i : Nat)) (w : Int)) m.instrs.length 256
  have h3 : sumN (fun i => cnt (fun w : Nat => lawB m (gt m.instrs (i : Nat)) w) 256) m.instrs.length = sumN (fun i => countN m (gt m.instrs (i : Nat)) (gt m.instrs (i : Nat)).operands.length) m.instrs.length := sumN_congr _ hcl
  rw [h3, ← holesN_cnt] at h1 h2
  refine ⟨h1, h2.trans ?_, fun i hi => ?_⟩
  · rw [clashL, if_pos hc, clashN_nil]
    constructor
    · intro h a b ha hab hb
      rw [Bool.eq_false_iff]; intro hmt
      obtain ⟨w, hw2, hl⟩ := (meet_law (hv a ha) (hv b hb)).1 hmt
      rw [hw] at hw2
      exact h w hw2 a b hab hb hl
    · rintro h w hw2 i j hij hj hl
      have h5 : meetB m (gt m.instrs (i : Nat)) (gt m.instrs (j : Nat)) = true := (meet_law (hv i (by omega)) (hv j hj)).2 ⟨w, by rw [hw]; exact hw2, hl⟩
      rw [h i j (by omega) hij hj] at h5; simp at h5
  · rw [← hcl i hi, cnt]
    have := sumN_le (f := fun w => if lawB m (gt m.instrs (i : Nat)) (w : Int) then 1 else 0) (c := 1) (n := 256) fun w _ => by split <;> omega
    omega
end Go.Proofs.YthocoandbiaoiaaDoorV

namespace Go.Proofs.YthocoandbiaoiaaDoorV
open Go
set_option maxRecDepth 100000
def twoN (ps : List Piece) : List Opnd := [⟨⟨#[110]⟩, 3, 0, 0, ps, -1⟩]
def two : Mach := ⟨⟨#[116, 119, 111]⟩, 1, 16, [⟨⟨#[97]⟩, 8, -1, 0⟩], [], [⟨⟨#[117]⟩, 1⟩], [⟨⟨#[120]⟩, 128, 128, twoN [⟨0, 7⟩], [], 0, 1, 1, 0⟩, ⟨⟨#[121]⟩, 64, 64, twoN [⟨0, 6⟩, ⟨7, 1⟩], [], 0, 1, 1, 0⟩]⟩
theorem q_check : decide (mcheck two = 0) = true := by kernel_rfl
theorem q_great : greatM two = false := by kernel_rfl
theorem q_clash : clashL two = [⟨0, 1, 192⟩] := by kernel_rfl
theorem q_holes : holesL two 0 256 = (List.range 64).map fun n : Nat => (n : Int) := by kernel_rfl
theorem q_holesE : holesE two 0 256 = 0 := by kernel_rfl
theorem q_count : countW two 0 = 128 := by kernel_rfl
theorem q_countE : indexE two 0 = 0 := by kernel_rfl
theorem terms_two : mTerms two := great_terms q_great
end Go.Proofs.YthocoandbiaoiaaDoorV

namespace Go.Proofs.YthocoandbiaoiaaDoorV
open Go
set_option maxRecDepth 100000
set_option maxHeartbeats 4000000
theorem p_twoOf_1 (gl : Glob) (ps : List Piece) : PCall Tryd.prog gl 50 [.pv (.lst 2 (ps.map Piece.pv))] (.pv (.lst 6 ((twoN ps).map Opnd.pv))) := by
  refine k_retargetlaw11_twoOf_1.pcall (by simp) (by simp) (by simp) fun hwf => ?_
  simp [c_retargetlaw11_twoOf_1, twoN]
  rfl
theorem p_twoOf (gl : Glob) : PCall Tryd.prog gl 23 [] (.pv two.pv) := by
  refine k_retargetlaw11_twoOf.pcall (by simp) (by simp) (by simp) fun hwf => ?_
  simp [c_retargetlaw11_twoOf, evFn]
  refine CallNext.pure (p_twoOf_1 gl [⟨0, 7⟩]) fun _ => ?_
  simp [evFn]
  refine CallNext.pure (p_twoOf_1 gl [⟨0, 6⟩, ⟨7, 1⟩]) fun _ => ?_
  simp
  rfl
theorem p_alive11 : PCall Tryd.prog glob 8 [] (.pv (.bool true)) := by
  refine k_retargetlaw11_alive.pcall (by simp) (by simp) (by simp) fun hwf => ?_
  simp [c_retargetlaw11_alive]
  refine CallNext.data (p_twoOf glob) ?_
  simp
  refine CallNext.data (p_amb_Clashes two terms_two) ?_
  rw [q_clash, of_decide_eq_true q_check]
  simp
  refine CallNext.data (p_twoOf glob) ?_
  simp
  have h2 := p_amb_Holes two 0 256 terms_two (by omega)
  rw [show ((0 : Nat) : Int) = 0 from rfl, q_holes, q_holesE] at h2
  refine CallNext.data h2 ?_
  simp
  refine CallNext.data (p_twoOf glob) ?_
  simp
  refine CallNext.data (p_amb_Count two 0 terms_two) ?_
  rw [q_count, q_countE]
  simp [show ∀ x : PV, nth [x] 0 = x from fun _ => rfl, ceqs, ceq1, PV.kd]
  refine Loop.nat (fun i => { e := [(3, .pv (.lst 1 (words ((List.range 64).map fun n : Nat => (n : Int))))), (7, .pv (.int .i64 i))], h := [], nx := 0 }) 64 (fun _ => True) (by simp) trivial (by simp) fun i hi hinv => ?_
  by_cases hlt : i < 64
  · have hg : gt ((List.range 64).map fun n : Nat => (n : Int)) (i : Nat) = (i : Int) := by rw [gt_nat (by simpa using hlt)]; simp
    have hne : ((List.range 64).map fun n : Nat => (n : Int)) ≠ [] := by simp
    have hw1 : IntKind.i64.wrap ((i : Int) + 1) = (i : Int) + 1 := wrap_nat (by omega) (by omega)
    have hw2 : IntKind.u64.wrap (i : Int) = (i : Int) := wrap_u64 (by omega) (by omega)
    simp [hlt, hg, hw1, hw2, show (i : Int) < 64 by omega, -List.map_eq_nil_iff]
  · obtain rfl : i = 64 := by omega
    simp
end Go.Proofs.YthocoandbiaoiaaDoorV

namespace Go.Proofs.YthocoandbiaoiaaDoorV
open Go
set_option maxHeartbeats 1000000
def masksOk (m : Mach) : Prop := ∀ s ∈ m.instrs, (0 ≤ s.mask ∧ s.mask ≤ 18446744073709551615) ∧ 0 ≤ s.mtch ∧ s.mtch ≤ 18446744073709551615
theorem index_in {m : Mach} {i : Int} (h : indexE m i = 0) : mcheck m = 0 ∧ 0 ≤ i ∧ i ≤ (m.instrs.length : Int) - 1 := by
  rcases indexE_cases m i with ⟨h1, ⟨h2, -⟩ | ⟨-, h2⟩⟩ | ⟨h1, h2⟩
  · exact ⟨h1, by simpa [inR] using h2⟩
  · omega
  · omega
theorem common_in {m : Mach} {a b : Int} (h : commonE m a b = 0) : indexE m a = 0 ∧ indexE m b = 0 := by
  unfold commonE at h
  split at h
  · exact ⟨by assumption, h⟩
  · rename_i h1; exact absurd h h1
theorem common_self {m : Mach} {a b : Int} (h : commonE m a b = 0) : commonE m a a = 0 := by
  have := common_in h
  rw [commonE, if_pos this.1, this.1]
theorem self_law {m : Mach} (hm : masksOk m) {a : Int} (h : indexE m a = 0) : commonB m a a = true ∧ commonW m a a = (gt m.instrs a).mtch := by
  obtain ⟨hc, h0, h1⟩ := index_in h
  have hs : gt m.instrs a ∈ m.instrs := gt_mem h0 (by omega)
  have hv := ins_valid hc hm hs
  have hl := law_match hv fun i hi hf => (ops_valid hc hs hi (isFld_iff.1 hf).1 (isFld_iff.1 hf).2).2.1
  have hw : meetW (gt m.instrs a) (gt m.instrs a) = (gt m.instrs a).mtch := meetW_self (match_64 hv)
  have hB : commonB m a a = true := by simp [commonB, commonE, h, meetB, hw, hl]
  exact ⟨hB, by rw [commonW, if_pos hB, hw]⟩
theorem common_ge {m : Mach} (hm : masksOk m) {a b : Int} (h : commonB m a b = true) : (gt m.instrs a).mtch ≤ commonW m a b := by
  have hE : commonE m a b = 0 := by simp [commonB] at h; exact h.1
  obtain ⟨ha, hb⟩ := common_in hE
  obtain ⟨hc, h0, h1⟩ := index_in ha
  obtain ⟨-, h2, h3⟩ := index_in hb
  have hva := ins_valid hc hm (gt_mem (l := m.instrs) h0 (by omega))
  have hvb := ins_valid hc hm (gt_mem (l := m.instrs) h2 (by omega))
  rw [commonW, if_pos h, meetW_nat (match_64 hva) (match_64 hvb)]
  have := Nat.left_le_or (n := (gt m.instrs a).mtch.toNat) (m := (gt m.instrs b).mtch.toNat)
  have := (match_64 hva).1
  omega
theorem spans_law {m : Mach} {w a b : Int} (ha : 0 ≤ a) (hb : 0 ≤ b) (h : holesE m w (a + b) = 0) : holesE m w a = 0 ∧ holesE m (w + a) b = 0 ∧ holesL m w (a + b) = holesL m w a ++ holesL m (w + a) b := by
  have h' := h
  unfold holesE at h
  split at h
  · rename_i hc
    split at h
    · rename_i hi
      split at h
      · rename_i hl
        have hi' : 0 ≤ a + b ∧ a + b ≤ 4096 := by simpa [inR] using hi
        have e1 : holesE m w a = 0 := by rw [holesE, if_pos hc, if_pos (by simp [inR]; omega), if_pos (by omega)]
        have e2 : holesE m (w + a) b = 0 := by rw [holesE, if_pos hc, if_pos (by simp [inR]; omega), if_pos (by omega)]
        refine ⟨e1, e2, ?_⟩
        rw [holesL, if_pos h', holesL, if_pos e1, holesL, if_pos e2]
        have := holesN_add (m := m) (w := w) a.toNat b.toNat
        rw [show (a + b).toNat = a.toNat + b.toNat by omega, this, Int.toNat_of_nonneg ha]
      · omega
    · omega
  · rename_i hc; exact absurd h hc
theorem holes_nil {m : Mach} {w c : Int} (h : holesE m w c ≠ 0) : holesL m w c = [] := by rw [holesL, if_neg h]
theorem holesE_check {m : Mach} {w c : Int} (h : holesE m w c = 0) : mcheck m = 0 := by
  unfold holesE at h
  split at h
  · assumption
  · exact h
theorem owners_at {m : Mach} {w : Int} {i n : Nat} (hp : lawB m (gt m.instrs (i : Nat)) w = true) (h : i < n) : (whereN (fun i => lawB m (gt m.instrs (i : Nat)) w) i).length < (whereN (fun i => lawB m (gt m.instrs (i : Nat)) w) n).length ∧ gt (whereN (fun i => lawB m (gt m.instrs (i : Nat)) w) n) ((whereN (fun i => lawB m (gt m.instrs (i : Nat)) w) i).length : Nat) = (i : Int) := whereN_at (p := fun i => lawB m (gt m.instrs (i : Nat)) w) hp h
theorem owners_ok {m : Mach} {w : Int} (h : ownersE m w = 0) : mcheck m = 0 ∧ wordE m w = 0 := by
  unfold ownersE at h
  split at h
  · exact ⟨by assumption, h⟩
  · rename_i h1; exact absurd h h1
theorem legal_of {m : Mach} {w : Int} {i : Nat} (h : ownersE m w = 0) (hi : i < m.instrs.length) : legalE m (i : Nat) w = 0 ∧ legalB m (i : Nat) w = lawB m (gt m.instrs (i : Nat)) w := by
  obtain ⟨hc, hw⟩ := owners_ok h
  have e1 : indexE m (i : Nat) = 0 := by rw [indexE, if_pos hc, if_pos (by simp [inR]; omega)]
  have e2 : legalE m (i : Nat) w = 0 := by rw [legalE, if_pos e1, hw]
  exact ⟨e2, by simp [legalB, e2]⟩
theorem counts_le {m : Mach} {f : Nat → Nat} : ∀ n, (∀ i, i < n → f i ≤ 256) → sumN f n ≤ 256 * n
  | 0, _ => by simp [sumN]
  | n + 1, h => by
    have h1 := counts_le (m := m) n fun i hi => h i (by omega)
    have h2 := h n (by omega)
    rw [sumN]; omega
end Go.Proofs.YthocoandbiaoiaaDoorV
