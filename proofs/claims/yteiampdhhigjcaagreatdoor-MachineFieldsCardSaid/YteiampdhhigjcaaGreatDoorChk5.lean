/- Packed: Cu Pj Cw Gz Gy Pl Pm Pn -/
import Derived.Test.YteiampdhhigjcaaGreatDoorChk4
set_option linter.all false
/- Contracts: layer 8 of the program: values of registers. -/
namespace Go.Proofs.YteiampdhhigjcaaGreatDoorV
open Go
set_option maxRecDepth 100000
set_option maxHeartbeats 4000000

def locR (m : Mach) (rs : List Int) (reg : Int) : Int × Int × Int := if valE m rs reg = 0 then partI m reg else (0, 0, 0)
theorem p_machine_locate (m : Mach) (rs : List Int) (reg : Int) (ht : mTerms m) : PCall Tryz.prog glob 88 [.pv m.pv, .pv (.lst 1 (words rs)), .pv (.int .i64 reg)] (.tup [.pv (.int .i64 (locR m rs reg).1), .pv (.int .i64 (locR m rs reg).2.1), .pv (.int .i64 (locR m rs reg).2.2), .pv (.int .i64 (valE m rs reg))]) := by
  refine k_machine_locate.pcall (by simp) (by simp) (by simp) fun hwf => ?_
  have hw := words_wf (hwf (.pv (.lst 1 (words rs))) (by simp))
  simp [c_machine_locate]
  refine CallNext.pure (p_machine_Part m reg ht) fun _ => ?_
  simp
  refine ⟨fun h => by simp [locR, valE, h], fun hp => ?_⟩
  obtain ⟨hc, hi⟩ := partE_zero hp
  obtain ⟨hr, hl⟩ := mcheck_regs hc
  have hl := (inLimits_iff hl).1
  have hk := topsN_len m m.regs.length
  have hR : partR m reg = partI m reg := by simp only [partR, hc, if_true]
  refine CallNext.pure (p_machine_tops glob m (by omega)) fun _ => ?_
  simp
  refine ⟨fun hn => ?_, fun hn => ?_⟩
  · have : ¬ (tops m).length = rs.length := by omega
    simp [locR, valE, hp, fitsR, this]
  have hn' : (tops m).length = rs.length := by omega
  have hl2 : (tops m).length ≤ 64 := by unfold tops; omega
  have hfit : ∀ {i : Nat}, i < rs.length → ¬ gt rs (i : Nat) < 2 ^ (gt m.regs (gt (tops m) (i : Nat))).width.toNat → valE m rs reg = 14 := fun {i} hi h => by
    have : fitsR m rs = false := by rw [fitsR, allB_false hi (by simpa using h)]; simp
    simp [valE, hp, this]
  refine Loop.nat (fun i => { e := [(3, .ptr 0 0), (6, .pv (.int .i64 (partI m reg).1)), (7, .pv (.int .i64 (partI m reg).2.1)), (8, .pv (.int .i64 (partI m reg).2.2)), (10, .pv (.lst 1 (ints (tops m)))), (31, .pv (.lst 1 (words rs))), (32, .pv (.int .i64 rs.length)), (33, .pv (.int .i64 i))], h := [(0, m.bx)], nx := 1 }) rs.length (fun i => (allB i fun i => decide (gt rs (i : Nat) < 2 ^ (gt m.regs (gt (tops m) (i : Nat))).width.toNat)) = true) (by simp [Mach.bx]) (by simp) (by simp [Mach.bx, hR]) fun i hi2 hinv => ?_
  by_cases hlt : i < rs.length
  · have hlt2 : i < (tops m).length := by omega
    have htr := tops_reg hlt2
    have hne : m.regs ≠ [] := by intro h; simp [h] at htr; omega
    have hwd := low_of hr (reg := gt (tops m) (i : Nat)) (by simp only [inR, Bool.and_eq_true, decide_eq_true_eq]; omega)
    simp [hlt, hlt2, hne, Mach.bx, htr.1, htr.2]
    refine DCallNext.pure (p_bits_Ok glob _ _) ?_
    rw [okVal_eq ⟨hwd.2.2.1, hwd.2.2.2⟩]
    simp [hlt, wrap_nat (show (0:Int) ≤ i + 1 by omega) (by omega)]
    refine ⟨fun h => ?_, fun h => ?_⟩
    · have hv := hfit hlt (by omega)
      simp [locR, hv]
    · rw [allB_succ, hinv]; simpa using h
  · obtain rfl : i = rs.length := by omega
    have hf : fitsR m rs = true := by rw [fitsR, hinv, hn']; simp
    have hv : valE m rs reg = 0 := by simp [valE, hp, hf]
    simp [locR, hv]
theorem p_machine_Read (m : Mach) (rs : List Int) (reg : Int) (ht : mTerms m) : PCall Tryz.prog glob 28 [.pv m.pv, .pv (.lst 1 (words rs)), .pv (.int .i64 reg)] (.tup [.pv (.int .u64 (readI m rs reg)), .pv (.int .i64 (valE m rs reg))]) := by
  refine k_machine_Read.pcall (by simp) (by simp) (by simp) fun hwf => ?_
  have hw := (words_wf (hwf (.pv (.lst 1 (words rs))) (by simp))).1
  simp [c_machine_Read]
  refine CallNext.pure (p_machine_locate m rs reg ht) fun _ => ?_
  simp
  refine ⟨fun h => by simp [readI, h], fun h => ?_⟩
  obtain ⟨hp, hlen, hfit⟩ := valE_ok h
  obtain ⟨p, l, w, hpi, hpl, hw1, hlw, -, -⟩ := part_ok hp
  have hx := hw _ (gt_mem (l := rs) (i := (p : Nat)) (by omega) (by omega))
  have hrd : readI m rs reg = (fldN (gt rs (p : Nat)).toNat l w : Nat) := by rw [readI, if_pos h, rootV, hpi]; simp
  have hL : locR m rs reg = ((p : Int), (l : Int), (w : Int)) := by rw [locR, if_pos h, hpi]
  rw [hrd, hL, h]
  simp [show p < rs.length by omega]
  refine DCallNext.pure (p_bits_Mask glob _) ?_
  rw [maskI_of ⟨hw1, by omega⟩]
  simp
  obtain ⟨n, hn⟩ := Int.eq_ofNat_of_zero_le hx.1
  rw [hn] at hx ⊢
  rw [rd_ops (by omega) hlw, Int.toNat_natCast]
theorem p_Clone (gl : Glob) (l : List Int) (hne : l ≠ []) (hl : l.length ≤ 1000) : ACall Tryz.prog gl (.func 93) 0 [.pv (.lst 1 (words l))] [] (.mrow 0 0 l.length 1) [(0, .box ((words l).map .pv))] 1 := by
  have hw : words l ≠ [] := by simpa [words] using hne
  refine k_slices_Clone_uint64_uint64.acall (by simp) (by simp) (by simp) (by simp) (by simp) (by simp) fun hwf => ?_
  simp [c_slices_Clone_uint64_uint64, hw, ownOf0, flat_words]
  exact ⟨by omega, [0], by simp⟩
theorem p_machine_Write (m : Mach) (rs : List Int) (reg x : Int) (ht : mTerms m) : PCall Tryz.prog glob 30 [.pv m.pv, .pv (.lst 1 (words rs)), .pv (.int .i64 reg), .pv (.int .u64 x)] (.tup [.pv (.lst 1 (words (writeL m rs reg x))), .pv (.int .i64 (writeE m rs reg x))]) := by
  refine k_machine_Write.pcall (by simp) (by simp) (by simp) fun hwf => ?_
  have hw := (words_wf (hwf (.pv (.lst 1 (words rs))) (by simp))).1
  have hx0 := hwf (.pv (.int .u64 x)) (by simp)
  simp [IntKind.min, IntKind.max, IntKind.signed, IntKind.bits] at hx0
  simp [c_machine_Write]
  refine CallNext.pure (p_machine_locate m rs reg ht) fun _ => ?_
  simp
  refine ⟨fun h => by simp [writeL, writeE, h, words], fun h => ?_⟩
  obtain ⟨hp, hlen, hfit⟩ := valE_ok h
  obtain ⟨p, l, w, hpi, hpl, hw1, hlw, -, -⟩ := part_ok hp
  have hxr := hw _ (gt_mem (l := rs) (i := (p : Nat)) (by omega) (by omega))
  have hL : locR m rs reg = ((p : Int), (l : Int), (w : Int)) := by rw [locR, if_pos h, hpi]
  have hE : writeE m rs reg x = if x < 2 ^ w then 0 else 24 := by rw [writeE, if_pos h, hpi]; simp
  rw [hL]
  refine CallNext.pure (p_bits_Ok glob _ _) fun _ => ?_
  rw [okVal_eq ⟨by simp; omega, by simp; omega⟩]
  simp
  refine ⟨fun h2 => by simp [writeL, hE, Int.not_lt.2 h2, words], fun h2 => ?_⟩
  rw [if_pos h2] at hE
  have hne : rs ≠ [] := by intro hh; rw [hh] at hlen; simp only [List.length_nil] at hlen; omega
  have hlen2 : rs.length ≤ 64 := by
    have hk := topsN_len m m.regs.length
    have hl := (inLimits_iff (mcheck_regs (partE_zero hp).1).2).1
    rw [← hlen]; unfold tops; omega
  refine CallNext.obs [] (p_Clone glob rs hne (by omega)) (by simp) (by simp) (by simp) (by simp) fun _ => ?_
  simp
  refine CallNext.pure (p_bits_Mask glob _) fun _ => ?_
  have hpr : p < rs.length := by omega
  simp [hpr, words_at, show p + 1 ≤ rs.length by omega]
  obtain ⟨n, hn⟩ := Int.eq_ofNat_of_zero_le hxr.1
  obtain ⟨X, hX⟩ := Int.eq_ofNat_of_zero_le hx0.1
  have hX2 : X < 2 ^ w := by
    have h3 : ((2 : Int) ^ w) = ((2 ^ w : Nat) : Int) := by push_cast; rfl
    rw [hX] at h2; omega
  have hWL : writeL m rs reg x = rs.set p ((putN n l w X : Nat) : Int) := by
    rw [writeL, if_pos hE, rootV, hpi]; simp [hn, hX]
  rw [hE, hWL, hn, hX, maskI_of ⟨hw1, by omega⟩, wr_ops (by omega) hX2 hlw, words_set, pvs_map]
  exact ⟨_, flat_words _, by simp, words_cells, words_one, rfl, rfl⟩
/-- Write's result as a list that may still be written. -/
def wres (m : Mach) (rs : List Int) (reg x : Int) : DV := if writeE m rs reg x = 0 then .tup [.mrow 1 0 rs.length 1, .pv (.int .i64 0)] else .tup [.pv (.lst 1 []), .pv (.int .i64 (writeE m rs reg x))]
def wheap (m : Mach) (rs : List Int) (reg x : Int) : Heap := if writeE m rs reg x = 0 then [(1, .box ((words (writeL m rs reg x)).map .pv))] else []
theorem p_machine_WriteM (m : Mach) (rs : List Int) (reg x : Int) (ht : mTerms m) : ACall Tryz.prog glob (.func 30) 0 [.pv m.pv, .pv (.lst 1 (words rs)), .pv (.int .i64 reg), .pv (.int .u64 x)] [] (wres m rs reg x) (wheap m rs reg x) 2 := by
  have hno : ∀ e : Int, valE m rs reg = e → e ≠ 0 ∨ (e = 0 ∧ ¬ x < 2 ^ (partI m reg).2.2.toNat) → wres m rs reg x = .tup [.pv (.lst 1 []), .pv (.int .i64 (writeE m rs reg x))] ∧ wheap m rs reg x = [] := fun e he h => by
    have : writeE m rs reg x ≠ 0 := by
      unfold writeE; rw [he]
      rcases h with h | ⟨h, h2⟩
      · rw [if_neg h]; exact h
      · rw [if_pos h, if_neg h2]; omega
    exact ⟨if_neg this, if_neg this⟩
  by_cases h : valE m rs reg = 0
  rotate_left
  · obtain ⟨hr, hh⟩ := hno _ rfl (.inl h)
    rw [hr, hh]
    refine ACall.more (n' := 0) (k_machine_Write_M.acall (by simp) (by simp) (by simp) (by simp) (by simp) (by simp) fun hwf => ?_) (by omega)
    simp [c_machine_Write_M]
    refine CallNext.pure (p_machine_locate m rs reg ht) fun _ => ?_
    simp [h, writeE]
    exact ⟨[], by simp⟩
  obtain ⟨hp, hlen, hfit⟩ := valE_ok h
  obtain ⟨p, l, w, hpi, hpl, hw1, hlw, -, -⟩ := part_ok hp
  have hL : locR m rs reg = ((p : Int), (l : Int), (w : Int)) := by rw [locR, if_pos h, hpi]
  have hE : writeE m rs reg x = if x < 2 ^ w then 0 else 24 := by rw [writeE, if_pos h, hpi]; simp
  by_cases h2 : x < 2 ^ w
  rotate_left
  · obtain ⟨hr, hh⟩ := hno _ h (.inr ⟨rfl, by rw [hpi]; simpa using h2⟩)
    rw [hr, hh]
    refine ACall.more (n' := 0) (k_machine_Write_M.acall (by simp) (by simp) (by simp) (by simp) (by simp) (by simp) fun hwf => ?_) (by omega)
    simp [c_machine_Write_M]
    refine CallNext.pure (p_machine_locate m rs reg ht) fun _ => ?_
    simp [h]
    rw [hL]
    refine CallNext.pure (p_bits_Ok glob _ _) fun _ => ?_
    rw [okVal_eq ⟨by simp; omega, by simp; omega⟩]
    simp [h2, hE]
    exact ⟨[], by simp⟩
  rw [if_pos h2] at hE
  rw [wres, wheap, if_pos hE, if_pos hE]
  refine k_machine_Write_M.acall (by simp) (by simp) (by simp) (by simp) (by simp) (by simp) fun hwf => ?_
  have hw := (words_wf (hwf (.pv (.lst 1 (words rs))) (by simp))).1
  have hx0 := hwf (.pv (.int .u64 x)) (by simp)
  simp [IntKind.min, IntKind.max, IntKind.signed, IntKind.bits] at hx0
  have hxr := hw _ (gt_mem (l := rs) (i := (p : Nat)) (by omega) (by omega))
  have hne : rs ≠ [] := by intro hh; rw [hh] at hlen; simp only [List.length_nil] at hlen; omega
  have hlen2 : rs.length ≤ 64 := by
    have hk := topsN_len m m.regs.length
    have hl := (inLimits_iff (mcheck_regs (partE_zero hp).1).2).1
    rw [← hlen]; unfold tops; omega
  simp [c_machine_Write_M]
  refine CallNext.pure (p_machine_locate m rs reg ht) fun _ => ?_
  simp [h]
  rw [hL]
  refine CallNext.pure (p_bits_Ok glob _ _) fun _ => ?_
  rw [okVal_eq ⟨by simp; omega, by simp; omega⟩]
  simp [h2]
  refine CallNext.obs [] (p_Clone glob rs hne (by omega)) (by simp) (by simp) (by simp) (by simp) fun _ => ?_
  simp
  refine CallNext.pure (p_bits_Mask glob _) fun _ => ?_
  have hpr : p < rs.length := by omega
  simp [hpr, words_at, show p + 1 ≤ rs.length by omega]
  obtain ⟨n, hn⟩ := Int.eq_ofNat_of_zero_le hxr.1
  obtain ⟨X, hX⟩ := Int.eq_ofNat_of_zero_le hx0.1
  have hX2 : X < 2 ^ w := by
    have h3 : ((2 : Int) ^ w) = ((2 ^ w : Nat) : Int) := by push_cast; rfl
    rw [hX] at h2; omega
  have hWL : writeL m rs reg x = rs.set p ((putN n l w X : Nat) : Int) := by
    rw [writeL, if_pos hE, rootV, hpi]; simp [hn, hX]
  rw [hWL, hn, hX, maskI_of ⟨hw1, by omega⟩, wr_ops (by omega) hX2 hlw, words_set]
  exact ⟨[1], by simp⟩
end Go.Proofs.YteiampdhhigjcaaGreatDoorV

/- Plain law: ops of a valid machine. -/
namespace Go.Proofs.YteiampdhhigjcaaGreatDoorV
open Go

def rangedB (o : Opnd) (n : Int) : Bool :=
  decide (n.tmod (2 ^ o.scale.toNat) = 0) &&
  if o.kind = 3 then inR (n.tdiv (2 ^ o.scale.toNat)) 0 (2 ^ (fieldI o).toNat - 1)
  else inR (n.tdiv (2 ^ o.scale.toNat)) (-2 ^ ((fieldI o).toNat - 1)) (2 ^ ((fieldI o).toNat - 1) - 1)
def hasI (l : List Int) (x : Int) : Bool := l.any fun y => decide (x = y)
/-- What is wrong with an argument. -/
def argE (m : Mach) (s : Ins_) (args : List Int) (i : Nat) : Int :=
  let o := gt s.operands (i : Nat); let n := gt args (i : Nat)
  if o.kind = 1 then (if hasI (gt m.banks o.bank).regs n then (if 0 ≤ o.tied ∧ gt args o.tied ≠ n then 40 else 0) else 16) else if rangedB o n then 0 else 24
def firstE (f : Nat → Int) : Nat → Int
  | 0 => 0
  | n + 1 => if firstE f n = 0 then f n else firstE f n
def suitE (m : Mach) (op : MOp) : Int :=
  if inR op.instr 0 (m.instrs.length - 1) then (if op.args.length = (gt m.instrs op.instr).operands.length then firstE (argE m (gt m.instrs op.instr) op.args) (gt m.instrs op.instr).operands.length else 2) else 6
def opE (m : Mach) (op : MOp) : Int := if mcheck m = 0 then suitE m op else mcheck m
def numI (m : Mach) (o : Opnd) (n pc : Int) : Int := (if o.kind = 4 then pc + m.word + m.word * n else n) % 2 ^ m.address.toNat
def varsN (m : Mach) (s : Ins_) (args : List Int) (pcv : Int) : Nat → List Bnd
  | 0 => []
  | i + 1 => varsN m s args pcv i ++ if (gt s.operands (i : Nat)).kind = 1 then [] else [⟨(gt s.operands (i : Nat)).name, m.address, numI m (gt s.operands (i : Nat)) (gt args (i : Nat)) pcv⟩]
def varsE (m : Mach) (op : MOp) (pcv : Int) : Int := if opE m op = 0 then (if pcv < 2 ^ m.address.toNat then 0 else 24) else opE m op
def varsL (m : Mach) (op : MOp) (pcv : Int) : List Bnd := if varsE m op pcv = 0 then varsN m (gt m.instrs op.instr) op.args pcv (gt m.instrs op.instr).operands.length ++ [⟨pc, m.address, pcv⟩] else []

theorem firstE_zero {f : Nat → Int} : ∀ {n : Nat}, (∀ j, j < n → f j = 0) → firstE f n = 0
  | 0, _ => rfl
  | n + 1, h => by rw [firstE, firstE_zero fun j hj => h j (by omega), if_pos rfl]; exact h n (by omega)
theorem firstE_at {f : Nat → Int} {i : Nat} (hz : ∀ j, j < i → f j = 0) (hi : f i ≠ 0) : ∀ {n : Nat}, i < n → firstE f n = f i
  | 0, h => by omega
  | n + 1, h => by
    rcases Nat.lt_or_eq_of_le (Nat.le_of_lt_succ h) with h | rfl
    · rw [firstE, firstE_at hz hi h, if_neg hi]
    · rw [firstE, firstE_zero hz, if_pos rfl]
theorem firstE_all {f : Nat → Int} : ∀ {n : Nat}, firstE f n = 0 → ∀ j, j < n → f j = 0
  | 0, _, j, hj => by omega
  | n + 1, h, j, hj => by
    rw [firstE] at h
    split at h
    · rename_i h1
      rcases Nat.lt_or_eq_of_le (Nat.le_of_lt_succ hj) with hj | rfl
      · exact firstE_all h1 j hj
      · exact h
    · rename_i h1; exact absurd h h1
theorem mcheck_all {m : Mach} (h : mcheck m = 0) : (1 ≤ m.word ∧ m.word ≤ 4) ∧ (m.address = 16 ∨ m.address = 32) ∧ okBanks m = true ∧ ∀ i : Nat, i < m.instrs.length → okInstr m (gt m.instrs (i : Nat)) = true := by
  unfold mcheck at h
  split at h
  · split at h
    · rename_i hb
      simp only [Bool.and_eq_true, Bool.or_eq_true, decide_eq_true_eq] at hb
      obtain ⟨⟨⟨⟨⟨⟨-, h1⟩, h2⟩, -⟩, h3⟩, -⟩, h4⟩ := hb
      refine ⟨by simpa [inR] using h1, h2, h3, fun i hi => ?_⟩
      have := allB_true.1 h4 i hi
      simp only [instrOk, Bool.and_eq_true] at this
      exact this.1.2
    · omega
  · omega
theorem okInstr_ops {m : Mach} {s : Ins_} (h : okInstr m s = true) : ∀ i, i < s.operands.length → okOperand m s i = true := by
  simp only [okInstr, Bool.and_eq_true] at h
  exact allB_true.1 h.1.1.1.1.1.1.1.1.1.2
/-- What a valid operand that names no register has. -/
theorem opnd_num {m : Mach} {s : Ins_} {i : Nat} (h : okOperand m s i = true) (hk : (gt s.operands (i : Nat)).kind ≠ 1) : (0 ≤ (gt s.operands (i : Nat)).scale ∧ (gt s.operands (i : Nat)).scale ≤ 3) ∧ 0 < fieldI (gt s.operands (i : Nat)) ∧ fieldI (gt s.operands (i : Nat)) + (gt s.operands (i : Nat)).scale ≤ m.address := by
  simp only [okOperand, Bool.and_eq_true] at h
  have h1 := h.2
  rw [if_neg hk] at h1
  split at h1
  · simp only [Bool.and_eq_true, decide_eq_true_eq] at h1
    exact ⟨by simpa [inR] using h1.1.1.2, h1.1.2, h1.2⟩
  · simp at h1
/-- What a valid operand that names a register has. -/
theorem opnd_reg {m : Mach} {s : Ins_} {i : Nat} (h : okOperand m s i = true) (hk : (gt s.operands (i : Nat)).kind = 1) : (0 ≤ (gt s.operands (i : Nat)).bank ∧ (gt s.operands (i : Nat)).bank ≤ (m.banks.length : Int) - 1) ∧ (gt s.operands (i : Nat)).tied < i := by
  simp only [okOperand, Bool.and_eq_true] at h
  have h1 := h.2
  rw [if_pos hk] at h1
  simp only [Bool.and_eq_true] at h1
  refine ⟨by simpa [inR] using h1.1.1, ?_⟩
  have h2 := h1.2
  split at h2
  · omega
  · simp only [Bool.and_eq_true] at h2
    have h3 : 0 ≤ (gt s.operands (i : Nat)).tied ∧ (gt s.operands (i : Nat)).tied ≤ (i : Int) - 1 := by simpa [inR] using h2.1.1
    omega
theorem suit_ok {m : Mach} {op : MOp} (h : suitE m op = 0) : inR op.instr 0 (m.instrs.length - 1) = true ∧ op.args.length = (gt m.instrs op.instr).operands.length ∧ ∀ j, j < (gt m.instrs op.instr).operands.length → argE m (gt m.instrs op.instr) op.args j = 0 := by
  unfold suitE at h
  split at h
  · rename_i h1
    split at h
    · rename_i h2
      exact ⟨h1, h2, firstE_all h⟩
    · omega
  · omega
theorem opE_ok {m : Mach} {op : MOp} (h : opE m op = 0) : mcheck m = 0 ∧ suitE m op = 0 := by
  rw [opE] at h
  split at h
  · rename_i h2; exact ⟨h2, h⟩
  · rename_i h2; exact absurd h h2
theorem fstI_has {l : List Int} {x : Int} : hasI l x = l.any fun y => decide (x = y) := rfl
end Go.Proofs.YteiampdhhigjcaaGreatDoorV

/- Contracts: layer 8 of the program: ops. -/
namespace Go.Proofs.YteiampdhhigjcaaGreatDoorV
open Go
set_option maxRecDepth 100000
set_option maxHeartbeats 4000000

theorem shl1 {n : Nat} (h : n < 63) : shlI .i64 1 (n : Int) = 2 ^ n := shl_one n h
theorem shlm : ∀ n : Nat, n < 63 → shlI .i64 (-1) (n : Int) = -2 ^ n := by decide
theorem pow_le (n : Nat) (h : n ≤ 32) : (2 : Int) ^ n ≤ 4294967296 ∧ (1 : Int) ≤ 2 ^ n := by
  have h1 : 2 ^ n ≤ 2 ^ 32 := Nat.pow_le_pow_right (by omega) h
  have h2 := Nat.two_pow_pos n
  have h3 : ((2 : Int) ^ n) = ((2 ^ n : Nat) : Int) := by push_cast; rfl
  omega
theorem tdiv_bd (n : Int) {d : Int} (hd : 1 ≤ d) : (0 ≤ n → 0 ≤ n.tdiv d ∧ n.tdiv d ≤ n) ∧ (n ≤ 0 → n ≤ n.tdiv d ∧ n.tdiv d ≤ 0) := by
  have key : ∀ x : Int, 0 ≤ x → 0 ≤ x.tdiv d ∧ x.tdiv d ≤ x := fun x hx => by
    rw [Int.tdiv_eq_ediv_of_nonneg hx]
    exact ⟨Int.ediv_nonneg hx (by omega), Int.ediv_le_self _ hx⟩
  refine ⟨key n, fun hn => ?_⟩
  have := key (-n) (by omega)
  rw [Int.neg_tdiv] at this
  omega
theorem p_machine_ranged (gl : Glob) (o : Opnd) (n : Int) (hs : 0 ≤ o.scale ∧ o.scale ≤ 3) (hf : 0 < fieldI o ∧ fieldI o ≤ 32) : PCall Tryz.prog gl 99 [.pv o.pv, .pv (.int .i64 n)] (.pv (.bool (rangedB o n))) := by
  refine k_machine_ranged.pcall (by simp) (by simp) (by simp) fun hwf => ?_
  have hn := hwf (.pv (.int .i64 n)) (by simp)
  simp [IntKind.min, IntKind.max, IntKind.signed, IntKind.bits] at hn
  obtain ⟨k, hk⟩ := Int.eq_ofNat_of_zero_le hs.1
  obtain ⟨w, hw⟩ : ∃ w : Nat, fieldI o = ((w + 1 : Nat) : Int) := ⟨(fieldI o).toNat - 1, by omega⟩
  have h1 : shlI .i64 1 o.scale = 2 ^ k := by rw [hk]; exact shl1 (by omega)
  have h2 := pow_le k (by omega)
  have hr : rangedB o n = (decide (n.tmod (2 ^ k) = 0) && if o.kind = 3 then inR (n.tdiv (2 ^ k)) 0 (2 ^ (w + 1) - 1) else inR (n.tdiv (2 ^ k)) (-2 ^ w) (2 ^ w - 1)) := by
    rw [rangedB, hk, hw]; simp
  rw [hr]
  have hq := tdiv_bd n (d := 2 ^ k) h2.2
  have hqw : IntKind.i64.wrap (n.tdiv (2 ^ k)) = n.tdiv (2 ^ k) := by
    by_cases h0 : 0 ≤ n
    · have := hq.1 h0; exact wrap_i64 (by omega) (by omega)
    · have := hq.2 (by omega); exact wrap_i64 (by omega) (by omega)
  simp [c_machine_ranged, h1]
  refine ⟨hs.1, by omega, fun h h' => absurd h' h, fun h => ⟨by omega, ?_⟩⟩
  rw [hqw]
  refine CallNext.pure (p_machine_field gl o) fun _ => ?_
  rw [hw]
  have p1 := pow_le (w + 1) (by omega)
  have p2 := pow_le w (by omega)
  simp
  refine ⟨fun h3 => ⟨by omega, ?_⟩, fun h3 => ?_⟩
  · have e1 : shlI .i64 1 ((w : Int) + 1) = 2 ^ (w + 1) := by have := shl1 (n := w + 1) (by omega); push_cast at this; exact this
    rw [e1, wrap_i64 (by omega) (by omega)]
    refine CallNext.pure (p_machine_within gl _ _ _) fun _ => ?_
    simp [h, h3]
  · rw [show IntKind.i64.wrap (w : Int) = w from wrap_i64 (by omega) (by omega), shl1 (by omega), shlm w (by omega), wrap_i64 (n := 2 ^ w - 1) (by omega) (by omega)]
    refine ⟨by omega, ?_⟩
    refine DCallNext.pure (p_machine_within gl _ _ _) ?_
    simp [h, h3]
theorem p_machine_CheckOp (m : Mach) (op : MOp) (ht : mTerms m) : PCall Tryz.prog glob 36 [.pv m.pv, .pv op.pv] (.pv (.int .i64 (opE m op))) := by
  refine k_machine_CheckOp.pcall (by simp) (by simp) (by simp) fun hwf => ?_
  have hm : m.pv.wf := by have := hwf (.pv m.pv) (by simp); simpa only [DV.wf] using this
  simp [c_machine_CheckOp]
  refine CallNext.pure (p_mCheck hm ht) fun _ => ?_
  simp
  refine ⟨fun h => by simp [opE, h], fun h => ?_⟩
  have hlim := inLimits_iff (mcheck_regs h).2
  obtain ⟨hwd, had, hbk, hins⟩ := mcheck_all h
  refine CallNext.pure (p_machine_within glob _ _ _) fun _ => ?_
  simp
  rw [wrap_i64 (by omega) (by omega)]
  refine ⟨fun hi => by simp [opE, h, suitE, hi], fun hi => ?_⟩
  have hi' : 0 ≤ op.instr ∧ op.instr ≤ (m.instrs.length : Int) - 1 := by simpa [inR] using hi
  have hne : m.instrs ≠ [] := by intro h; simp [h] at hi'; omega
  simp [hne, Mach.bx, show 0 ≤ op.instr by omega, show op.instr < (m.instrs.length : Int) by omega]
  generalize hsd : gt m.instrs op.instr = s at *
  have hsu : suitE m op = if op.args.length = s.operands.length then firstE (argE m s op.args) s.operands.length else 2 := by rw [suitE, if_pos hi, hsd]
  have hsm : s ∈ m.instrs := by rw [← hsd]; exact gt_mem hi'.1 (by omega)
  have hos : ∀ i, i < s.operands.length → okOperand m s i = true := by
    have := hins op.instr.toNat (by omega)
    rw [Int.toNat_of_nonneg hi'.1, hsd] at this
    exact okInstr_ops this
  refine ⟨fun hn => ?_, fun hn => ?_⟩
  · rw [opE, if_pos h, hsu, if_neg (by omega)]
  have hal : op.args.length = s.operands.length := by omega
  have hop : opE m op = firstE (argE m s op.args) s.operands.length := by rw [opE, if_pos h, hsu, if_pos hal]
  have hsl := (hlim.2.2.2.2.2 s hsm).1
  refine Loop.nat (fun i => { e := [(2, .ptr 0 0), (3, .ptr 1 0), (37, .pv (.lst 6 (s.operands.map Opnd.pv))), (38, .pv (.int .i64 s.operands.length)), (39, .pv (.int .i64 i))], h := [(0, m.bx), (1, op.bx), (2, s.bx)], nx := 3 }) s.operands.length (fun i => ∀ j, j < i → argE m s op.args j = 0) (by simp [Mach.bx, MOp.bx, Ins_.bx]) (by intro j hj; exact absurd hj (by omega)) (by simp [Mach.bx, MOp.bx, Ins_.bx]) fun i hi2 hinv => ?_
  by_cases hlt : i < s.operands.length
  · have hai : i < op.args.length := by omega
    have hok := hos i hlt
    have hnum := opnd_num hok
    have hreg := opnd_reg hok
    have hout : argE m s op.args i ≠ 0 → opE m op = argE m s op.args i := fun hne => by rw [hop, firstE_at hinv hne hlt]
    have hgo : argE m s op.args i = 0 → ∀ j, j < i + 1 → argE m s op.args j = 0 := fun h0 j hj => by
      rcases Nat.lt_or_eq_of_le (Nat.le_of_lt_succ hj) with hj | rfl
      · exact hinv j hj
      · exact h0
    simp [hlt, hai, Mach.bx, MOp.bx, Ins_.bx]
    generalize hoo : gt s.operands (i : Nat) = o at *
    refine ⟨fun hk => ?_, fun hk => ?_⟩
    · have hae : argE m s op.args i = if rangedB o (gt op.args (i : Nat)) = true then 0 else 24 := by simp only [argE, hoo, hk, if_false]
      have hq := hnum hk
      refine CallNext.pure (p_machine_ranged glob o _ hq.1 (by omega)) fun _ => ?_
      simp [hlt, wrap_nat (show (0:Int) ≤ i + 1 by omega) (by omega)]
      refine ⟨fun hr => ?_, fun hr => ?_⟩
      · rw [if_neg (by simp [hr])] at hae
        rw [hout (by omega), hae]
      · rw [if_pos hr] at hae
        exact hgo hae
    · obtain ⟨hb, htd⟩ := hreg hk
      have hbne : m.banks ≠ [] := by intro hh; simp [hh] at hb; omega
      have hae : argE m s op.args i = if hasI (gt m.banks o.bank).regs (gt op.args (i : Nat)) = true then (if 0 ≤ o.tied ∧ gt op.args o.tied ≠ gt op.args (i : Nat) then 40 else 0) else 16 := by simp only [argE, hoo, hk, if_true]
      simp [hbne, show 0 ≤ o.bank by omega, show o.bank < (m.banks.length : Int) by omega]
      refine CallNext.pure (p_slices_Contains_int_int glob _ _) fun _ => ?_
      rw [← fstI_has]
      have hane : op.args ≠ [] := by intro hh; simp [hh] at hai
      simp [hane, hlt, wrap_nat (show (0:Int) ≤ i + 1 by omega) (by omega)]
      refine ⟨fun hh => ?_, fun hh => ⟨fun _ => by omega, fun h1 h2 => ?_, fun h1 => hgo ?_⟩⟩
      · rw [if_neg (by simp [hh])] at hae
        rw [hout (by omega), hae]
      · rw [if_pos hh, if_pos ⟨h1, h2⟩] at hae
        rw [hout (by omega), hae]
      · rw [hae, if_pos hh, if_neg (fun hx => hx.2 (h1 hx.1))]
  · obtain rfl : i = s.operands.length := by omega
    simp
    rw [hop, firstE_zero hinv]
theorem wrapU (x : Int) : IntKind.u64.wrap x = x % 18446744073709551616 := by
  simp [IntKind.wrap, IntKind.signed, IntKind.bits]
theorem band_mod (y : Int) {A : Nat} (hA : A ≤ 64) (h0 : 0 ≤ y) (h1 : y < 18446744073709551616) : bandI .u64 y ((2 ^ A - 1 : Nat) : Int) = y % 2 ^ A := by
  obtain ⟨n, rfl⟩ := Int.eq_ofNat_of_zero_le h0
  have h2 : 2 ^ A ≤ 2 ^ 64 := Nat.pow_le_pow_right (by omega) hA
  have h3 := Nat.two_pow_pos A
  rw [and_u64 (by omega) (by omega), Nat.and_two_pow_sub_one_eq_mod]; push_cast; rfl
theorem num_val {A : Nat} (hA : A = 16 ∨ A = 32) (x : Int) : bandI .u64 (IntKind.u64.wrap x) ((2 ^ A - 1 : Nat) : Int) = x % 2 ^ A := by
  rw [wrapU, band_mod _ (by omega) (by omega) (by omega)]
  rcases hA with rfl | rfl <;> omega
theorem jump_val {A : Nat} (hA : A = 16 ∨ A = 32) {w : Int} (hw : 1 ≤ w ∧ w ≤ 4) (p n : Int) : bandI .u64 (IntKind.u64.wrap (p + IntKind.u64.wrap (IntKind.u64.wrap w * IntKind.u64.wrap (IntKind.u64.wrap n + 1)))) ((2 ^ A - 1 : Nat) : Int) = (p + w + w * n) % 2 ^ A := by
  rw [num_val hA]
  have h : w = 1 ∨ w = 2 ∨ w = 3 ∨ w = 4 := by omega
  simp only [wrapU]
  rcases h with rfl | rfl | rfl | rfl <;> rcases hA with rfl | rfl <;> omega
theorem p_machine_Vars (m : Mach) (op : MOp) (pcv : Int) (ht : mTerms m) : PCall Tryz.prog glob 34 [.pv m.pv, .pv op.pv, .pv (.int .u64 pcv)] (.tup [.pv (.lst 3 ((varsL m op pcv).map Bnd.pv)), .pv (.int .i64 (varsE m op pcv))]) := by
  refine k_machine_Vars.pcall (by simp) (by simp) (by simp) fun hwf => ?_
  have hm : m.pv.wf := by have := hwf (.pv m.pv) (by simp); simpa only [DV.wf] using this
  have hp0 := hwf (.pv (.int .u64 pcv)) (by simp)
  simp [IntKind.min, IntKind.max, IntKind.signed, IntKind.bits] at hp0
  simp [c_machine_Vars]
  refine CallNext.pure (p_machine_CheckOp m op ht) fun _ => ?_
  simp
  refine ⟨fun h => by simp [varsL, varsE, h], fun h => ?_⟩
  obtain ⟨hc, hsuit⟩ := opE_ok h
  obtain ⟨hi, hal, harg⟩ := suit_ok hsuit
  have hlim := inLimits_iff (mcheck_regs hc).2
  obtain ⟨hwd, had, hbk, hins⟩ := mcheck_all hc
  obtain ⟨A, hA⟩ : ∃ A : Nat, m.address = A := ⟨m.address.toNat, by omega⟩
  refine CallNext.pure (p_bits_Mask glob _) fun _ => ?_
  rw [hA, maskI_of ⟨by omega, by omega⟩]
  have hpow : ((2 : Int) ^ A) = ((2 ^ A : Nat) : Int) := by push_cast; rfl
  have hp1 := Nat.two_pow_pos A
  have hVE : varsE m op pcv = if pcv < ((2 ^ A : Nat) : Int) then 0 else 24 := by rw [varsE, if_pos h, hA, Int.toNat_natCast, hpow]
  have hi' : 0 ≤ op.instr ∧ op.instr ≤ (m.instrs.length : Int) - 1 := by simpa [inR] using hi
  have hne : m.instrs ≠ [] := by intro h; simp [h] at hi'; omega
  simp [hne, show 0 ≤ op.instr by omega, show op.instr < (m.instrs.length : Int) by omega]
  refine ⟨fun hg => ?_, fun hg => ?_⟩
  · rw [if_neg (by omega)] at hVE
    rw [varsL, hVE]; simp
  rw [if_pos (by omega)] at hVE
  have hVL : varsL m op pcv = varsN m (gt m.instrs op.instr) op.args pcv (gt m.instrs op.instr).operands.length ++ [⟨pc, m.address, pcv⟩] := if_pos hVE
  have hsm : gt m.instrs op.instr ∈ m.instrs := gt_mem hi'.1 (by omega)
  rw [hVE, hVL]
  generalize hsd : gt m.instrs op.instr = s at *
  have hsl := (hlim.2.2.2.2.2 s hsm).1
  have hvn : ∀ i, (varsN m s op.args pcv i).length ≤ i := by
    intro i
    induction i with
    | zero => simp [varsN]
    | succ i ih => rw [varsN, List.length_append]; split <;> simp <;> omega
  refine Loop.nat (fun i => { e := [(2, .pv (.int .u64 pcv)), (3, .ptr 0 0), (4, .ptr 1 0), (9, .pv (.int .u64 ((2 ^ A - 1 : Nat) : Int))), (10, .own 2 3 ((varsN m s op.args pcv i).map Bnd.pv)), (32, .pv (.lst 6 (s.operands.map Opnd.pv))), (33, .pv (.int .i64 s.operands.length)), (34, .pv (.int .i64 i))], h := [(0, m.bx), (1, op.bx), (2, .tip 3 (varsN m s op.args pcv i).length)], nx := 3 }) s.operands.length (fun _ => True) (by simp [Mach.bx, MOp.bx]) (by simp) (by simp [Mach.bx, MOp.bx, varsN, hA]) fun i hi2 hinv => ?_
  have hvl := hvn i
  by_cases hlt : i < s.operands.length
  · have hai : i < op.args.length := by omega
    simp [hlt, hai, Mach.bx, MOp.bx]
    have hAA : A = 16 ∨ A = 32 := by omega
    generalize hoo : gt s.operands (i : Nat) = o at *
    refine ⟨fun hk => ?_, fun hk => ?_⟩
    · have e : varsN m s op.args pcv (i + 1) = varsN m s op.args pcv i := by rw [varsN, hoo, if_pos hk]; simp
      rw [e]; exact ⟨⟨rfl, wrap_nat (by omega) (by omega)⟩, rfl⟩
    · have e : varsN m s op.args pcv (i + 1) = varsN m s op.args pcv i ++ [⟨o.name, m.address, numI m o (gt op.args (i : Nat)) pcv⟩] := by rw [varsN, hoo, if_neg hk]
      rw [e]
      refine ⟨fun h4 => ?_, fun h4 => ?_⟩
      · rw [jump_val hAA hwd, numI, if_pos h4, hA, Int.toNat_natCast]
        refine ⟨by omega, ⟨by simp [Bnd.pv], wrap_nat (by omega) (by omega)⟩, by simp⟩
      · rw [num_val hAA, numI, if_neg h4, hA, Int.toNat_natCast]
        refine ⟨by omega, ⟨by simp [Bnd.pv], wrap_nat (by omega) (by omega)⟩, by simp⟩
  · obtain rfl : i = s.operands.length := by omega
    simp [Mach.bx, MOp.bx, Bnd.pv]
    exact ⟨by omega, rfl⟩
end Go.Proofs.YteiampdhhigjcaaGreatDoorV

/- The chapter's examples hold. -/
namespace Go.Proofs.YteiampdhhigjcaaGreatDoorV
open Go
set_option maxRecDepth 100000
set_option maxHeartbeats 4000000
def mTermsB (m : Mach) : Bool := m.instrs.all fun s => s.effects.all fun x => [x.addr, x.value, x.cond].all fun t => decide (t.nodes < 2 ^ 40) && decide (t.depth < 2 ^ 40)
theorem mTerms_of {m : Mach} (h : mTermsB m = true) : mTerms m := by
  intro s hs x hx t ht
  simp only [mTermsB, List.all_eq_true, Bool.and_eq_true, decide_eq_true_eq] at h
  exact h s hs x hx t ht
theorem terms0 : mTerms given0 := mTerms_of (by kernel_rfl)
theorem terms1 : mTerms given1 := mTerms_of (by kernel_rfl)

/-! ### reads, fits -/
theorem p_reads (rs : List Int) (reg want : Int) : PCall Tryz.prog glob 101 [.pv (.lst 1 (words rs)), .pv (.int .i64 reg), .pv (.int .u64 want)] (.pv (.bool (decide (valE given1 rs reg = 0) && decide (readI given1 rs reg = want)))) := by
  refine k_retargetlaw08_reads.pcall (by simp) (by simp) (by simp) fun hwf => ?_
  simp [c_retargetlaw08_reads]
  refine CallNext.data (p_Given1 glob) ?_
  simp
  refine CallNext.data (p_machine_Read given1 rs reg terms1) ?_
  simp
theorem p_fits1 (n : ByteArray) (l : List Int) : PCall Tryz.prog glob 35 [.pv (.int .i64 1), .pv (.str n), .pv (.lst 1 (ints l))] (.pv (.int .i64 (if fndE given1 given1.instrs (fun x : Ins_ => decide (x.name = n)) = 0 then opE given1 ⟨fndI given1 given1.instrs (fun x : Ins_ => decide (x.name = n)), l⟩ else fndE given1 given1.instrs (fun x : Ins_ => decide (x.name = n))))) := by
  refine k_retargetlaw08_fits.pcall (by simp) (by simp) (by simp) fun hwf => ?_
  simp [c_retargetlaw08_fits]
  refine CallNext.data (p_Given1 glob) ?_
  simp
  refine CallNext.data (p_machine_Instruction given1 n terms1) ?_
  simp
  refine ⟨fun h1 h2 => absurd h2 h1, fun hE => ?_⟩
  refine CallNext.data (p_Given1 glob) ?_
  simp
  refine CallNext.data (p_machine_CheckOp given1 ⟨fndI given1 given1.instrs fun x : Ins_ => decide (x.name = n), l⟩ terms1) ?_
  simp [hE]

/-! ### alive -/
def v11 : List Int := [4660, 0, 0, 0, 0, 0, 0, 0, 0, 0, 0]
theorem e_al : (fndI given1 given1.regs fun x : Reg => decide (x.name = ⟨#[97, 108]⟩)) = 8 := by kernel_rfl
theorem e_al' : (fndE given1 given1.regs fun x : Reg => decide (x.name = ⟨#[97, 108]⟩)) = 0 := by kernel_rfl
theorem e_ah : (fndI given1 given1.regs fun x : Reg => decide (x.name = ⟨#[97, 104]⟩)) = 12 := by kernel_rfl
theorem e_ah' : (fndE given1 given1.regs fun x : Reg => decide (x.name = ⟨#[97, 104]⟩)) = 0 := by kernel_rfl
theorem e_chk1 : mcheck given1 = 0 := by kernel_rfl
theorem e_roots1 : (rootsL given1).length = 11 := by kernel_rfl
theorem e_w1 : writeE given1 v11 8 255 = 0 := by kernel_rfl
theorem e_o1 : overE given1 8 0 = 0 := by kernel_rfl
theorem e_o1' : overR given1 8 0 = true := by kernel_rfl
theorem e_o2 : overE given1 8 12 = 0 := by kernel_rfl
theorem e_o2' : overR given1 8 12 = false := by kernel_rfl
theorem e_jump : (fndI given0 given0.instrs fun x : Ins_ => decide (x.name = ⟨#[106, 117, 109, 112]⟩)) = 32 := by kernel_rfl
theorem e_jump' : (fndE given0 given0.instrs fun x : Ins_ => decide (x.name = ⟨#[106, 117, 109, 112]⟩)) = 0 := by kernel_rfl
theorem e_vars : varsL given0 ⟨32, [-2]⟩ 100 = [⟨⟨#[116, 111]⟩, 32, 96⟩, ⟨⟨#[112, 99]⟩, 32, 100⟩] := by kernel_rfl
theorem e_vars' : varsE given0 ⟨32, [-2]⟩ 100 = 0 := by kernel_rfl
theorem e_r1 : valE given1 v11 12 = 0 := by kernel_rfl
theorem e_r1' : readI given1 v11 12 = 18 := by kernel_rfl
theorem e_r2 : valE given1 (writeL given1 v11 8 255) 0 = 0 := by kernel_rfl
theorem e_r2' : readI given1 (writeL given1 v11 8 255) 0 = 4863 := by kernel_rfl
theorem e_movi : (fndI given1 given1.instrs fun x : Ins_ => decide (x.name = ⟨#[109, 111, 118, 105]⟩)) = 1 := by kernel_rfl
theorem e_movi' : (fndE given1 given1.instrs fun x : Ins_ => decide (x.name = ⟨#[109, 111, 118, 105]⟩)) = 0 := by kernel_rfl
theorem e_op1 : opE given1 ⟨1, [2, -64]⟩ = 0 := by kernel_rfl
theorem e_op2 : opE given1 ⟨1, [2, -65]⟩ = 24 := by kernel_rfl
end Go.Proofs.YteiampdhhigjcaaGreatDoorV

/- The examples of the law's package. -/
namespace Go.Proofs.YteiampdhhigjcaaGreatDoorV
open Go
set_option maxRecDepth 100000
set_option maxHeartbeats 4000000
theorem ceqs_three (s : ByteArray) (a b : Int) : ceqs [2, 1, 1] [PV.str s, PV.int IntKind.i64 a, PV.int IntKind.u64 b] [PV.str s, PV.int IntKind.i64 a, PV.int IntKind.u64 b] = some true := by
  simp [ceqs, PV.kd, ceq1]
theorem p_alive : PCall Tryz.prog glob 37 [] (.pv (.bool true)) := by
  refine k_retargetlaw08_alive.pcall (by simp) (by simp) (by simp) fun hwf => ?_
  simp [c_retargetlaw08_alive]
  refine CallNext.data (p_Given1 glob) ?_
  simp
  refine CallNext.data (p_machine_Register given1 _ terms1) ?_
  simp [e_al, e_al']
  refine CallNext.data (p_machine_Register given1 _ terms1) ?_
  simp [e_ah, e_ah']
  refine CallNext.data (p_machine_Roots given1 terms1) ?_
  simp [e_chk1]
  refine ⟨words v11, by rw [flat_words]; rfl, rfl, words_cells, ?_⟩
  refine CallNext.data (p_machine_Write given1 v11 8 255 terms1) ?_
  simp [e_w1]
  refine CallNext.data (p_machine_Overlap given1 8 0 terms1) ?_
  simp [e_o1, e_o1']
  refine CallNext.data (p_machine_Overlap given1 8 12 terms1) ?_
  simp [e_o2, e_o2']
  refine CallNext.data (p_Given0 glob) ?_
  simp
  refine CallNext.data (p_machine_Instruction given0 _ terms0) ?_
  simp [e_jump, e_jump']
  refine CallNext.data (p_Given0 glob) ?_
  simp
  refine CallNext.data (p_machine_Vars given0 ⟨32, [-2]⟩ 100 terms0) ?_
  simp [e_vars, e_vars', e_roots1, nth, ceqs_three]
  refine CallNext.data (p_reads v11 12 18) ?_
  simp [e_r1, e_r1']
  refine ⟨_, .of (p_reads (writeL given1 v11 8 255) 0 4863), by simp, ?_⟩
  simp [e_r2, e_r2']
  refine ⟨_, .of (p_fits1 ⟨#[109, 111, 118, 105]⟩ [2, -64]), by simp, ?_⟩
  simp [e_movi, e_movi', e_op1]
  refine ⟨_, .of (p_fits1 ⟨#[109, 111, 118, 105]⟩ [2, -65]), by simp, ?_⟩
  simp [e_movi, e_movi', e_op2]
end Go.Proofs.YteiampdhhigjcaaGreatDoorV

/- Plain laws: what is written is read, and the rest stays. -/
namespace Go.Proofs.YteiampdhhigjcaaGreatDoorV
open Go

/-! ### Words with fields -/
def wrF (rs : List Int) (p l w : Nat) (x : Int) : List Int := rs.set p ((putN (gt rs (p : Nat)).toNat l w x.toNat : Nat) : Int)
def rdF (rs : List Int) (p l w : Nat) : Nat := fldN (gt rs (p : Nat)).toNat l w
@[simp] theorem wrF_len {rs : List Int} {p l w : Nat} {x : Int} : (wrF rs p l w x).length = rs.length := by simp [wrF]
theorem gt_wrF {rs : List Int} {p q l w : Nat} {x : Int} (hq : q < rs.length) : gt (wrF rs p l w x) (q : Nat) = if p = q then ((putN (gt rs (p : Nat)).toNat l w x.toNat : Nat) : Int) else gt rs (q : Nat) := by
  rw [gt_nat (by simpa using hq), gt_nat hq]
  simp only [wrF, List.getElem_set]
theorem fld_put_same (o l w x : Nat) : fldN (putN o l w x) l w = x % 2 ^ w := by
  apply Nat.eq_of_testBit_eq
  intro i
  rw [fldN_bit, putN_bit, Nat.testBit_mod_two_pow]
  by_cases h : i < w
  · simp [h]
  · simp [h]
theorem fld_put_other {o l w x l' w' : Nat} (h : l + w ≤ l' ∨ l' + w' ≤ l) : fldN (putN o l w x) l' w' = fldN o l' w' := by
  apply Nat.eq_of_testBit_eq
  intro i
  rw [fldN_bit, fldN_bit, putN_bit]
  by_cases hi : i < w'
  · rw [if_neg (by omega)]
  · simp [hi]
theorem put_fld (o l w : Nat) : putN o l w (fldN o l w) = o := by
  apply Nat.eq_of_testBit_eq
  intro i
  rw [putN_bit]
  split
  · rename_i h; rw [fldN_bit, decide_eq_true (by omega), Bool.true_and]; congr 1; omega
  · rfl
theorem put_put (o l w x y : Nat) : putN (putN o l w x) l w y = putN o l w y := by
  apply Nat.eq_of_testBit_eq
  intro i
  rw [putN_bit, putN_bit, putN_bit]
  split <;> rfl
theorem put_comm {o l w x l' w' y : Nat} (h : l + w ≤ l' ∨ l' + w' ≤ l) : putN (putN o l w x) l' w' y = putN (putN o l' w' y) l w x := by
  apply Nat.eq_of_testBit_eq
  intro i
  rw [putN_bit, putN_bit, putN_bit, putN_bit]
  by_cases h1 : l ≤ i ∧ i < l + w
  · rw [if_neg (by omega), if_pos h1, if_pos h1]
  · rw [if_neg h1, if_neg h1]
theorem rd_wr_same {rs : List Int} {p l w : Nat} {x : Int} (hp : p < rs.length) : rdF (wrF rs p l w x) p l w = x.toNat % 2 ^ w := by
  rw [rdF, gt_wrF hp, if_pos rfl, Int.toNat_natCast, fld_put_same]
theorem rd_wr_other {rs : List Int} {p l w q l' w' : Nat} {x : Int} (hq : q < rs.length) (h : p ≠ q ∨ l + w ≤ l' ∨ l' + w' ≤ l) : rdF (wrF rs p l w x) q l' w' = rdF rs q l' w' := by
  rw [rdF, gt_wrF hq, rdF]
  split
  · rename_i he; subst he
    rw [Int.toNat_natCast, fld_put_other (by omega)]
  · rfl
theorem list_ext_gt {a b : List Int} (hl : a.length = b.length) (h : ∀ q : Nat, q < a.length → gt a (q : Nat) = gt b (q : Nat)) : a = b := by
  apply List.ext_getElem hl
  intro i h1 h2
  have := h i h1
  rwa [gt_nat h1, gt_nat h2] at this
theorem wr_rd {rs : List Int} {p l w : Nat} (hp : p < rs.length) (h0 : 0 ≤ gt rs (p : Nat)) : wrF rs p l w (rdF rs p l w) = rs := by
  refine list_ext_gt (by simp) fun q hq => ?_
  have hq' : q < rs.length := by simpa using hq
  rw [gt_wrF hq']
  split
  · rename_i he; subst he
    rw [Int.toNat_natCast, rdF, put_fld, Int.toNat_of_nonneg h0]
  · rfl
theorem wr_wr {rs : List Int} {p l w : Nat} {x y : Int} (hp : p < rs.length) : wrF (wrF rs p l w x) p l w y = wrF rs p l w y := by
  refine list_ext_gt (by simp) fun q hq => ?_
  have hq' : q < rs.length := by simpa using hq
  rw [gt_wrF (by simpa using hq'), gt_wrF hq', gt_wrF hp, if_pos rfl, gt_wrF hq', Int.toNat_natCast, put_put]
  split <;> simp_all
theorem wr_comm {rs : List Int} {p l w q l' w' : Nat} {x y : Int} (hp : p < rs.length) (hq : q < rs.length) (h : p ≠ q ∨ l + w ≤ l' ∨ l' + w' ≤ l) : wrF (wrF rs p l w x) q l' w' y = wrF (wrF rs q l' w' y) p l w x := by
  refine list_ext_gt (by simp) fun k hk => ?_
  have hk' : k < rs.length := by simpa using hk
  rw [gt_wrF (by simpa using hk'), gt_wrF hk', gt_wrF hq, gt_wrF (by simpa using hk'), gt_wrF hk', gt_wrF hp]
  by_cases h1 : p = k
  · by_cases h2 : q = k
    · subst h1; subst h2
      simp only [if_true, Int.toNat_natCast]
      rw [put_comm (by omega)]
    · subst h1; rw [if_neg h2, if_pos rfl, if_pos rfl, if_neg h2]
  · by_cases h2 : q = k
    · subst h2; rw [if_pos rfl, if_neg h1, if_neg h1, if_pos rfl]
    · rw [if_neg h2, if_neg h1, if_neg h1, if_neg h2]

/-! ### Registers -/
theorem part_fit {m : Mach} {reg : Int} (h : partE m reg = 0) : ∃ p l w : Nat, partI m reg = ((p : Int), (l : Int), (w : Int)) ∧ p < (tops m).length ∧ 1 ≤ w ∧ l + w ≤ 64 ∧ l + w ≤ (gt m.regs (gt (tops m) (p : Nat))).width.toNat := by
  obtain ⟨p, l, w, h1, h2, h3, h4, h5, h6⟩ := part_ok h
  refine ⟨p, l, w, h1, h2, h3, h4, ?_⟩
  obtain ⟨hc, hi⟩ := partE_zero h
  obtain ⟨hr, -⟩ := mcheck_regs hc
  have hp : p = place (tops m) (topOf m reg) := by
    have := congrArg (·.1) h1
    simp only [partI, hi, if_true] at this
    omega
  rw [hp, (place_gt (topOf_mem hr hi)).2]
  have e1 : 0 ≤ reg ∧ reg ≤ (m.regs.length : Int) - 1 := by simpa [inR] using hi
  simp only [okRegs, Bool.and_eq_true] at hr
  have e2 := allB_true.1 hr.1 reg.toNat (by omega)
  simp only [rgOk, Bool.and_eq_true] at e2
  rw [Int.toNat_of_nonneg e1.1] at e2
  have e3 := e2.2
  unfold topOf
  split at e3
  · rename_i ho
    rw [if_pos ho]
    simp only [decide_eq_true_eq] at e3
    omega
  · rename_i ho
    rw [if_neg ho]
    simp only [Bool.and_eq_true, decide_eq_true_eq] at e3
    have e5 : 1 ≤ (gt m.regs (gt m.regs reg).of).width ∧ (gt m.regs (gt m.regs reg).of).width ≤ 64 := by simpa [inR] using e3.2.1.1.2
    have e6 : 0 ≤ (gt m.regs reg).low ∧ (gt m.regs reg).low ≤ (gt m.regs (gt m.regs reg).of).width - (gt m.regs reg).width := by simpa [inR] using e3.2.2
    omega
theorem fits_gt {m : Mach} {rs : List Int} (h : fitsR m rs = true) : (tops m).length = rs.length ∧ ∀ i, i < rs.length → gt rs (i : Nat) < 2 ^ (gt m.regs (gt (tops m) (i : Nat))).width.toNat := by
  simp only [fitsR, Bool.and_eq_true, decide_eq_true_eq, allB_true] at h
  exact h
theorem fits_wr {m : Mach} {rs : List Int} {p l w : Nat} {x : Int} (h : fitsR m rs = true) (hnn : ∀ y ∈ rs, 0 ≤ y) (hp : p < rs.length) (hk : l + w ≤ (gt m.regs (gt (tops m) (p : Nat))).width.toNat) : fitsR m (wrF rs p l w x) = true := by
  obtain ⟨h1, h2⟩ := fits_gt h
  simp only [fitsR, Bool.and_eq_true, decide_eq_true_eq, allB_true, wrF_len]
  refine ⟨h1, fun i hi => ?_⟩
  rw [gt_wrF hi]
  split
  · rename_i he; subst he
    have h0 : 0 ≤ gt rs (p : Nat) := hnn _ (gt_mem (by omega) (by omega))
    have := h2 p hp
    have h3 : (gt rs (p : Nat)).toNat < 2 ^ (gt m.regs (gt (tops m) (p : Nat))).width.toNat := by
      have : ((gt rs (p : Nat)).toNat : Int) < ((2 ^ (gt m.regs (gt (tops m) (p : Nat))).width.toNat : Nat) : Int) := by rw [Int.toNat_of_nonneg h0]; push_cast; exact this
      exact_mod_cast this
    exact_mod_cast putN_lt (x := x.toNat) h3 hk
  · exact h2 i hi
theorem wr_nonneg {rs : List Int} {p l w : Nat} {x : Int} (hnn : ∀ y ∈ rs, 0 ≤ y) : ∀ y ∈ wrF rs p l w x, 0 ≤ y := by
  intro y hy
  rcases List.mem_or_eq_of_mem_set hy with h | rfl
  · exact hnn y h
  · omega
/-- A register whose values can be asked for. -/
theorem val_parts {m : Mach} {rs : List Int} {reg : Int} (h : valE m rs reg = 0) : ∃ p l w : Nat, partI m reg = ((p : Int), (l : Int), (w : Int)) ∧ p < rs.length ∧ 1 ≤ w ∧ l + w ≤ 64 ∧ l + w ≤ (gt m.regs (gt (tops m) (p : Nat))).width.toNat ∧ readI m rs reg = (rdF rs p l w : Nat) ∧
    ∀ x, writeE m rs reg x = (if x < 2 ^ w then 0 else 24) ∧ writeL m rs reg x = if x < 2 ^ w then wrF rs p l w x else [] := by
  obtain ⟨hp, hl, hf⟩ := valE_ok h
  obtain ⟨p, l, w, h1, h2, h3, h4, h5⟩ := part_fit hp
  refine ⟨p, l, w, h1, by omega, h3, h4, h5, ?_, fun x => ?_⟩
  · rw [readI, if_pos h, rootV, h1]; rfl
  · have hE : writeE m rs reg x = (if x < 2 ^ w then 0 else 24) := by rw [writeE, if_pos h, h1]; rfl
    refine ⟨hE, ?_⟩
    rw [writeL, hE]
    by_cases hx : x < 2 ^ w
    · rw [if_pos hx, if_pos rfl, if_pos hx, rootV, h1]; rfl
    · rw [if_neg hx, if_neg (by omega), if_neg hx]
theorem valE_of {m : Mach} {rs rs' : List Int} {reg : Int} (h : valE m rs reg = 0) (h' : fitsR m rs' = true) : valE m rs' reg = 0 := by
  have := (valE_ok h).1
  rw [valE, if_pos this, if_pos h']
/-- Fields of registers that do not overlap lie apart. -/
theorem apart_of {m : Mach} {a b : Int} {p l w q l' w' : Nat} (ha : partI m a = ((p : Int), (l : Int), (w : Int))) (hb : partI m b = ((q : Int), (l' : Int), (w' : Int))) (h : overB m a b = false) : p ≠ q ∨ l + w ≤ l' ∨ l' + w' ≤ l := by
  rw [overB, ha, hb] at h
  simp only [Bool.and_eq_false_iff, decide_eq_false_iff_not] at h
  omega
theorem wrote {m : Mach} {rs : List Int} {reg x : Int} (h : writeE m rs reg x = 0) : valE m rs reg = 0 ∧ ∃ p l w : Nat, partI m reg = ((p : Int), (l : Int), (w : Int)) ∧ p < rs.length ∧ 1 ≤ w ∧ l + w ≤ 64 ∧ l + w ≤ (gt m.regs (gt (tops m) (p : Nat))).width.toNat ∧ readI m rs reg = (rdF rs p l w : Nat) ∧ writeL m rs reg x = wrF rs p l w x ∧ x < 2 ^ w := by
  have hv : valE m rs reg = 0 := by
    unfold writeE at h
    split at h
    · assumption
    · exact h
  obtain ⟨p, l, w, h1, h2, h3, h4, h5, h6, h7⟩ := val_parts hv
  obtain ⟨h8, h9⟩ := h7 x
  have hx : x < 2 ^ w := by
    rw [h8] at h
    split at h
    · assumption
    · omega
  rw [if_pos hx] at h9
  exact ⟨hv, p, l, w, h1, h2, h3, h4, h5, h6, h9, hx⟩
theorem toNat_lt {x : Int} {w : Nat} (h0 : 0 ≤ x) (h : x < 2 ^ w) : x.toNat < 2 ^ w := by
  have : (x.toNat : Int) < ((2 ^ w : Nat) : Int) := by rw [Int.toNat_of_nonneg h0]; push_cast; exact h
  exact_mod_cast this
theorem read_of {m : Mach} {rs : List Int} {reg : Int} {p l w : Nat} (hv : valE m rs reg = 0) (h : partI m reg = ((p : Int), (l : Int), (w : Int))) : readI m rs reg = (rdF rs p l w : Nat) := by
  rw [readI, if_pos hv, rootV, h]; rfl
theorem read_wrote {m : Mach} {rs : List Int} {reg x : Int} {p l w : Nat} (hf : fitsR m (wrF rs p l w x) = true) (h : partI m reg = ((p : Int), (l : Int), (w : Int))) (hp : p < rs.length) (hv : valE m rs reg = 0) (h0 : 0 ≤ x) (hx : x < 2 ^ w) : readI m (wrF rs p l w x) reg = x := by
  rw [read_of (valE_of hv hf) h, rd_wr_same hp, Nat.mod_eq_of_lt (toNat_lt h0 hx), Int.toNat_of_nonneg h0]
theorem keeps {m : Mach} {rs : List Int} {a b x : Int} {p l w : Nat} (hv : valE m rs b = 0) (hf : fitsR m (wrF rs p l w x) = true) (ha : partI m a = ((p : Int), (l : Int), (w : Int))) (h : overB m a b = false) : readI m (wrF rs p l w x) b = readI m rs b := by
  obtain ⟨q, l', w', h1, h2, -⟩ := val_parts hv
  rw [read_of (valE_of hv hf) h1, read_of hv h1, rd_wr_other h2 (apart_of ha h1 h)]
theorem part_in {m : Mach} {a b : Int} (h : partE m a = 0) (h0 : 0 ≤ b) (h1 : b < m.regs.length) : partE m b = 0 := by
  rw [partE, if_pos (partE_zero h).1, if_pos]
  simp [inR]; omega
theorem write_of {m : Mach} {rs : List Int} {reg x : Int} {p l w : Nat} (hv : valE m rs reg = 0) (h : partI m reg = ((p : Int), (l : Int), (w : Int))) (hx : x < 2 ^ w) : writeE m rs reg x = 0 ∧ writeL m rs reg x = wrF rs p l w x := by
  have hE : writeE m rs reg x = 0 := by
    rw [writeE, if_pos hv, h]
    exact if_pos hx
  refine ⟨hE, ?_⟩
  rw [writeL, if_pos hE, rootV, h]; rfl
theorem rdF_lt (rs : List Int) (p l w : Nat) : ((rdF rs p l w : Nat) : Int) < 2 ^ w := by
  have : rdF rs p l w < 2 ^ w := Nat.mod_lt _ (Nat.two_pow_pos w)
  exact_mod_cast this
end Go.Proofs.YteiampdhhigjcaaGreatDoorV

/- Plain laws: registers that overlap. -/
namespace Go.Proofs.YteiampdhhigjcaaGreatDoorV
open Go

theorem overB_comm (m : Mach) (a b : Int) : overB m a b = overB m b a := by
  rw [Bool.eq_iff_iff]
  simp only [overB, Bool.and_eq_true, decide_eq_true_eq]
  exact ⟨fun ⟨⟨h1, h2⟩, h3⟩ => ⟨⟨h1.symm, h3⟩, h2⟩, fun ⟨⟨h1, h2⟩, h3⟩ => ⟨⟨h1.symm, h3⟩, h2⟩⟩
theorem overE_parts {m : Mach} {a b : Int} (h : overE m a b = 0) : partE m a = 0 ∧ partE m b = 0 := by
  unfold overE at h
  split at h
  · exact ⟨by assumption, h⟩
  · rename_i hn; exact absurd h hn
theorem overE_of {m : Mach} {a b : Int} (h1 : partE m a = 0) (h2 : partE m b = 0) : overE m a b = 0 := by rw [overE, if_pos h1, h2]
theorem overE_comm (m : Mach) (a b : Int) : overE m a b = overE m b a := by
  unfold overE partE
  repeat' split
  all_goals (first | rfl | omega | simp_all)
theorem overR_of {m : Mach} {a b : Int} (h : overE m a b = 0) : overR m a b = overB m a b := by simp [overR, h]
theorem over_self {m : Mach} {a : Int} (h : partE m a = 0) : overB m a a = true := by
  obtain ⟨p, l, w, h1, h2, h3, -⟩ := part_fit h
  rw [overB, h1]
  simp; omega
/-- The root of a register, as a register. -/
theorem root_of {m : Mach} {a : Int} (h : partE m a = 0) {p l w : Nat} (h1 : partI m a = ((p : Int), (l : Int), (w : Int))) : partE m (gt (tops m) (p : Nat)) = 0 ∧ overB m a (gt (tops m) (p : Nat)) = true := by
  obtain ⟨p', l', w', g1, g2, g3, g4, g5⟩ := part_fit h
  rw [h1] at g1
  simp only [Prod.mk.injEq] at g1
  obtain ⟨e1, e2, e3⟩ := g1
  obtain rfl : p = p' := by omega
  obtain rfl : l = l' := by omega
  obtain rfl : w = w' := by omega
  obtain ⟨hc, hi⟩ := partE_zero h
  obtain ⟨hr, -⟩ := mcheck_regs hc
  have hp : p = place (tops m) (topOf m a) := by
    have := congrArg (·.1) h1
    simp only [partI, hi, if_true] at this
    omega
  have hg : gt (tops m) (p : Nat) = topOf m a := by rw [hp]; exact (place_gt (topOf_mem hr hi)).2
  have hb := tops_reg g2
  have hpr : partE m (gt (tops m) (p : Nat)) = 0 := part_in h hb.1 hb.2
  refine ⟨hpr, ?_⟩
  have hir := (partE_zero hpr).2
  have e1 : 0 ≤ a ∧ a ≤ (m.regs.length : Int) - 1 := by simpa [inR] using hi
  have hr' := hr
  simp only [okRegs, Bool.and_eq_true] at hr
  have e2 := allB_true.1 hr.1 a.toNat (by omega)
  simp only [rgOk, Bool.and_eq_true] at e2
  rw [Int.toNat_of_nonneg e1.1] at e2
  have hof : (gt m.regs (topOf m a)).of = -1 := by
    have e3 := e2.2
    unfold topOf
    split at e3
    · rename_i ho; rw [if_pos ho]; exact ho
    · rename_i ho; rw [if_neg ho]
      simp only [Bool.and_eq_true, decide_eq_true_eq] at e3
      exact e3.2.1.1.1
  have hlow : (gt m.regs (topOf m a)).low = 0 := by
    have e1' : 0 ≤ topOf m a ∧ topOf m a ≤ (m.regs.length : Int) - 1 := by rw [hg] at hir; simpa [inR] using hir
    have e2' := allB_true.1 hr.1 (topOf m a).toNat (by omega)
    simp only [rgOk, Bool.and_eq_true] at e2'
    rw [Int.toNat_of_nonneg e1'.1] at e2'
    have e3 := e2'.2
    rw [if_pos hof] at e3
    simpa using e3
  have htt : topOf m (topOf m a) = topOf m a := by
    have : topOf m (topOf m a) = if (gt m.regs (topOf m a)).of = -1 then topOf m a else (gt m.regs (topOf m a)).of := rfl
    rw [this, if_pos hof]
  have hpi : partI m (gt (tops m) (p : Nat)) = ((p : Int), 0, (gt m.regs (gt (tops m) (p : Nat))).width) := by
    rw [partI, if_pos hir, hg, htt, hlow, ← hp]
  rw [overB, h1, hpi]
  have hw : (l : Int) + w ≤ (gt m.regs (gt (tops m) (p : Nat))).width := by omega
  simp; omega
theorem zeros_gt {n q : Nat} (h : q < n) : gt (List.replicate n (0 : Int)) (q : Nat) = 0 := by rw [gt_nat (by simpa using h)]; simp
theorem fits_zeros (m : Mach) : fitsR m (List.replicate (tops m).length 0) = true := by
  simp only [fitsR, List.length_replicate, decide_true, Bool.true_and, allB_true, decide_eq_true_eq]
  intro i hi
  rw [zeros_gt hi]
  exact Int.pow_pos (by omega)
/-- A field of ones, seen through another one. -/
theorem ones_seen {o l w l' w' : Nat} (hw : 1 ≤ w) (hw' : 1 ≤ w') (h1 : l < l' + w') (h2 : l' < l + w) : fldN (putN o l w (2 ^ w - 1)) l' w' ≠ 0 := by
  intro h
  have hb : (fldN (putN o l w (2 ^ w - 1)) l' w').testBit (max l l' - l') = false := by rw [h]; simp
  rw [fldN_bit, putN_bit, if_pos (by omega), Nat.testBit_two_pow_sub_one] at hb
  simp at hb
  omega
theorem seen_iff {m : Mach} {a b : Int} {p l w q l' w' : Nat} (ha : partI m a = ((p : Int), (l : Int), (w : Int))) (hb : partI m b = ((q : Int), (l' : Int), (w' : Int))) (hp : p < (tops m).length) (hq : q < (tops m).length) (hw : 1 ≤ w) (hw' : 1 ≤ w') :
    decide (rdF (wrF (List.replicate (tops m).length 0) p l w ((2 ^ w - 1 : Nat) : Int)) q l' w' = 0) = !overB m a b := by
  cases ho : overB m a b with
  | false =>
    have hap := apart_of ha hb ho
    rw [rd_wr_other (by simpa using hq) hap, rdF, zeros_gt hq]
    simp [fldN]
  | true =>
    rw [overB, ha, hb] at ho
    simp only [Bool.and_eq_true, decide_eq_true_eq] at ho
    obtain rfl : p = q := by omega
    have : rdF (wrF (List.replicate (tops m).length 0) p l w ((2 ^ w - 1 : Nat) : Int)) p l' w' ≠ 0 := by
      rw [rdF, gt_wrF (by simpa using hp), if_pos rfl, Int.toNat_natCast, Int.toNat_natCast]
      exact ones_seen hw hw' (by omega) (by omega)
    simpa using this
theorem ones_shift (w : Nat) (h1 : 1 ≤ w) (h2 : w ≤ 64) : (18446744073709551615 : Int).fdiv (2 ^ (min (64 - (w : Int)).toNat 64)) = ((2 ^ w - 1 : Nat) : Int) := by
  have : ∀ i : Fin 65, (18446744073709551615 : Int).fdiv (2 ^ (min (64 - (i.val : Int)).toNat 64)) = ((2 ^ i.val - 1 : Nat) : Int) := by decide
  exact this ⟨w, by omega⟩
theorem tops_le {m : Mach} (h : m.regs.length ≤ 64) : (tops m).length ≤ 64 := Nat.le_trans (topsN_len m _) h
end Go.Proofs.YteiampdhhigjcaaGreatDoorV

/- Plain laws: the numbers of an op. -/
namespace Go.Proofs.YteiampdhhigjcaaGreatDoorV
open Go

/-! ### Lists of values -/
theorem varsN_pre (m : Mach) (s : Ins_) (args : List Int) (pcv : Int) (i : Nat) : ∀ n, i ≤ n → ∃ r, varsN m s args pcv n = varsN m s args pcv i ++ r
  | 0, h => ⟨[], by obtain rfl : i = 0 := by omega
                    simp⟩
  | n + 1, h => by
    rcases Nat.lt_or_eq_of_le h with h | rfl
    · obtain ⟨r, hr⟩ := varsN_pre m s args pcv i n (by omega)
      exact ⟨_, by rw [varsN, hr, List.append_assoc]⟩
    · exact ⟨[], by simp⟩
theorem gt_app_at {α : Type} [Inhabited α] (a r : List α) (x : α) : gt (a ++ x :: r) (a.length : Nat) = x := by
  rw [gt_nat (by simp)]; simp
theorem varsN_at {m : Mach} {s : Ins_} {args : List Int} {pcv : Int} {i n : Nat} (h : i < n) (hk : (gt s.operands (i : Nat)).kind ≠ 1) (tl : List Bnd) : (varsN m s args pcv i).length < (varsN m s args pcv n ++ tl).length ∧
    gt (varsN m s args pcv n ++ tl) ((varsN m s args pcv i).length : Nat) = ⟨(gt s.operands (i : Nat)).name, m.address, numI m (gt s.operands (i : Nat)) (gt args (i : Nat)) pcv⟩ := by
  obtain ⟨r, hr⟩ := varsN_pre m s args pcv (i + 1) n h
  rw [varsN, if_neg hk] at hr
  rw [hr]
  refine ⟨by simp, ?_⟩
  rw [List.append_assoc, List.append_assoc, List.singleton_append, gt_app_at]
theorem varsN_len1 {m : Mach} {s : Ins_} {args : List Int} {pcv : Int} {i : Nat} (hk : (gt s.operands (i : Nat)).kind = 1) : (varsN m s args pcv (i + 1)).length = (varsN m s args pcv i).length := by rw [varsN, if_pos hk]; simp
theorem varsN_len2 {m : Mach} {s : Ins_} {args : List Int} {pcv : Int} {i : Nat} (hk : (gt s.operands (i : Nat)).kind ≠ 1) : (varsN m s args pcv (i + 1)).length = (varsN m s args pcv i).length + 1 := by rw [varsN, if_neg hk]; simp
theorem varsN_len (m : Mach) (s : Ins_) (args : List Int) (pcv : Int) : ∀ n, (varsN m s args pcv n).length ≤ n
  | 0 => by simp [varsN]
  | n + 1 => by
    have := varsN_len m s args pcv n
    by_cases hk : (gt s.operands (n : Nat)).kind = 1
    · rw [varsN_len1 hk]; omega
    · rw [varsN_len2 hk]; omega

/-! ### Fields -/
theorem fieldN_bd {o : Opnd} {wd : Int} (hp : okPieces o wd = true) (hw : wd ≤ 4) (hl : o.pieces.length ≤ 4) : ∀ k, k ≤ o.pieces.length → 0 ≤ fieldN o.pieces k ∧ fieldN o.pieces k ≤ 32 * k ∧ (k < o.pieces.length → 1 ≤ (gt o.pieces (k : Nat)).len ∧ (gt o.pieces (k : Nat)).len ≤ 32 ∧ fieldN o.pieces (k + 1) = fieldN o.pieces k + (gt o.pieces (k : Nat)).len)
  | 0, _ => by
    refine ⟨by simp [fieldN], by simp [fieldN], fun h => ?_⟩
    have := allB_true.1 hp 0 h
    simp only [inR, Bool.and_eq_true, decide_eq_true_eq] at this
    have hlen : 1 ≤ (gt o.pieces ((0 : Nat) : Int)).len ∧ (gt o.pieces ((0 : Nat) : Int)).len ≤ 32 := by omega
    refine ⟨hlen.1, hlen.2, ?_⟩
    rw [show fieldN o.pieces (0 + 1) = IntKind.i64.wrap (0 + (gt o.pieces ((0 : Nat) : Int)).len) from rfl, show fieldN o.pieces 0 = 0 from rfl]
    rw [wrap_i64 (by omega) (by omega)]
  | k + 1, h => by
    obtain ⟨h1, h2, h3⟩ := fieldN_bd hp hw hl k (by omega)
    obtain ⟨h4, h5, h6⟩ := h3 (by omega)
    have hb1 : 0 ≤ fieldN o.pieces (k + 1) := by omega
    have hb2 : fieldN o.pieces (k + 1) ≤ 32 * ((k + 1 : Nat) : Int) := by rw [h6]; push_cast; omega
    refine ⟨hb1, hb2, fun hk => ?_⟩
    have := allB_true.1 hp (k + 1) hk
    simp only [inR, Bool.and_eq_true, decide_eq_true_eq] at this
    have hlen : 1 ≤ (gt o.pieces ((k + 1 : Nat) : Int)).len ∧ (gt o.pieces ((k + 1 : Nat) : Int)).len ≤ 32 := by omega
    refine ⟨hlen.1, hlen.2, ?_⟩
    rw [show fieldN o.pieces (k + 1 + 1) = IntKind.i64.wrap (fieldN o.pieces (k + 1) + (gt o.pieces ((k + 1 : Nat) : Int)).len) from rfl]
    rw [wrap_i64 (by omega) (by omega)]
/-- A number that fits does not when it is moved by the field's size. -/
theorem ranged_eq {o : Opnd} {n : Int} (h : rangedB o n = true) : ∃ q, n = q * 2 ^ o.scale.toNat ∧ (if o.kind = 3 then 0 ≤ q ∧ q ≤ 2 ^ (fieldI o).toNat - 1 else -2 ^ ((fieldI o).toNat - 1) ≤ q ∧ q ≤ 2 ^ ((fieldI o).toNat - 1) - 1) := by
  simp only [rangedB, Bool.and_eq_true, decide_eq_true_eq] at h
  obtain ⟨h1, h2⟩ := h
  refine ⟨n.tdiv (2 ^ o.scale.toNat), ?_, ?_⟩
  · have := Int.tmod_add_mul_tdiv n (2 ^ o.scale.toNat)
    rw [h1, Int.zero_add, Int.mul_comm] at this
    exact this.symm
  · split at h2 <;> rename_i hk <;> simp only [hk, if_true, if_false] <;> simpa [inR] using h2
theorem ranged_mul {o : Opnd} {q : Int} : rangedB o (q * 2 ^ o.scale.toNat) = if o.kind = 3 then inR q 0 (2 ^ (fieldI o).toNat - 1) else inR q (-2 ^ ((fieldI o).toNat - 1)) (2 ^ ((fieldI o).toNat - 1) - 1) := by
  have hp : (2 : Int) ^ o.scale.toNat ≠ 0 := by have := Int.pow_pos (n := 2) (m := o.scale.toNat) (by omega); omega
  rw [rangedB, Int.mul_tmod_left, Int.mul_tdiv_cancel _ hp]
  simp
theorem ranged_off {o : Opnd} {n : Int} (hf : 0 < fieldI o) (h : rangedB o n = true) : rangedB o (n + 2 ^ ((fieldI o).toNat + o.scale.toNat)) = false ∧ rangedB o (n - 2 ^ ((fieldI o).toNat + o.scale.toNat)) = false ∧ -2 ^ ((fieldI o).toNat + o.scale.toNat) ≤ n ∧ n ≤ 2 ^ ((fieldI o).toNat + o.scale.toNat) := by
  obtain ⟨q, rfl, hq⟩ := ranged_eq h
  have e1 : q * 2 ^ o.scale.toNat + 2 ^ ((fieldI o).toNat + o.scale.toNat) = (q + 2 ^ (fieldI o).toNat) * 2 ^ o.scale.toNat := by rw [Int.pow_add, Int.add_mul]
  have e2 : q * 2 ^ o.scale.toNat - 2 ^ ((fieldI o).toNat + o.scale.toNat) = (q - 2 ^ (fieldI o).toNat) * 2 ^ o.scale.toNat := by rw [Int.pow_add, Int.sub_mul]
  obtain ⟨f, hf'⟩ : ∃ f, (fieldI o).toNat = f + 1 := ⟨(fieldI o).toNat - 1, by omega⟩
  have hS : (0 : Int) < 2 ^ o.scale.toNat := Int.pow_pos (by omega)
  have hP : (0 : Int) < 2 ^ f := Int.pow_pos (by omega)
  have hF : (2 : Int) ^ (fieldI o).toNat = 2 * 2 ^ f := by rw [hf', Int.pow_succ, Int.mul_comm]
  have hf1 : (fieldI o).toNat - 1 = f := by omega
  rw [e1, e2, ranged_mul, ranged_mul, Int.pow_add, hF, hf1]
  rw [hF, hf1] at hq
  have hb : -(2 * 2 ^ f) ≤ q ∧ q ≤ 2 * (2 : Int) ^ f := by split at hq <;> omega
  refine ⟨?_, ?_, ?_, ?_⟩
  · split at hq <;> rename_i hk <;> simp only [hk, if_true, if_false] <;> simp [inR] <;> omega
  · split at hq <;> rename_i hk <;> simp only [hk, if_true, if_false] <;> simp [inR] <;> omega
  · have := Int.mul_le_mul_of_nonneg_right hb.1 (Int.le_of_lt hS); rw [Int.neg_mul] at this; exact this
  · exact Int.mul_le_mul_of_nonneg_right hb.2 (Int.le_of_lt hS)
theorem gt_set {l : List Int} {i j : Nat} {x : Int} (hj : j < l.length) : gt (l.set i x) (j : Nat) = if i = j then x else gt l (j : Nat) := by
  rw [gt_nat (by simpa using hj), gt_nat hj, List.getElem_set]
/-- An op with one number changed so that it does not fit. -/
theorem op_off {m : Mach} {op : MOp} {i : Nat} {x : Int} (h : opE m op = 0) (hi : i < op.args.length) (hk : (gt (gt m.instrs op.instr).operands (i : Nat)).kind ≠ 1) (hx : rangedB (gt (gt m.instrs op.instr).operands (i : Nat)) x = false)
    (hos : ∀ j, j < (gt m.instrs op.instr).operands.length → okOperand m (gt m.instrs op.instr) j = true) : opE m ⟨op.instr, op.args.set i x⟩ = 24 := by
  obtain ⟨hc, hs⟩ := opE_ok h
  obtain ⟨h1, h2, h3⟩ := suit_ok hs
  generalize hsd : gt m.instrs op.instr = s at *
  have hS : opE m ⟨op.instr, op.args.set i x⟩ = firstE (argE m s (op.args.set i x)) s.operands.length := by
    rw [opE, if_pos hc, suitE]
    simp only [hsd]
    rw [if_pos h1, if_pos (by simpa using h2)]
  have hat : argE m s (op.args.set i x) i = 24 := by
    simp only [argE, hk, if_false]
    rw [gt_set hi, if_pos rfl, hx]; simp
  have hz : ∀ j, j < i → argE m s (op.args.set i x) j = 0 := by
    intro j hj
    have hj' : j < op.args.length := by omega
    have h0 := h3 j (by omega)
    simp only [argE] at h0 ⊢
    rw [gt_set hj', if_neg (show ¬ i = j by omega)]
    by_cases hkj : (gt s.operands (j : Nat)).kind = 1
    · simp only [hkj, if_true] at h0 ⊢
      have ht := (opnd_reg (hos j (by omega)) hkj).2
      by_cases ht0 : 0 ≤ (gt s.operands (j : Nat)).tied
      · obtain ⟨t, htt⟩ := Int.eq_ofNat_of_zero_le ht0
        rw [htt] at ht h0 ⊢
        rw [gt_set (by omega), if_neg (show ¬ i = t by omega)]
        exact h0
      · simp only [ht0, false_and, if_false] at h0 ⊢
        exact h0
    · simp only [hkj, if_false] at h0 ⊢
      exact h0
  rw [hS, firstE_at hz (by rw [hat]; decide) (by omega), hat]
end Go.Proofs.YteiampdhhigjcaaGreatDoorV
