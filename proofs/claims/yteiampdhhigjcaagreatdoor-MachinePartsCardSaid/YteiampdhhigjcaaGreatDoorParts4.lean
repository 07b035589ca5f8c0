/- Packed: Ec Eb Ed -/
import Derived.Test.YteiampdhhigjcaaGreatDoorParts3
import Derived.Test.YteiampdhhigjcaaGreatDoorProg
import Derived.KernelRfl
import Derived.OpenVars
import Derived.JoinedOf
import Derived.RowKit
import Derived.RowKitTokens
import Derived.LaidLaws
import Derived.FnData
set_option linter.all false
/- Arguments of the program's types, as plain structs. (Printed by mkdec.py.) -/
namespace Go.Proofs.YteiampdhhigjcaaGreatDoorV
open Go
set_option maxRecDepth 100000
set_option maxHeartbeats 4000000

theorem co_api_MachBank : Tryz.prog.cellsOf 96 = 2 := by kernel_rfl
theorem co_api_MachEffect : Tryz.prog.cellsOf 48 = 21 := by kernel_rfl
theorem co_api_MachInstr : Tryz.prog.cellsOf 40 = 9 := by kernel_rfl
theorem co_api_MachOperand : Tryz.prog.cellsOf 43 = 6 := by kernel_rfl
theorem co_api_MachPiece : Tryz.prog.cellsOf 80 = 2 := by kernel_rfl
theorem co_api_MachReg : Tryz.prog.cellsOf 35 = 4 := by kernel_rfl
theorem co_api_MachUnit : Tryz.prog.cellsOf 102 = 2 := by kernel_rfl
theorem co_api_Machine : Tryz.prog.cellsOf 27 = 7 := by kernel_rfl
theorem co_api_Term : Tryz.prog.cellsOf 46 = 6 := by kernel_rfl
theorem co_int : Tryz.prog.cellsOf 3 = 1 := by kernel_rfl
theorem co_sl_api_MachBank : Tryz.prog.cellsOf 23 = 1 := by kernel_rfl
theorem co_sl_api_MachEffect : Tryz.prog.cellsOf 38 = 1 := by kernel_rfl
theorem co_sl_api_MachInstr : Tryz.prog.cellsOf 25 = 1 := by kernel_rfl
theorem co_sl_api_MachOperand : Tryz.prog.cellsOf 37 = 1 := by kernel_rfl
theorem co_sl_api_MachPiece : Tryz.prog.cellsOf 41 = 1 := by kernel_rfl
theorem co_sl_api_MachReg : Tryz.prog.cellsOf 22 = 1 := by kernel_rfl
theorem co_sl_api_MachUnit : Tryz.prog.cellsOf 24 = 1 := by kernel_rfl
theorem co_sl_api_Term : Tryz.prog.cellsOf 44 = 1 := by kernel_rfl
theorem co_sl_int : Tryz.prog.cellsOf 53 = 1 := by kernel_rfl
theorem co_string : Tryz.prog.cellsOf 9 = 1 := by kernel_rfl
theorem co_uint64 : Tryz.prog.cellsOf 36 = 1 := by kernel_rfl
theorem co_uint8 : Tryz.prog.cellsOf 5 = 1 := by kernel_rfl
theorem dec_Tm : ∀ (n : Nat) (qs : List PV), PTy Tryz.prog n 46 qs → ∃ x : Tm, x.pv = .agg qs := by
  intro n
  induction n using Nat.strongRecOn with
  | _ n ih =>
  intro qs h
  obtain ⟨k, hk, hl, hf⟩ := PTy.struct Tryz.underlying46 h
  rw [co_api_Term] at hl
  simp only [List.mem_cons, List.not_mem_nil, or_false, forall_eq_or_imp, forall_eq, co_int, co_sl_api_Term, co_string, co_uint64, co_uint8] at hf
  obtain ⟨h0, h1, h2, h3, h4, h5⟩ := hf
  match qs, hl with
  | [q0, q1, q2, q3, q4, q5], _ =>
    have h0 : PTy Tryz.prog k 5 [q0] := h0
    obtain ⟨x0, e0⟩ := PTy.int Tryz.underlying5 h0
    injection e0 with e0
    subst e0
    have h1 : PTy Tryz.prog k 3 [q1] := h1
    obtain ⟨x1, e1⟩ := PTy.int Tryz.underlying3 h1
    injection e1 with e1
    subst e1
    have h2 : PTy Tryz.prog k 36 [q2] := h2
    obtain ⟨x2, e2⟩ := PTy.int Tryz.underlying36 h2
    injection e2 with e2
    subst e2
    have h3 : PTy Tryz.prog k 9 [q3] := h3
    obtain ⟨x3, e3⟩ := PTy.str Tryz.underlying9 h3
    injection e3 with e3
    subst e3
    have h4 : PTy Tryz.prog k 3 [q4] := h4
    obtain ⟨x4, e4⟩ := PTy.int Tryz.underlying3 h4
    injection e4 with e4
    subst e4
    have h5 : PTy Tryz.prog k 44 [q5] := h5
    obtain ⟨x5, e5⟩ := PTy.rows Tm.pv Tryz.underlying44 co_api_Term (by simp [rowT, Tryz.underlying46, TypeDesc.isRow]) (fun j hj qs hq => ih j (by omega) qs hq) h5
    injection e5 with e5
    subst e5
    exact ⟨⟨x0, x1, x2, x3, x4, x5⟩, by rw [Tm.pv_eq]⟩
theorem dec_Reg : ∀ (n : Nat) (qs : List PV), PTy Tryz.prog n 35 qs → ∃ x : Reg, x.pv = .agg qs := by
  intro n qs h
  obtain ⟨k, hk, hl, hf⟩ := PTy.struct Tryz.underlying35 h
  rw [co_api_MachReg] at hl
  simp only [List.mem_cons, List.not_mem_nil, or_false, forall_eq_or_imp, forall_eq, co_int, co_string] at hf
  obtain ⟨h0, h1, h2, h3⟩ := hf
  match qs, hl with
  | [q0, q1, q2, q3], _ =>
    have h0 : PTy Tryz.prog k 9 [q0] := h0
    obtain ⟨x0, e0⟩ := PTy.str Tryz.underlying9 h0
    injection e0 with e0
    subst e0
    have h1 : PTy Tryz.prog k 3 [q1] := h1
    obtain ⟨x1, e1⟩ := PTy.int Tryz.underlying3 h1
    injection e1 with e1
    subst e1
    have h2 : PTy Tryz.prog k 3 [q2] := h2
    obtain ⟨x2, e2⟩ := PTy.int Tryz.underlying3 h2
    injection e2 with e2
    subst e2
    have h3 : PTy Tryz.prog k 3 [q3] := h3
    obtain ⟨x3, e3⟩ := PTy.int Tryz.underlying3 h3
    injection e3 with e3
    subst e3
    exact ⟨⟨x0, x1, x2, x3⟩, by rw [Reg.pv_eq]⟩
theorem dec_Bank : ∀ (n : Nat) (qs : List PV), PTy Tryz.prog n 96 qs → ∃ x : Bank, x.pv = .agg qs := by
  intro n qs h
  obtain ⟨k, hk, hl, hf⟩ := PTy.struct Tryz.underlying96 h
  rw [co_api_MachBank] at hl
  simp only [List.mem_cons, List.not_mem_nil, or_false, forall_eq_or_imp, forall_eq, co_sl_int, co_string] at hf
  obtain ⟨h0, h1⟩ := hf
  match qs, hl with
  | [q0, q1], _ =>
    have h0 : PTy Tryz.prog k 9 [q0] := h0
    obtain ⟨x0, e0⟩ := PTy.str Tryz.underlying9 h0
    injection e0 with e0
    subst e0
    have h1 : PTy Tryz.prog k 53 [q1] := h1
    obtain ⟨x1, e1⟩ := PTy.ints Tryz.underlying53 co_int Tryz.underlying3 h1
    injection e1 with e1
    subst e1
    exact ⟨⟨x0, x1⟩, by rw [Bank.pv_eq]; rfl⟩
theorem dec_Unt : ∀ (n : Nat) (qs : List PV), PTy Tryz.prog n 102 qs → ∃ x : Unt, x.pv = .agg qs := by
  intro n qs h
  obtain ⟨k, hk, hl, hf⟩ := PTy.struct Tryz.underlying102 h
  rw [co_api_MachUnit] at hl
  simp only [List.mem_cons, List.not_mem_nil, or_false, forall_eq_or_imp, forall_eq, co_int, co_string] at hf
  obtain ⟨h0, h1⟩ := hf
  match qs, hl with
  | [q0, q1], _ =>
    have h0 : PTy Tryz.prog k 9 [q0] := h0
    obtain ⟨x0, e0⟩ := PTy.str Tryz.underlying9 h0
    injection e0 with e0
    subst e0
    have h1 : PTy Tryz.prog k 3 [q1] := h1
    obtain ⟨x1, e1⟩ := PTy.int Tryz.underlying3 h1
    injection e1 with e1
    subst e1
    exact ⟨⟨x0, x1⟩, by rw [Unt.pv_eq]⟩
theorem dec_Piece : ∀ (n : Nat) (qs : List PV), PTy Tryz.prog n 80 qs → ∃ x : Piece, x.pv = .agg qs := by
  intro n qs h
  obtain ⟨k, hk, hl, hf⟩ := PTy.struct Tryz.underlying80 h
  rw [co_api_MachPiece] at hl
  simp only [List.mem_cons, List.not_mem_nil, or_false, forall_eq_or_imp, forall_eq, co_int] at hf
  obtain ⟨h0, h1⟩ := hf
  match qs, hl with
  | [q0, q1], _ =>
    have h0 : PTy Tryz.prog k 3 [q0] := h0
    obtain ⟨x0, e0⟩ := PTy.int Tryz.underlying3 h0
    injection e0 with e0
    subst e0
    have h1 : PTy Tryz.prog k 3 [q1] := h1
    obtain ⟨x1, e1⟩ := PTy.int Tryz.underlying3 h1
    injection e1 with e1
    subst e1
    exact ⟨⟨x0, x1⟩, by rw [Piece.pv_eq]⟩
theorem dec_Opnd : ∀ (n : Nat) (qs : List PV), PTy Tryz.prog n 43 qs → ∃ x : Opnd, x.pv = .agg qs := by
  intro n qs h
  obtain ⟨k, hk, hl, hf⟩ := PTy.struct Tryz.underlying43 h
  rw [co_api_MachOperand] at hl
  simp only [List.mem_cons, List.not_mem_nil, or_false, forall_eq_or_imp, forall_eq, co_int, co_sl_api_MachPiece, co_string, co_uint8] at hf
  obtain ⟨h0, h1, h2, h3, h4, h5⟩ := hf
  match qs, hl with
  | [q0, q1, q2, q3, q4, q5], _ =>
    have h0 : PTy Tryz.prog k 9 [q0] := h0
    obtain ⟨x0, e0⟩ := PTy.str Tryz.underlying9 h0
    injection e0 with e0
    subst e0
    have h1 : PTy Tryz.prog k 5 [q1] := h1
    obtain ⟨x1, e1⟩ := PTy.int Tryz.underlying5 h1
    injection e1 with e1
    subst e1
    have h2 : PTy Tryz.prog k 3 [q2] := h2
    obtain ⟨x2, e2⟩ := PTy.int Tryz.underlying3 h2
    injection e2 with e2
    subst e2
    have h3 : PTy Tryz.prog k 3 [q3] := h3
    obtain ⟨x3, e3⟩ := PTy.int Tryz.underlying3 h3
    injection e3 with e3
    subst e3
    have h4 : PTy Tryz.prog k 41 [q4] := h4
    obtain ⟨x4, e4⟩ := PTy.rows Piece.pv Tryz.underlying41 co_api_MachPiece (by simp [rowT, Tryz.underlying80, TypeDesc.isRow]) (fun j hj qs hq => dec_Piece j qs hq) h4
    injection e4 with e4
    subst e4
    have h5 : PTy Tryz.prog k 3 [q5] := h5
    obtain ⟨x5, e5⟩ := PTy.int Tryz.underlying3 h5
    injection e5 with e5
    subst e5
    exact ⟨⟨x0, x1, x2, x3, x4, x5⟩, by rw [Opnd.pv_eq]⟩
theorem dec_Eff : ∀ (n : Nat) (qs : List PV), PTy Tryz.prog n 48 qs → ∃ x : Eff, x.pv = .agg qs := by
  intro n qs h
  obtain ⟨k, hk, hl, hf⟩ := PTy.struct Tryz.underlying48 h
  rw [co_api_MachEffect] at hl
  simp only [List.mem_cons, List.not_mem_nil, or_false, forall_eq_or_imp, forall_eq, co_api_Term, co_int, co_uint8] at hf
  obtain ⟨h0, h1, h2, h3, h4, h5⟩ := hf
  match qs, hl with
  | [q0, q1, q2, q3, q4, q5, q6, q7, q8, q9, q10, q11, q12, q13, q14, q15, q16, q17, q18, q19, q20], _ =>
    have h0 : PTy Tryz.prog k 5 [q0] := h0
    obtain ⟨x0, e0⟩ := PTy.int Tryz.underlying5 h0
    injection e0 with e0
    subst e0
    have h1 : PTy Tryz.prog k 3 [q1] := h1
    obtain ⟨x1, e1⟩ := PTy.int Tryz.underlying3 h1
    injection e1 with e1
    subst e1
    have h2 : PTy Tryz.prog k 3 [q2] := h2
    obtain ⟨x2, e2⟩ := PTy.int Tryz.underlying3 h2
    injection e2 with e2
    subst e2
    have h3 : PTy Tryz.prog k 46 [q3, q4, q5, q6, q7, q8] := h3
    obtain ⟨x3, e3⟩ := dec_Tm _ _ h3
    rw [Tm.pv_eq] at e3
    injection e3 with e3
    simp only [List.cons.injEq, and_true] at e3
    obtain ⟨rfl, rfl, rfl, rfl, rfl, rfl⟩ := e3
    have h4 : PTy Tryz.prog k 46 [q9, q10, q11, q12, q13, q14] := h4
    obtain ⟨x4, e4⟩ := dec_Tm _ _ h4
    rw [Tm.pv_eq] at e4
    injection e4 with e4
    simp only [List.cons.injEq, and_true] at e4
    obtain ⟨rfl, rfl, rfl, rfl, rfl, rfl⟩ := e4
    have h5 : PTy Tryz.prog k 46 [q15, q16, q17, q18, q19, q20] := h5
    obtain ⟨x5, e5⟩ := dec_Tm _ _ h5
    rw [Tm.pv_eq] at e5
    injection e5 with e5
    simp only [List.cons.injEq, and_true] at e5
    obtain ⟨rfl, rfl, rfl, rfl, rfl, rfl⟩ := e5
    exact ⟨⟨x0, x1, x2, x3, x4, x5⟩, by rw [Eff.pv_eq]⟩
theorem dec_Ins_ : ∀ (n : Nat) (qs : List PV), PTy Tryz.prog n 40 qs → ∃ x : Ins_, x.pv = .agg qs := by
  intro n qs h
  obtain ⟨k, hk, hl, hf⟩ := PTy.struct Tryz.underlying40 h
  rw [co_api_MachInstr] at hl
  simp only [List.mem_cons, List.not_mem_nil, or_false, forall_eq_or_imp, forall_eq, co_int, co_sl_api_MachEffect, co_sl_api_MachOperand, co_string, co_uint64] at hf
  obtain ⟨h0, h1, h2, h3, h4, h5, h6, h7, h8⟩ := hf
  match qs, hl with
  | [q0, q1, q2, q3, q4, q5, q6, q7, q8], _ =>
    have h0 : PTy Tryz.prog k 9 [q0] := h0
    obtain ⟨x0, e0⟩ := PTy.str Tryz.underlying9 h0
    injection e0 with e0
    subst e0
    have h1 : PTy Tryz.prog k 36 [q1] := h1
    obtain ⟨x1, e1⟩ := PTy.int Tryz.underlying36 h1
    injection e1 with e1
    subst e1
    have h2 : PTy Tryz.prog k 36 [q2] := h2
    obtain ⟨x2, e2⟩ := PTy.int Tryz.underlying36 h2
    injection e2 with e2
    subst e2
    have h3 : PTy Tryz.prog k 37 [q3] := h3
    obtain ⟨x3, e3⟩ := PTy.rows Opnd.pv Tryz.underlying37 co_api_MachOperand (by simp [rowT, Tryz.underlying43, TypeDesc.isRow]) (fun j hj qs hq => dec_Opnd j qs hq) h3
    injection e3 with e3
    subst e3
    have h4 : PTy Tryz.prog k 38 [q4] := h4
    obtain ⟨x4, e4⟩ := PTy.rows Eff.pv Tryz.underlying38 co_api_MachEffect (by simp [rowT, Tryz.underlying48, TypeDesc.isRow]) (fun j hj qs hq => dec_Eff j qs hq) h4
    injection e4 with e4
    subst e4
    have h5 : PTy Tryz.prog k 3 [q5] := h5
    obtain ⟨x5, e5⟩ := PTy.int Tryz.underlying3 h5
    injection e5 with e5
    subst e5
    have h6 : PTy Tryz.prog k 3 [q6] := h6
    obtain ⟨x6, e6⟩ := PTy.int Tryz.underlying3 h6
    injection e6 with e6
    subst e6
    have h7 : PTy Tryz.prog k 3 [q7] := h7
    obtain ⟨x7, e7⟩ := PTy.int Tryz.underlying3 h7
    injection e7 with e7
    subst e7
    have h8 : PTy Tryz.prog k 3 [q8] := h8
    obtain ⟨x8, e8⟩ := PTy.int Tryz.underlying3 h8
    injection e8 with e8
    subst e8
    exact ⟨⟨x0, x1, x2, x3, x4, x5, x6, x7, x8⟩, by rw [Ins_.pv_eq]⟩
theorem dec_Mach : ∀ (n : Nat) (qs : List PV), PTy Tryz.prog n 27 qs → ∃ x : Mach, x.pv = .agg qs := by
  intro n qs h
  obtain ⟨k, hk, hl, hf⟩ := PTy.struct Tryz.underlying27 h
  rw [co_api_Machine] at hl
  simp only [List.mem_cons, List.not_mem_nil, or_false, forall_eq_or_imp, forall_eq, co_int, co_sl_api_MachBank, co_sl_api_MachInstr, co_sl_api_MachReg, co_sl_api_MachUnit, co_string] at hf
  obtain ⟨h0, h1, h2, h3, h4, h5, h6⟩ := hf
  match qs, hl with
  | [q0, q1, q2, q3, q4, q5, q6], _ =>
    have h0 : PTy Tryz.prog k 9 [q0] := h0
    obtain ⟨x0, e0⟩ := PTy.str Tryz.underlying9 h0
    injection e0 with e0
    subst e0
    have h1 : PTy Tryz.prog k 3 [q1] := h1
    obtain ⟨x1, e1⟩ := PTy.int Tryz.underlying3 h1
    injection e1 with e1
    subst e1
    have h2 : PTy Tryz.prog k 3 [q2] := h2
    obtain ⟨x2, e2⟩ := PTy.int Tryz.underlying3 h2
    injection e2 with e2
    subst e2
    have h3 : PTy Tryz.prog k 22 [q3] := h3
    obtain ⟨x3, e3⟩ := PTy.rows Reg.pv Tryz.underlying22 co_api_MachReg (by simp [rowT, Tryz.underlying35, TypeDesc.isRow]) (fun j hj qs hq => dec_Reg j qs hq) h3
    injection e3 with e3
    subst e3
    have h4 : PTy Tryz.prog k 23 [q4] := h4
    obtain ⟨x4, e4⟩ := PTy.rows Bank.pv Tryz.underlying23 co_api_MachBank (by simp [rowT, Tryz.underlying96, TypeDesc.isRow]) (fun j hj qs hq => dec_Bank j qs hq) h4
    injection e4 with e4
    subst e4
    have h5 : PTy Tryz.prog k 24 [q5] := h5
    obtain ⟨x5, e5⟩ := PTy.rows Unt.pv Tryz.underlying24 co_api_MachUnit (by simp [rowT, Tryz.underlying102, TypeDesc.isRow]) (fun j hj qs hq => dec_Unt j qs hq) h5
    injection e5 with e5
    subst e5
    have h6 : PTy Tryz.prog k 25 [q6] := h6
    obtain ⟨x6, e6⟩ := PTy.rows Ins_.pv Tryz.underlying25 co_api_MachInstr (by simp [rowT, Tryz.underlying40, TypeDesc.isRow]) (fun j hj qs hq => dec_Ins_ j qs hq) h6
    injection e6 with e6
    subst e6
    exact ⟨⟨x0, x1, x2, x3, x4, x5, x6⟩, by rw [Mach.pv_eq]⟩
end Go.Proofs.YteiampdhhigjcaaGreatDoorV

/- From a law's run to what its row says. -/
namespace Go.Proofs.YteiampdhhigjcaaGreatDoorV
open Go Go.RowKit

section
variable {H : Type} {enc : TypeId × Value → H} {P : Program} {W W' : World}
/-- Arguments read behind the call as they did before. -/
theorem trodAll_below (hl : laidOutB P = true) (hb : Below W.heap.size W W') : ∀ {ts : List TypeId} {vs : List Value} {ds : List (DataW H)} {ps : List MemPlace},
    (ts.all fun t => P.readableRec t && decide (t < P.types.size)) = true → DataW.TrodAll enc P W 0 (fun _ => true) true ts vs ds ps → DataW.TrodAll enc P W' 0 (fun b => decide (b < W.heap.size)) true ts vs ds ps
  | [], [], [], _, _, h => h
  | t :: ts, v :: vs, d :: ds, ps, hr, h => by
    have hlt := h.lt
    obtain ⟨p, q, h1, h2, e⟩ := h
    simp only [List.all_cons, Bool.and_eq_true, decide_eq_true_eq] at hr
    exact ⟨p, q, Below.trod hl hr.1.1 hr.1.2 h1 hb (fun x hx => hlt x (by rw [e]; simp [hx])), trodAll_below hl hb (by simpa using hr.2) h2, e⟩
  | [], [], _ :: _, _, _, h => h.elim
  | [], _ :: _, _, _, _, h => h.elim
  | _ :: _, [], _, _, _, h => h.elim
  | _ :: _, _ :: _, [], _, _, h => h.elim
theorem trod_bool {t : TypeId} (ht : P.underlying t = some .bool) {base : Nat} {sp : Nat → Bool} {held b : Bool} : DataW.Trod enc P W base sp held t (.bool b) (.lit (.bool b)) [] := ⟨1, by simp [DataW.trod, Value.cells, ht]⟩

/-- A law that gives true and changes nothing below. -/
theorem law_post {fn : Func} {s : ChangeSpec} {apart fresh : Bool} {tb : TypeId} (hl : laidOutB P = true) (hr : (fn.params.toList.all fun t => P.readableRec t && decide (t < P.types.size)) = true) (hv : varsRowed P s.vars = true)
    (hres : fn.resultTypes = #[tb]) (htb : P.underlying tb = some .bool) {args : Array Value} {ds gs : List (DataW H)} {before : List MemPlace}
    (hfn : s.fn H (ds ++ gs) = { results := [.lit (.bool true)], args := ds, vars := gs })
    (hW : DataW.Whole enc P fn.params.toList s.vars apart W args.toList ds gs before) (hb : Below W.heap.size W W') : s.post enc P fn apart fresh false false W args (.bool true) W' := by
  have hW' := hW
  obtain ⟨p, q, hA, hV, rfl, hfz, hnd⟩ := hW
  refine ⟨ds, gs, _, [], p, q, hW', ?_, ?_, ?_, Below.frame hb _, fun h => by cases h⟩
  · rw [hfn, hres]; exact ⟨[], [], trod_bool htb, rfl, rfl⟩
  · rw [hfn]; exact trodAll_below hl hb hr hA
  · rw [hfn]; exact Below.trodVars hl hb hv hV
end
end Go.Proofs.YteiampdhhigjcaaGreatDoorV

/- A package-level variable whose datum is written out reads as its cells. -/
namespace Go.Proofs.YteiampdhhigjcaaGreatDoorV
open Go

section
variable {H : Type}
mutual
/-- The cells of a datum of numbers and strings. -/
def flatD : DataW H → Option (List PV)
  | .lit (.int k x) => some [.int k x]
  | .lit (.string s) => some [.str ⟨s.toArray⟩]
  | .agg ds => flatDs ds
  | _ => none
def flatDs : List (DataW H) → Option (List PV)
  | [] => some []
  | d :: r => (flatD d).bind fun a => (flatDs r).map fun b => a ++ b
end
def flatOk (P : Program) (S : List TypeId) (t : TypeId) : Bool :=
  match P.underlying t with
  | some (.int _) | some .string => P.cellsOf t == 1
  | some (.struct fs) => fs.toList.all (fun f => S.contains f.type) && contig P 0 fs.toList == some (P.cellsOf t)
  | some (.array n e) => S.contains e && P.cellsOf t == n * P.cellsOf e
  | _ => false
variable {enc : TypeId × Value → H} {P : Program} {S : List TypeId} {W : World} {sp : Nat → Bool} {hd : Bool}

theorem flat_fields {n : Nat} (ih : ∀ t ∈ S, ∀ (cs : List Value) (d : DataW H) (ps : List MemPlace), DataW.trod enc P W 0 sp hd n t cs = some (d, ps) → ∃ qs, flatD d = some qs ∧ CRep (memOf W) qs cs) (cs : List Value) :
    ∀ (fs : List Field) (o T : Nat) (xs : List (DataW H × List MemPlace)), contig P o fs = some T → (∀ f ∈ fs, f.type ∈ S) → fs.mapM (fun f => DataW.trod enc P W 0 sp hd n f.type ((cs.drop f.offset).take (P.cellsOf f.type))) = some xs → T ≤ cs.length →
    o ≤ T ∧ ∃ qs, flatDs (xs.map (·.1)) = some qs ∧ CRep (memOf W) qs ((cs.drop o).take (T - o))
  | [], o, T, xs, h, _, hx, _ => by
    simp only [contig, Option.some.injEq] at h; subst h
    simp at hx; subst hx
    exact ⟨Nat.le_refl _, [], rfl, by simp [CRep]⟩
  | f :: r, o, T, xs, h, hs, hx, hT => by
    simp only [contig] at h
    split at h
    · rename_i ho
      simp only [List.mapM_cons, Option.pure_def, Option.bind_eq_bind, Option.bind_eq_some_iff, Option.some.injEq] at hx
      obtain ⟨⟨d, p⟩, hd1, ys, hys, rfl⟩ := hx
      obtain ⟨h1, qs, h2, h3⟩ := flat_fields ih cs r _ T ys h (fun g hg => hs g (.tail _ hg)) hys hT
      obtain ⟨q, hq1, hq2⟩ := ih f.type (hs f (.head _)) _ d p hd1
      rw [ho] at hq2
      refine ⟨by omega, q ++ qs, by simp [flatDs, hq1, h2], ?_⟩
      have e1 : T - o = P.cellsOf f.type + (T - (o + P.cellsOf f.type)) := by omega
      rw [e1, List.take_add, List.drop_drop]
      exact hq2.app h3
    · simp at h
theorem flat_array {n : Nat} {e : TypeId} (ih : ∀ (cs : List Value) (d : DataW H) (ps : List MemPlace), DataW.trod enc P W 0 sp hd n e cs = some (d, ps) → ∃ qs, flatD d = some qs ∧ CRep (memOf W) qs cs) (cs : List Value) :
    ∀ (k o : Nat) (xs : List (DataW H × List MemPlace)), (List.range' o k).mapM (fun i => DataW.trod enc P W 0 sp hd n e ((cs.drop (i * P.cellsOf e)).take (P.cellsOf e))) = some xs → (o + k) * P.cellsOf e ≤ cs.length →
    ∃ qs, flatDs (xs.map (·.1)) = some qs ∧ CRep (memOf W) qs ((cs.drop (o * P.cellsOf e)).take (k * P.cellsOf e))
  | 0, o, xs, hx, _ => by
    simp at hx; subst hx
    exact ⟨[], rfl, by simp [CRep]⟩
  | k + 1, o, xs, hx, hT => by
    simp only [List.range'_succ, List.mapM_cons, Option.pure_def, Option.bind_eq_bind, Option.bind_eq_some_iff, Option.some.injEq] at hx
    obtain ⟨⟨d, p⟩, hd1, ys, hys, rfl⟩ := hx
    obtain ⟨qs, h2, h3⟩ := flat_array ih cs k (o + 1) ys hys (by rw [show o + 1 + k = o + (k + 1) by omega]; exact hT)
    obtain ⟨q, hq1, hq2⟩ := ih _ d p hd1
    refine ⟨q ++ qs, by simp [flatDs, hq1, h2], ?_⟩
    have e1 : (k + 1) * P.cellsOf e = P.cellsOf e + k * P.cellsOf e := by rw [Nat.add_mul]; omega
    rw [e1, List.take_add, List.drop_drop, show o * P.cellsOf e + P.cellsOf e = (o + 1) * P.cellsOf e by rw [Nat.add_mul]; omega]
    exact hq2.app h3
theorem trod_flat (hS : S.all (flatOk P S) = true) : ∀ (fuel : Nat) (t : TypeId), t ∈ S → ∀ (cs : List Value) (d : DataW H) (ps : List MemPlace), DataW.trod enc P W 0 sp hd fuel t cs = some (d, ps) → ∃ qs, flatD d = some qs ∧ CRep (memOf W) qs cs := by
  intro fuel
  induction fuel with
  | zero => intro t _ cs d ps h; simp [DataW.trod] at h
  | succ n ih =>
    intro t ht cs d ps h
    have hok : flatOk P S t = true := List.all_eq_true.1 hS t ht
    unfold DataW.trod at h
    unfold flatOk at hok
    cases hu : P.underlying t with
    | none => rw [hu] at hok; simp at hok
    | some td =>
    rw [hu] at hok h
    cases td <;> simp only [Bool.false_eq_true] at hok
    case int k =>
      split at h <;> first | (simp at h; done) | (rename_i hh; cases hh) | (exfalso; simp_all; done)
      rename_i k' x
      split at h
      · rename_i hk
        obtain ⟨rfl, hw⟩ := hk
        have hb : k'.min ≤ x ∧ x ≤ k'.max := by
          simp only [Lit.wf, Bool.and_eq_true, decide_eq_true_eq] at hw
          exact hw
        simp only [Option.some.injEq, Prod.mk.injEq] at h
        obtain ⟨rfl, rfl⟩ := h
        exact ⟨[.int k' x], by simp [flatD], .one (.int hb.1 hb.2) rfl⟩
      · simp at h
    case string =>
      split at h <;> first | (simp at h; done) | (rename_i hh; cases hh) | (exfalso; simp_all; done)
      rename_i s
      split at h
      · rename_i hs
        simp only [Option.some.injEq, Prod.mk.injEq] at h
        obtain ⟨rfl, rfl⟩ := h
        exact ⟨[.str s], by simp [flatD], .one (.str hs) rfl⟩
      · simp at h
    case struct fs =>
      simp only [Bool.and_eq_true, beq_iff_eq, List.all_eq_true, List.contains_iff_mem] at hok
      split at h <;> first | (simp at h; done) | (rename_i hh; cases hh) | (exfalso; simp_all; done)
      split at h
      · rename_i hlen
        simp only [Option.map_eq_some_iff, Prod.mk.injEq] at h
        obtain ⟨xs, hxs, rfl, -⟩ := h
        obtain ⟨-, qs, h2, h3⟩ := flat_fields (fun t ht cs d ps h => ih t ht cs d ps h) _ fs.toList 0 _ xs hok.2 hok.1 hxs (by omega)
        rw [List.drop_zero, Nat.sub_zero, List.take_of_length_le (by omega)] at h3
        exact ⟨qs, by rw [flatD]; exact h2, h3⟩
      · simp at h
    case array k e =>
      simp only [Bool.and_eq_true, beq_iff_eq, List.contains_iff_mem] at hok
      split at h <;> first | (simp at h; done) | (rename_i hh; cases hh) | (exfalso; simp_all; done)
      split at h
      · rename_i hlen
        simp only [Option.map_eq_some_iff, Prod.mk.injEq] at h
        obtain ⟨xs, hxs, rfl, -⟩ := h
        rw [List.range_eq_range'] at hxs
        obtain ⟨qs, h2, h3⟩ := flat_array (fun cs d ps h => ih e hok.1 cs d ps h) _ k 0 xs hxs (by rw [hlen, hok.2, Nat.zero_add]; exact Nat.le_refl _)
        rw [Nat.zero_mul, List.drop_zero, List.take_of_length_le (by rw [hlen, hok.2]; exact Nat.le_refl _)] at h3
        exact ⟨qs, by rw [flatD]; exact h2, h3⟩
      · simp at h
end
/-- One variable, of which a condition says what it holds. -/
theorem laid_one {P : Program} {S : List TypeId} {W : World} {x : String} {g : Nat} {t : TypeId} {D : DataW Unit} {qs : List PV} (hS : S.all (flatOk P S) = true) (hg : P.globalNamed x = some g) (ht : (P.globals[g]?).map (·.type) = some t) (hm : t ∈ S) (hD : flatD D = some qs)
    (h : laidMet P [(x, D)] W) : ∀ (j : Nat) (c : PV), qs[j]? = some c → c.one = true ∧ ∃ v, memOf W g j = some v ∧ PRep (memOf W) c v := by
  obtain ⟨ps, ⟨g', t', cs, fuel, p, q, hg', ht', hvar, hd, _, _⟩, _⟩ := h
  obtain rfl := Option.some.inj (hg.symm.trans hg')
  obtain rfl := Option.some.inj (ht.symm.trans ht')
  obtain ⟨qs', h1, h2⟩ := trod_flat hS fuel t hm _ _ _ hd
  obtain rfl := Option.some.inj (hD.symm.trans h1)
  intro j c hc
  refine ⟨h2.2.1 c (List.mem_of_getElem? hc), ?_⟩
  have hj : j < qs.length := (List.getElem?_eq_some_iff.1 hc).1
  have hjc : j < cs.toList.length := by rw [← h2.1]; exact hj
  refine ⟨cs.toList[j], ?_, h2.2.2 j c _ hc (List.getElem?_eq_getElem hjc)⟩
  unfold memOf
  rw [World.var?_cell hg hvar j]
  simp at hjc
  simp [hjc]
end Go.Proofs.YteiampdhhigjcaaGreatDoorV
