/- Packed: Ec Eb Ed Me Mw Mx Tf Tg Ja Pg Tc Cl Cm Pc Cn Co Cp Cq -/
import Derived.Test.YthocoandbiaoiaaDoorBytes1
import Derived.Test.YthocoandbiaoiaaDoorProg
import Derived.KernelRfl
import Derived.OpenVars
import Derived.JoinedOf
import Derived.RowKit
import Derived.RowKitTokens
import Derived.LaidLaws
import Derived.FnData
import Derived.Test.YthocoandbiaoiaaDoorTie
import Derived.Test.YthocoandbiaoiaaDoorCards
import Derived.Lay
import Derived.Carry
import Derived.SevenTiedAt
set_option linter.all false
namespace Go.Proofs.YthocoandbiaoiaaDoorV
open Go
set_option maxRecDepth 100000
set_option maxHeartbeats 4000000
theorem co_api_MachBank : Tryd.prog.cellsOf 70 = 2 := by kernel_rfl
theorem co_api_MachEffect : Tryd.prog.cellsOf 79 = 21 := by kernel_rfl
theorem co_api_MachInstr : Tryd.prog.cellsOf 48 = 9 := by kernel_rfl
theorem co_api_MachOperand : Tryd.prog.cellsOf 73 = 6 := by kernel_rfl
theorem co_api_MachPiece : Tryd.prog.cellsOf 95 = 2 := by kernel_rfl
theorem co_api_MachReg : Tryd.prog.cellsOf 115 = 4 := by kernel_rfl
theorem co_api_MachUnit : Tryd.prog.cellsOf 117 = 2 := by kernel_rfl
theorem co_api_Machine : Tryd.prog.cellsOf 27 = 7 := by kernel_rfl
theorem co_api_Term : Tryd.prog.cellsOf 77 = 6 := by kernel_rfl
theorem co_int : Tryd.prog.cellsOf 3 = 1 := by kernel_rfl
theorem co_sl_api_MachBank : Tryd.prog.cellsOf 23 = 1 := by kernel_rfl
theorem co_sl_api_MachEffect : Tryd.prog.cellsOf 46 = 1 := by kernel_rfl
theorem co_sl_api_MachInstr : Tryd.prog.cellsOf 25 = 1 := by kernel_rfl
theorem co_sl_api_MachOperand : Tryd.prog.cellsOf 45 = 1 := by kernel_rfl
theorem co_sl_api_MachPiece : Tryd.prog.cellsOf 71 = 1 := by kernel_rfl
theorem co_sl_api_MachReg : Tryd.prog.cellsOf 22 = 1 := by kernel_rfl
theorem co_sl_api_MachUnit : Tryd.prog.cellsOf 24 = 1 := by kernel_rfl
theorem co_sl_api_Term : Tryd.prog.cellsOf 75 = 1 := by kernel_rfl
theorem co_sl_int : Tryd.prog.cellsOf 50 = 1 := by kernel_rfl
theorem co_string : Tryd.prog.cellsOf 9 = 1 := by kernel_rfl
theorem co_uint64 : Tryd.prog.cellsOf 37 = 1 := by kernel_rfl
theorem co_uint8 : Tryd.prog.cellsOf 5 = 1 := by kernel_rfl
theorem dec_Tm : ∀ (n : Nat) (qs : List PV), PTy Tryd.prog n 77 qs → ∃ x : Tm, x.pv = .agg qs := by
  intro n
  induction n using Nat.strongRecOn with
  | _ n ih =>
  intro qs h
  obtain ⟨k, hk, hl, hf⟩ := PTy.struct Tryd.underlying77 h
  rw [co_api_Term] at hl
  simp only [List.mem_cons, List.not_mem_nil, or_false, forall_eq_or_imp, forall_eq, co_int, co_sl_api_Term, co_string, co_uint64, co_uint8] at hf
  obtain ⟨h0, h1, h2, h3, h4, h5⟩ := hf
  match qs, hl with
  | [q0, q1, q2, q3, q4, q5], _ =>
    have h0 : PTy Tryd.prog k 5 [q0] := h0
    obtain ⟨x0, e0⟩ := PTy.int Tryd.underlying5 h0
    injection e0 with e0
    subst e0
    have h1 : PTy Tryd.prog k 3 [q1] := h1
    obtain ⟨x1, e1⟩ := PTy.int Tryd.underlying3 h1
    injection e1 with e1
    subst e1
    have h2 : PTy Tryd.prog k 37 [q2] := h2
    obtain ⟨x2, e2⟩ := PTy.int Tryd.underlying37 h2
    injection e2 with e2
    subst e2
    have h3 : PTy Tryd.prog k 9 [q3] := h3
    obtain ⟨x3, e3⟩ := PTy.str Tryd.underlying9 h3
    injection e3 with e3
    subst e3
    have h4 : PTy Tryd.prog k 3 [q4] := h4
    obtain ⟨x4, e4⟩ := PTy.int Tryd.underlying3 h4
    injection e4 with e4
    subst e4
    have h5 : PTy Tryd.prog k 75 [q5] := h5
    obtain ⟨x5, e5⟩ := PTy.rows Tm.pv Tryd.underlying75 co_api_Term (by simp [rowT, Tryd.underlying77, TypeDesc.isRow]) (fun j hj qs hq => ih j (by omega) qs hq) h5
    injection e5 with e5
    subst e5
    exact ⟨⟨x0, x1, x2, x3, x4, x5⟩, by rw [Tm.pv_eq]⟩
theorem dec_Reg : ∀ (n : Nat) (qs : List PV), PTy Tryd.prog n 115 qs → ∃ x : Reg, x.pv = .agg qs := by
  intro n qs h
  obtain ⟨k, hk, hl, hf⟩ := PTy.struct Tryd.underlying115 h
  rw [co_api_MachReg] at hl
  simp only [List.mem_cons, List.not_mem_nil, or_false, forall_eq_or_imp, forall_eq, co_int, co_string] at hf
  obtain ⟨h0, h1, h2, h3⟩ := hf
  match qs, hl with
  | [q0, q1, q2, q3], _ =>
    have h0 : PTy Tryd.prog k 9 [q0] := h0
    obtain ⟨x0, e0⟩ := PTy.str Tryd.underlying9 h0
    injection e0 with e0
    subst e0
    have h1 : PTy Tryd.prog k 3 [q1] := h1
    obtain ⟨x1, e1⟩ := PTy.int Tryd.underlying3 h1
    injection e1 with e1
    subst e1
    have h2 : PTy Tryd.prog k 3 [q2] := h2
    obtain ⟨x2, e2⟩ := PTy.int Tryd.underlying3 h2
    injection e2 with e2
    subst e2
    have h3 : PTy Tryd.prog k 3 [q3] := h3
    obtain ⟨x3, e3⟩ := PTy.int Tryd.underlying3 h3
    injection e3 with e3
    subst e3
    exact ⟨⟨x0, x1, x2, x3⟩, by rw [Reg.pv_eq]⟩
theorem dec_Bank : ∀ (n : Nat) (qs : List PV), PTy Tryd.prog n 70 qs → ∃ x : Bank, x.pv = .agg qs := by
  intro n qs h
  obtain ⟨k, hk, hl, hf⟩ := PTy.struct Tryd.underlying70 h
  rw [co_api_MachBank] at hl
  simp only [List.mem_cons, List.not_mem_nil, or_false, forall_eq_or_imp, forall_eq, co_sl_int, co_string] at hf
  obtain ⟨h0, h1⟩ := hf
  match qs, hl with
  | [q0, q1], _ =>
    have h0 : PTy Tryd.prog k 9 [q0] := h0
    obtain ⟨x0, e0⟩ := PTy.str Tryd.underlying9 h0
    injection e0 with e0
    subst e0
    have h1 : PTy Tryd.prog k 50 [q1] := h1
    obtain ⟨x1, e1⟩ := PTy.ints Tryd.underlying50 co_int Tryd.underlying3 h1
    injection e1 with e1
    subst e1
    exact ⟨⟨x0, x1⟩, by rw [Bank.pv_eq]; rfl⟩
theorem dec_Unt : ∀ (n : Nat) (qs : List PV), PTy Tryd.prog n 117 qs → ∃ x : Unt, x.pv = .agg qs := by
  intro n qs h
  obtain ⟨k, hk, hl, hf⟩ := PTy.struct Tryd.underlying117 h
  rw [co_api_MachUnit] at hl
  simp only [List.mem_cons, List.not_mem_nil, or_false, forall_eq_or_imp, forall_eq, co_int, co_string] at hf
  obtain ⟨h0, h1⟩ := hf
  match qs, hl with
  | [q0, q1], _ =>
    have h0 : PTy Tryd.prog k 9 [q0] := h0
    obtain ⟨x0, e0⟩ := PTy.str Tryd.underlying9 h0
    injection e0 with e0
    subst e0
    have h1 : PTy Tryd.prog k 3 [q1] := h1
    obtain ⟨x1, e1⟩ := PTy.int Tryd.underlying3 h1
    injection e1 with e1
    subst e1
    exact ⟨⟨x0, x1⟩, by rw [Unt.pv_eq]⟩
theorem dec_Piece : ∀ (n : Nat) (qs : List PV), PTy Tryd.prog n 95 qs → ∃ x : Piece, x.pv = .agg qs := by
  intro n qs h
  obtain ⟨k, hk, hl, hf⟩ := PTy.struct Tryd.underlying95 h
  rw [co_api_MachPiece] at hl
  simp only [List.mem_cons, List.not_mem_nil, or_false, forall_eq_or_imp, forall_eq, co_int] at hf
  obtain ⟨h0, h1⟩ := hf
  match qs, hl with
  | [q0, q1], _ =>
    have h0 : PTy Tryd.prog k 3 [q0] := h0
    obtain ⟨x0, e0⟩ := PTy.int Tryd.underlying3 h0
    injection e0 with e0
    subst e0
    have h1 : PTy Tryd.prog k 3 [q1] := h1
    obtain ⟨x1, e1⟩ := PTy.int Tryd.underlying3 h1
    injection e1 with e1
    subst e1
    exact ⟨⟨x0, x1⟩, by rw [Piece.pv_eq]⟩
theorem dec_Opnd : ∀ (n : Nat) (qs : List PV), PTy Tryd.prog n 73 qs → ∃ x : Opnd, x.pv = .agg qs := by
  intro n qs h
  obtain ⟨k, hk, hl, hf⟩ := PTy.struct Tryd.underlying73 h
  rw [co_api_MachOperand] at hl
  simp only [List.mem_cons, List.not_mem_nil, or_false, forall_eq_or_imp, forall_eq, co_int, co_sl_api_MachPiece, co_string, co_uint8] at hf
  obtain ⟨h0, h1, h2, h3, h4, h5⟩ := hf
  match qs, hl with
  | [q0, q1, q2, q3, q4, q5], _ =>
    have h0 : PTy Tryd.prog k 9 [q0] := h0
    obtain ⟨x0, e0⟩ := PTy.str Tryd.underlying9 h0
    injection e0 with e0
    subst e0
    have h1 : PTy Tryd.prog k 5 [q1] := h1
    obtain ⟨x1, e1⟩ := PTy.int Tryd.underlying5 h1
    injection e1 with e1
    subst e1
    have h2 : PTy Tryd.prog k 3 [q2] := h2
    obtain ⟨x2, e2⟩ := PTy.int Tryd.underlying3 h2
    injection e2 with e2
    subst e2
    have h3 : PTy Tryd.prog k 3 [q3] := h3
    obtain ⟨x3, e3⟩ := PTy.int Tryd.underlying3 h3
    injection e3 with e3
    subst e3
    have h4 : PTy Tryd.prog k 71 [q4] := h4
    obtain ⟨x4, e4⟩ := PTy.rows Piece.pv Tryd.underlying71 co_api_MachPiece (by simp [rowT, Tryd.underlying95, TypeDesc.isRow]) (fun j hj qs hq => dec_Piece j qs hq) h4
    injection e4 with e4
    subst e4
    have h5 : PTy Tryd.prog k 3 [q5] := h5
    obtain ⟨x5, e5⟩ := PTy.int Tryd.underlying3 h5
    injection e5 with e5
    subst e5
    exact ⟨⟨x0, x1, x2, x3, x4, x5⟩, by rw [Opnd.pv_eq]⟩
theorem dec_Eff : ∀ (n : Nat) (qs : List PV), PTy Tryd.prog n 79 qs → ∃ x : Eff, x.pv = .agg qs := by
  intro n qs h
  obtain ⟨k, hk, hl, hf⟩ := PTy.struct Tryd.underlying79 h
  rw [co_api_MachEffect] at hl
  simp only [List.mem_cons, List.not_mem_nil, or_false, forall_eq_or_imp, forall_eq, co_api_Term, co_int, co_uint8] at hf
  obtain ⟨h0, h1, h2, h3, h4, h5⟩ := hf
  match qs, hl with
  | [q0, q1, q2, q3, q4, q5, q6, q7, q8, q9, q10, q11, q12, q13, q14, q15, q16, q17, q18, q19, q20], _ =>
    have h0 : PTy Tryd.prog k 5 [q0] := h0
    obtain ⟨x0, e0⟩ := PTy.int Tryd.underlying5 h0
    injection e0 with e0
    subst e0
    have h1 : PTy Tryd.prog k 3 [q1] := h1
    obtain ⟨x1, e1⟩ := PTy.int Tryd.underlying3 h1
    injection e1 with e1
    subst e1
    have h2 : PTy Tryd.prog k 3 [q2] := h2
    obtain ⟨x2, e2⟩ := PTy.int Tryd.underlying3 h2
    injection e2 with e2
    subst e2
    have h3 : PTy Tryd.prog k 77 [q3, q4, q5, q6, q7, q8] := h3
    obtain ⟨x3, e3⟩ := dec_Tm _ _ h3
    rw [Tm.pv_eq] at e3
    injection e3 with e3
    simp only [List.cons.injEq, and_true] at e3
    obtain ⟨rfl, rfl, rfl, rfl, rfl, rfl⟩ := e3
    have h4 : PTy Tryd.prog k 77 [q9, q10, q11, q12, q13, q14] := h4
    obtain ⟨x4, e4⟩ := dec_Tm _ _ h4
    rw [Tm.pv_eq] at e4
    injection e4 with e4
    simp only [List.cons.injEq, and_true] at e4
    obtain ⟨rfl, rfl, rfl, rfl, rfl, rfl⟩ := e4
    have h5 : PTy Tryd.prog k 77 [q15, q16, q17, q18, q19, q20] := h5
    obtain ⟨x5, e5⟩ := dec_Tm _ _ h5
    rw [Tm.pv_eq] at e5
    injection e5 with e5
    simp only [List.cons.injEq, and_true] at e5
    obtain ⟨rfl, rfl, rfl, rfl, rfl, rfl⟩ := e5
    exact ⟨⟨x0, x1, x2, x3, x4, x5⟩, by rw [Eff.pv_eq]⟩
theorem dec_Ins_ : ∀ (n : Nat) (qs : List PV), PTy Tryd.prog n 48 qs → ∃ x : Ins_, x.pv = .agg qs := by
  intro n qs h
  obtain ⟨k, hk, hl, hf⟩ := PTy.struct Tryd.underlying48 h
  rw [co_api_MachInstr] at hl
  simp only [List.mem_cons, List.not_mem_nil, or_false, forall_eq_or_imp, forall_eq, co_int, co_sl_api_MachEffect, co_sl_api_MachOperand, co_string, co_uint64] at hf
  obtain ⟨h0, h1, h2, h3, h4, h5, h6, h7, h8⟩ := hf
  match qs, hl with
  | [q0, q1, q2, q3, q4, q5, q6, q7, q8], _ =>
    have h0 : PTy Tryd.prog k 9 [q0] := h0
    obtain ⟨x0, e0⟩ := PTy.str Tryd.underlying9 h0
    injection e0 with e0
    subst e0
    have h1 : PTy Tryd.prog k 37 [q1] := h1
    obtain ⟨x1, e1⟩ := PTy.int Tryd.underlying37 h1
    injection e1 with e1
    subst e1
    have h2 : PTy Tryd.prog k 37 [q2] := h2
    obtain ⟨x2, e2⟩ := PTy.int Tryd.underlying37 h2
    injection e2 with e2
    subst e2
    have h3 : PTy Tryd.prog k 45 [q3] := h3
    obtain ⟨x3, e3⟩ := PTy.rows Opnd.pv Tryd.underlying45 co_api_MachOperand (by simp [rowT, Tryd.underlying73, TypeDesc.isRow]) (fun j hj qs hq => dec_Opnd j qs hq) h3
    injection e3 with e3
    subst e3
    have h4 : PTy Tryd.prog k 46 [q4] := h4
    obtain ⟨x4, e4⟩ := PTy.rows Eff.pv Tryd.underlying46 co_api_MachEffect (by simp [rowT, Tryd.underlying79, TypeDesc.isRow]) (fun j hj qs hq => dec_Eff j qs hq) h4
    injection e4 with e4
    subst e4
    have h5 : PTy Tryd.prog k 3 [q5] := h5
    obtain ⟨x5, e5⟩ := PTy.int Tryd.underlying3 h5
    injection e5 with e5
    subst e5
    have h6 : PTy Tryd.prog k 3 [q6] := h6
    obtain ⟨x6, e6⟩ := PTy.int Tryd.underlying3 h6
    injection e6 with e6
    subst e6
    have h7 : PTy Tryd.prog k 3 [q7] := h7
    obtain ⟨x7, e7⟩ := PTy.int Tryd.underlying3 h7
    injection e7 with e7
    subst e7
    have h8 : PTy Tryd.prog k 3 [q8] := h8
    obtain ⟨x8, e8⟩ := PTy.int Tryd.underlying3 h8
    injection e8 with e8
    subst e8
    exact ⟨⟨x0, x1, x2, x3, x4, x5, x6, x7, x8⟩, by rw [Ins_.pv_eq]⟩
theorem dec_Mach : ∀ (n : Nat) (qs : List PV), PTy Tryd.prog n 27 qs → ∃ x : Mach, x.pv = .agg qs := by
  intro n qs h
  obtain ⟨k, hk, hl, hf⟩ := PTy.struct Tryd.underlying27 h
  rw [co_api_Machine] at hl
  simp only [List.mem_cons, List.not_mem_nil, or_false, forall_eq_or_imp, forall_eq, co_int, co_sl_api_MachBank, co_sl_api_MachInstr, co_sl_api_MachReg, co_sl_api_MachUnit, co_string] at hf
  obtain ⟨h0, h1, h2, h3, h4, h5, h6⟩ := hf
  match qs, hl with
  | [q0, q1, q2, q3, q4, q5, q6], _ =>
    have h0 : PTy Tryd.prog k 9 [q0] := h0
    obtain ⟨x0, e0⟩ := PTy.str Tryd.underlying9 h0
    injection e0 with e0
    subst e0
    have h1 : PTy Tryd.prog k 3 [q1] := h1
    obtain ⟨x1, e1⟩ := PTy.int Tryd.underlying3 h1
    injection e1 with e1
    subst e1
    have h2 : PTy Tryd.prog k 3 [q2] := h2
    obtain ⟨x2, e2⟩ := PTy.int Tryd.underlying3 h2
    injection e2 with e2
    subst e2
    have h3 : PTy Tryd.prog k 22 [q3] := h3
    obtain ⟨x3, e3⟩ := PTy.rows Reg.pv Tryd.underlying22 co_api_MachReg (by simp [rowT, Tryd.underlying115, TypeDesc.isRow]) (fun j hj qs hq => dec_Reg j qs hq) h3
    injection e3 with e3
    subst e3
    have h4 : PTy Tryd.prog k 23 [q4] := h4
    obtain ⟨x4, e4⟩ := PTy.rows Bank.pv Tryd.underlying23 co_api_MachBank (by simp [rowT, Tryd.underlying70, TypeDesc.isRow]) (fun j hj qs hq => dec_Bank j qs hq) h4
    injection e4 with e4
    subst e4
    have h5 : PTy Tryd.prog k 24 [q5] := h5
    obtain ⟨x5, e5⟩ := PTy.rows Unt.pv Tryd.underlying24 co_api_MachUnit (by simp [rowT, Tryd.underlying117, TypeDesc.isRow]) (fun j hj qs hq => dec_Unt j qs hq) h5
    injection e5 with e5
    subst e5
    have h6 : PTy Tryd.prog k 25 [q6] := h6
    obtain ⟨x6, e6⟩ := PTy.rows Ins_.pv Tryd.underlying25 co_api_MachInstr (by simp [rowT, Tryd.underlying48, TypeDesc.isRow]) (fun j hj qs hq => dec_Ins_ j qs hq) h6
    injection e6 with e6
    subst e6
    exact ⟨⟨x0, x1, x2, x3, x4, x5, x6⟩, by rw [Mach.pv_eq]⟩
end Go.Proofs.YthocoandbiaoiaaDoorV

namespace Go.Proofs.YthocoandbiaoiaaDoorV
open Go Go.RowKit
section
variable {H : Type} {enc : TypeId × Value → H} {P : Program} {W W' : World}
theorem trodAll_below (hl : laidOutB P = true) (hb : Below W.heap.size W W') : ∀ {ts : List TypeId} {vs : List Value} {ds : List (DataW H)} {ps : List MemPlace},
    (ts.all fun t => P.readableRec t && decide (t < P.types.size)) = true → DataW.TrodAll enc P W 0 (fun _ => true) true ts vs ds ps → DataW.TrodAll enc P W' 0 (fun b => decide (b < W.heap.size)) true ts vs ds ps
  | [], [], [], _, _, h => h
  | t :: ts, v :: vs, d :: ds, ps, hr, h => by
    have hlt := h.lt
    obtain ⟨p, q, h1, h2, e⟩ := h
    simp only [List.all_cons, Bool.and_eq_true, decide_eq_true_eq] at hr
    exact ⟨p, q, Below.trod hl hr.1.1 hr.1.2 h1 hb (fun x hx => hlt x (by rw [e]; simp [hx])), trodAll_below hl hb (by simpa using hr.2) h2, e⟩
  | [], [], _ :: _, _, _, h => h.elim
  | [], _ :: _, _, _, _, h => h.elim
  | _ :: _, [], _, _, _, h => h.elim
  | _ :: _, _ :: _, [], _, _, h => h.elim
theorem trod_bool {t : TypeId} (ht : P.underlying t = some .bool) {base : Nat} {sp : Nat → Bool} {held b : Bool} : DataW.Trod enc P W base sp held t (.bool b) (.lit (.bool b)) [] := ⟨1, by simp [DataW.trod, Value.cells, ht]⟩
theorem law_post {fn : Func} {s : ChangeSpec} {apart fresh : Bool} {tb : TypeId} (hl : laidOutB P = true) (hr : (fn.params.toList.all fun t => P.readableRec t && decide (t < P.types.size)) = true) (hv : varsRowed P s.vars = true)
    (hres : fn.resultTypes = #[tb]) (htb : P.underlying tb = some .bool) {args : Array Value} {ds gs : List (DataW H)} {before : List MemPlace}
    (hfn : s.fn H (ds ++ gs) = { results := [.lit (.bool true)], args := ds, vars := gs })
    (hW : DataW.Whole enc P fn.params.toList s.vars apart W args.toList ds gs before) (hb : Below W.heap.size W W') : s.post enc P fn apart fresh false false W args (.bool true) W' := by
  have hW' := hW
  obtain ⟨p, q, hA, hV, rfl, hfz, hnd⟩ := hW
  refine ⟨ds, gs, _, [], p, q, hW', ?_, ?_, ?_, Below.frame hb _, fun h => by cases h⟩
  · rw [hfn, hres]; exact ⟨[], [], trod_bool htb, rfl, rfl⟩
  · rw [hfn]; exact trodAll_below hl hb hr hA
  · rw [hfn]; exact Below.trodVars hl hb hv hV
end
end Go.Proofs.YthocoandbiaoiaaDoorV

namespace Go.Proofs.YthocoandbiaoiaaDoorV
open Go
section
variable {H : Type}
mutual
def flatD : DataW H → Option (List PV)
  | .lit (.int k x) => some [.int k x]
  | .lit (.string s) => some [.str ⟨s.toArray⟩]
  | .agg ds => flatDs ds
  | _ => none
def flatDs : List (DataW H) → Option (List PV)
  | [] => some []
  | d :: r => (flatD d).bind fun a => (flatDs r).map fun b => a ++ b
end
def flatOk (P : Program) (S : List TypeId) (t : TypeId) : Bool :=
  match P.underlying t with
  | some (.int _) | some .string => P.cellsOf t == 1
  | some (.struct fs) => fs.toList.all (fun f => S.contains f.type) && contig P 0 fs.toList == some (P.cellsOf t)
  | some (.array n e) => S.contains e && P.cellsOf t == n * P.cellsOf e
  | _ => false
variable {enc : TypeId × Value → H} {P : Program} {S : List TypeId} {W : World} {sp : Nat → Bool} {hd : Bool}
theorem flat_fields {n : Nat} (ih : ∀ t ∈ S, ∀ (cs : List Value) (d : DataW H) (ps : List MemPlace), DataW.trod enc P W 0 sp hd n t cs = some (d, ps) → ∃ qs, flatD d = some qs ∧ CRep (memOf W) qs cs) (cs : List Value) :
    ∀ (fs : List Field) (o T : Nat) (xs : List (DataW H × List MemPlace)), contig P o fs = some T → (∀ f ∈ fs, f.type ∈ S) → fs.mapM (fun f => DataW.trod enc P W 0 sp hd n f.type ((cs.drop f.offset).take (P.cellsOf f.type))) = some xs → T ≤ cs.length →
    o ≤ T ∧ ∃ qs, flatDs (xs.map (·.1)) = some qs ∧ CRep (memOf W) qs ((cs.drop o).take (T - o))
  | [], o, T, xs, h, _, hx, _ => by
    simp only [contig, Option.some.injEq] at h; subst h
    simp at hx; subst hx
    exact ⟨Nat.le_refl _, [], rfl, by simp [CRep]⟩
  | f :: r, o, T, xs, h, hs, hx, hT => by
    simp only [contig] at h
    split at h
    · rename_i ho
      simp only [List.mapM_cons, Option.pure_def, Option.bind_eq_bind, Option.bind_eq_some_iff, Option.some.injEq] at hx
      obtain ⟨⟨d, p⟩, hd1, ys, hys, rfl⟩ := hx
      obtain ⟨h1, qs, h2, h3⟩ := flat_fields ih cs r _ T ys h (fun g hg => hs g (.tail _ hg)) hys hT
      obtain ⟨q, hq1, hq2⟩ := ih f.type (hs f (.head _)) _ d p hd1
      rw [ho] at hq2
      refine ⟨by omega, q ++ qs, by simp [flatDs, hq1, h2], ?_⟩
      have e1 : T - o = P.cellsOf f.type + (T - (o + P.cellsOf f.type)) := by omega
      rw [e1, List.take_add, List.drop_drop]
      exact hq2.app h3
    · simp at h
theorem flat_array {n : Nat} {e : TypeId} (ih : ∀ (cs : List Value) (d : DataW H) (ps : List MemPlace), DataW.trod enc P W 0 sp hd n e cs = some (d, ps) → ∃ qs, flatD d = some qs ∧ CRep (memOf W) qs cs) (cs : List Value) :
    ∀ (k o : Nat) (xs : List (DataW H × List MemPlace)), (List.range' o k).mapM (fun i => DataW.trod enc P W 0 sp hd n e ((cs.drop (i * P.cellsOf e)).take (P.cellsOf e))) = some xs → (o + k) * P.cellsOf e ≤ cs.length →
    ∃ qs, flatDs (xs.map (·.1)) = some qs ∧ CRep (memOf W) qs ((cs.drop (o * P.cellsOf e)).take (k * P.cellsOf e))
  | 0, o, xs, hx, _ => by
    simp at hx; subst hx
    exact ⟨[], rfl, by simp [CRep]⟩
  | k + 1, o, xs, hx, hT => by
    simp only [List.range'_succ, List.mapM_cons, Option.pure_def, Option.bind_eq_bind, Option.bind_eq_some_iff, Option.some.injEq] at hx
    obtain ⟨⟨d, p⟩, hd1, ys, hys, rfl⟩ := hx
    obtain ⟨qs, h2, h3⟩ := flat_array ih cs k (o + 1) ys hys (by rw [show o + 1 + k = o + (k + 1) by omega]; exact hT)
    obtain ⟨q, hq1, hq2⟩ := ih _ d p hd1
    refine ⟨q ++ qs, by simp [flatDs, hq1, h2], ?_⟩
    have e1 : (k + 1) * P.cellsOf e = P.cellsOf e + k * P.cellsOf e := by rw [Nat.add_mul]; omega
    rw [e1, List.take_add, List.drop_drop, show o * P.cellsOf e + P.cellsOf e = (o + 1) * P.cellsOf e by rw [Nat.add_mul]; omega]
    exact hq2.app h3
theorem trod_flat (hS : S.all (flatOk P S) = true) : ∀ (fuel : Nat) (t : TypeId), t ∈ S → ∀ (cs : List Value) (d : DataW H) (ps : List MemPlace), DataW.trod enc P W 0 sp hd fuel t cs = some (d, ps) → ∃ qs, flatD d = some qs ∧ CRep (memOf W) qs cs := by
  intro fuel
  induction fuel with
  | zero => intro t _ cs d ps h; simp [DataW.trod] at h
  | succ n ih =>
    intro t ht cs d ps h
    have hok : flatOk P S t = true := List.all_eq_true.1 hS t ht
    unfold DataW.trod at h
    unfold flatOk at hok
    cases hu : P.underlying t with
    | none => rw [hu] at hok; simp at hok
    | some td =>
    rw [hu] at hok h
    cases td <;> simp only [Bool.false_eq_true] at hok
    case int k =>
      split at h <;> first | (simp at h; done) | (rename_i hh; cases hh) | (exfalso; simp_all; done)
      rename_i k' x
      split at h
      · rename_i hk
        obtain ⟨rfl, hw⟩ := hk
        have hb : k'.min ≤ x ∧ x ≤ k'.max := by
          simp only [Lit.wf, Bool.and_eq_true, decide_eq_true_eq] at hw
          exact hw
        simp only [Option.some.injEq, Prod.mk.injEq] at h
        obtain ⟨rfl, rfl⟩ := h
        exact ⟨[.int k' x], by simp [flatD], .one (.int hb.1 hb.2) rfl⟩
      · simp at h
    case string =>
      split at h <;> first | (simp at h; done) | (rename_i hh; cases hh) | (exfalso; simp_all; done)
      rename_i s
      split at h
      · rename_i hs
        simp only [Option.some.injEq, Prod.mk.injEq] at h
        obtain ⟨rfl, rfl⟩ := h
        exact ⟨[.str s], by simp [flatD], .one (.str hs) rfl⟩
      · simp at h
    case struct fs =>
      simp only [Bool.and_eq_true, beq_iff_eq, List.all_eq_true, List.contains_iff_mem] at hok
      split at h <;> first | (simp at h; done) | (rename_i hh; cases hh) | (exfalso; simp_all; done)
      split at h
      · rename_i hlen
        simp only [Option.map_eq_some_iff, Prod.mk.injEq] at h
        obtain ⟨xs, hxs, rfl, -⟩ := h
        obtain ⟨-, qs, h2, h3⟩ := flat_fields (fun t ht cs d ps h => ih t ht cs d ps h) _ fs.toList 0 _ xs hok.2 hok.1 hxs (by omega)
        rw [List.drop_zero, Nat.sub_zero, List.take_of_length_le (by omega)] at h3
        exact ⟨qs, by rw [flatD]; exact h2, h3⟩
      · simp at h
    case array k e =>
      simp only [Bool.and_eq_true, beq_iff_eq, List.contains_iff_mem] at hok
      split at h <;> first | (simp at h; done) | (rename_i hh; cases hh) | (exfalso; simp_all; done)
      split at h
      · rename_i hlen
        simp only [Option.map_eq_some_iff, Prod.mk.injEq] at h
        obtain ⟨xs, hxs, rfl, -⟩ := h
        rw [List.range_eq_range'] at hxs
        obtain ⟨qs, h2, h3⟩ := flat_array (fun cs d ps h => ih e hok.1 cs d ps h) _ k 0 xs hxs (by rw [hlen, hok.2, Nat.zero_add]; exact Nat.le_refl _)
        rw [Nat.zero_mul, List.drop_zero, List.take_of_length_le (by rw [hlen, hok.2]; exact Nat.le_refl _)] at h3
        exact ⟨qs, by rw [flatD]; exact h2, h3⟩
      · simp at h
end
theorem laid_one {P : Program} {S : List TypeId} {W : World} {x : String} {g : Nat} {t : TypeId} {D : DataW Unit} {qs : List PV} (hS : S.all (flatOk P S) = true) (hg : P.globalNamed x = some g) (ht : (P.globals[g]?).map (·.type) = some t) (hm : t ∈ S) (hD : flatD D = some qs)
    (h : laidMet P [(x, D)] W) : ∀ (j : Nat) (c : PV), qs[j]? = some c → c.one = true ∧ ∃ v, memOf W g j = some v ∧ PRep (memOf W) c v := by
  obtain ⟨ps, ⟨g', t', cs, fuel, p, q, hg', ht', hvar, hd, _, _⟩, _⟩ := h
  obtain rfl := Option.some.inj (hg.symm.trans hg')
  obtain rfl := Option.some.inj (ht.symm.trans ht')
  obtain ⟨qs', h1, h2⟩ := trod_flat hS fuel t hm _ _ _ hd
  obtain rfl := Option.some.inj (hD.symm.trans h1)
  intro j c hc
  refine ⟨h2.2.1 c (List.mem_of_getElem? hc), ?_⟩
  have hj : j < qs.length := (List.getElem?_eq_some_iff.1 hc).1
  have hjc : j < cs.toList.length := by rw [← h2.1]; exact hj
  refine ⟨cs.toList[j], ?_, h2.2.2 j c _ hc (List.getElem?_eq_getElem hjc)⟩
  unfold memOf
  rw [World.var?_cell hg hvar j]
  simp at hjc
  simp [hjc]
end Go.Proofs.YthocoandbiaoiaaDoorV

namespace Go.Proofs.YthocoandbiaoiaaDoorV
open Go
def tysL : List TypeId := [27, 9, 3, 22, 115, 23, 70, 50, 24, 117, 25, 48, 37, 45, 73, 5, 71, 95, 46, 79, 77, 75]
theorem tysL_ok : tysOk Tryd.prog tysL = true := by kernel_rfl
def tysF : List TypeId := [183, 174, 9, 3]
theorem tysF_ok : tysF.all (flatOk Tryd.prog tysF) = true := by kernel_rfl
theorem row_Mach : rowT Tryd.prog 27 = some true := by simp [rowT, Tryd.underlying27, TypeDesc.isRow]
theorem row_int : ¬ rowT Tryd.prog 3 = some true := by simp [rowT, Tryd.underlying3, TypeDesc.isRow]
theorem row_string : ¬ rowT Tryd.prog 9 = some true := by simp [rowT, Tryd.underlying9, TypeDesc.isRow]
theorem arg_Mach {cs : List PV} {n : Nat} (h : PTy Tryd.prog n 27 cs) : ∃ m : Mach, aPV Tryd.prog 27 cs = m.pv := by
  obtain ⟨m, hm⟩ := dec_Mach n cs h
  exact ⟨m, by rw [aPV, if_pos row_Mach, hm]⟩
theorem arg_int {cs : List PV} {n : Nat} (h : PTy Tryd.prog n 3 cs) : ∃ x : Int, aPV Tryd.prog 3 cs = .int .i64 x := by
  obtain ⟨x, rfl⟩ := PTy.int Tryd.underlying3 h
  exact ⟨x, by rw [aPV, if_neg row_int]; rfl⟩
theorem arg_str {cs : List PV} {n : Nat} (h : PTy Tryd.prog n 9 cs) : ∃ x : ByteArray, aPV Tryd.prog 9 cs = .str x := by
  obtain ⟨x, rfl⟩ := PTy.str Tryd.underlying9 h
  exact ⟨x, by rw [aPV, if_neg row_string]; rfl⟩
theorem row_u64 : ¬ rowT Tryd.prog 37 = some true := by simp [rowT, Tryd.underlying37, TypeDesc.isRow]
theorem arg_u64 {cs : List PV} {n : Nat} (h : PTy Tryd.prog n 37 cs) : ∃ x : Int, aPV Tryd.prog 37 cs = .int .u64 x := by
  obtain ⟨x, rfl⟩ := PTy.int Tryd.underlying37 h
  exact ⟨x, by rw [aPV, if_neg row_u64]; rfl⟩
theorem len_cons {α : Type} {l : List α} {n : Nat} (h : l.length = n + 1) : ∃ a r, l = a :: r ∧ r.length = n := by
  cases l with
  | nil => simp at h
  | cons a r => exact ⟨a, r, rfl, by simpa using h⟩
theorem trodAll_len {H : Type} {enc : TypeId × Value → H} {P : Program} {w : World} {base : Nat} {sp : Nat → Bool} {held : Bool} : ∀ {ts : List TypeId} {vs : List Value} {ds : List (DataW H)} {ps : List MemPlace}, DataW.TrodAll enc P w base sp held ts vs ds ps → ds.length = ts.length
  | [], [], [], _, _ => rfl
  | _ :: _, _ :: _, _ :: _, _, ⟨_, _, _, h, _⟩ => by rw [List.length_cons, List.length_cons, trodAll_len h]
  | [], [], _ :: _, _, h => h.elim
  | [], _ :: _, _, _, h => h.elim
  | _ :: _, [], _, _, h => h.elim
  | _ :: _, _ :: _, [], _, h => h.elim
theorem glob_of_laid {W : World} (h : laidMet Tryd.prog [("retarget/term.shapes", Go.Proofs.YthocoandbiaoiaaDoor.Rows.laid_retarget_term_shapes)] W) :
    ∀ b cs, (b, cs) ∈ glob → ∀ (j : Nat) (c : PV), cs[j]? = some c → c.one = true ∧ ∃ v, memOf W b j = some v ∧ PRep (memOf W) c v := by
  intro b cs hb
  simp only [glob, List.mem_singleton, Prod.mk.injEq] at hb
  obtain ⟨rfl, rfl⟩ := hb
  exact laid_one tysF_ok (by kernel_rfl) (by kernel_rfl) (.head _) (by kernel_rfl) h
theorem TyAll.cons {P : Program} {t : TypeId} {ts : List TypeId} : ∀ {qs : List PV}, TyAll P (t :: ts) qs → ∃ q r, qs = q :: r ∧ (∃ n cs, q = aPV P t cs ∧ PTy P n t cs) ∧ TyAll P ts r
  | [], h => h.elim
  | q :: r, h => ⟨q, r, rfl, h.1, h.2⟩
theorem TyAll.nil {P : Program} : ∀ {qs : List PV}, TyAll P [] qs → qs = []
  | [], _ => rfl
  | _ :: _, h => h.elim
end Go.Proofs.YthocoandbiaoiaaDoorV
namespace Go.Proofs.YthocoandbiaoiaaDoor
open Go
theorem Tryd.own : ownKnob Tryd.prog.godebug = none := by kernel_rfl
theorem Tryd.laidOut : laidOutB Tryd.prog = true := by kernel_rfl
end Go.Proofs.YthocoandbiaoiaaDoor

namespace Go.Proofs.YthocoandbiaoiaaDoorV
open Go
def tysW : List TypeId := 34 :: tysL
theorem tysW_ok : tysOk Tryd.prog tysW = true := by kernel_rfl
theorem row_words : ¬ rowT Tryd.prog 34 = some true := by simp [rowT, Tryd.underlying34, TypeDesc.isRow]
theorem arg_words {cs : List PV} {n : Nat} (h : PTy Tryd.prog n 34 cs) : ∃ x : List Int, aPV Tryd.prog 34 cs = .lst 1 (words x) := by
  obtain ⟨x, rfl⟩ := PTy.ints Tryd.underlying34 co_uint64 Tryd.underlying37 h
  exact ⟨x, by rw [aPV, if_neg row_words]; rfl⟩
end Go.Proofs.YthocoandbiaoiaaDoorV

namespace Go.Proofs.YthocoandbiaoiaaDoorV
open Go
def tysB : List TypeId := 56 :: tysW
theorem tysB_ok : tysOk Tryd.prog tysB = true := by kernel_rfl
theorem row_bytes : ¬ rowT Tryd.prog 56 = some true := by simp [rowT, Tryd.underlying56, TypeDesc.isRow]
theorem arg_bytes {cs : List PV} {n : Nat} (h : PTy Tryd.prog n 56 cs) : ∃ x : List Int, aPV Tryd.prog 56 cs = .lst 1 (bytes x) := by
  obtain ⟨x, rfl⟩ := PTy.ints Tryd.underlying56 co_uint8 Tryd.underlying5 h
  exact ⟨x, by rw [aPV, if_neg row_bytes]; rfl⟩
end Go.Proofs.YthocoandbiaoiaaDoorV

namespace Go.Proofs.YthocoandbiaoiaaDoorV
open Go
set_option maxRecDepth 100000
/- "retarget/retargetlaw12.EncodeBytes" -/
def c_retargetlaw12_EncodeBytes : C :=
.seq (.reg [⟨some 3, none, .box 7 (.t 0)⟩, ⟨some 6, none, .mov (.c (.pv (.bool false)))⟩]) (.seq (.seq (.reg [⟨some 15, none, .load (some 7) (.t 3)⟩, ⟨some 16, none, .callf 9 [(.t 15)]⟩, ⟨some 17, none, .mov (.t 16)⟩, ⟨some 18, some (17, false), .mov (.t 1)⟩, ⟨some 19, some (17, false), .len (.t 18)⟩, ⟨some 20, some (17, false), .bin .gtr (.t 19) (.c (.pv (.int .i64 4200)))⟩, ⟨some 21, none, .lor (.t 17) (.t 20)⟩, ⟨some 22, none, .mov (.t 21)⟩, ⟨some 23, some (22, false), .mov (.t 2)⟩, ⟨some 24, some (22, false), .len (.t 23)⟩, ⟨some 25, some (22, false), .bin .gtr (.t 24) (.c (.pv (.int .i64 17000)))⟩, ⟨some 26, none, .lor (.t 22) (.t 25)⟩]) (.cond (.t 26) (.seq (.reg [⟨some 6, none, .mov (.c (.pv (.bool true)))⟩]) (.ret)) (.skip))) (.seq (.reg [⟨some 28, none, .load (some 7) (.t 3)⟩, ⟨some 29, none, .mov (.t 1)⟩, ⟨some 30, none, .callf 18 [(.t 28), (.t 29)]⟩, ⟨some 27, none, .mov (.t 30)⟩, ⟨some 31, none, .ext (.t 27) 0⟩, ⟨some 32, none, .ext (.t 27) 1⟩, ⟨some 7, none, .mov (.t 31)⟩, ⟨some 8, none, .mov (.t 32)⟩]) (.seq (.reg [⟨some 34, none, .load (some 7) (.t 3)⟩, ⟨some 35, none, .mov (.t 1)⟩, ⟨some 36, none, .callf 19 [(.t 34), (.t 35)]⟩, ⟨some 33, none, .mov (.t 36)⟩, ⟨some 37, none, .ext (.t 33) 0⟩, ⟨some 38, none, .ext (.t 33) 1⟩, ⟨some 9, none, .mov (.t 37)⟩, ⟨some 10, none, .mov (.t 38)⟩]) (.seq (.reg [⟨some 40, none, .load (some 7) (.t 3)⟩, ⟨some 41, none, .mov (.t 2)⟩, ⟨some 42, none, .callf 20 [(.t 40), (.t 41)]⟩, ⟨some 39, none, .mov (.t 42)⟩, ⟨some 43, none, .ext (.t 39) 0⟩, ⟨some 44, none, .ext (.t 39) 1⟩, ⟨some 11, none, .mov (.t 43)⟩, ⟨some 12, none, .mov (.t 44)⟩]) (.seq (.reg [⟨some 46, none, .load (some 7) (.t 3)⟩, ⟨some 47, none, .mov (.t 2)⟩, ⟨some 48, none, .callf 21 [(.t 46), (.t 47)]⟩, ⟨some 45, none, .mov (.t 48)⟩, ⟨some 49, none, .ext (.t 45) 0⟩, ⟨some 50, none, .ext (.t 45) 1⟩, ⟨some 13, none, .mov (.t 49)⟩, ⟨some 14, none, .mov (.t 50)⟩]) (.seq (.reg [⟨some 51, none, .mov (.t 7)⟩, ⟨some 52, none, .mov (.t 9)⟩, ⟨some 53, none, .callf 22 [(.t 51), (.t 52)]⟩, ⟨some 54, none, .mov (.t 53)⟩, ⟨some 55, some (54, true), .mov (.t 8)⟩, ⟨some 56, some (54, true), .mov (.t 10)⟩, ⟨some 57, some (54, true), .bin .eql (.t 55) (.t 56)⟩, ⟨some 58, none, .land (.t 54) (.t 57)⟩, ⟨some 59, none, .mov (.t 58)⟩, ⟨some 60, some (59, true), .mov (.t 11)⟩, ⟨some 61, some (59, true), .mov (.t 13)⟩, ⟨some 62, some (59, true), .callf 13 [(.t 60), (.t 61)]⟩, ⟨some 63, none, .land (.t 59) (.t 62)⟩, ⟨some 64, none, .mov (.t 63)⟩, ⟨some 65, some (64, true), .mov (.t 12)⟩, ⟨some 66, some (64, true), .mov (.t 14)⟩, ⟨some 67, some (64, true), .bin .eql (.t 65) (.t 66)⟩, ⟨some 68, none, .land (.t 64) (.t 67)⟩, ⟨some 6, none, .mov (.t 68)⟩]) (.ret)))))))
theorem k_retargetlaw12_EncodeBytes : FnOk Tryd.prog 7 69 c_retargetlaw12_EncodeBytes [.tmp 6] := .mk' (fn := Tryd.f7) rfl rfl (by kernel_rfl) rfl (by kernel_rfl) (by kernel_rfl)
end Go.Proofs.YthocoandbiaoiaaDoorV

namespace Go.Proofs.YthocoandbiaoiaaDoorV
open Go
set_option maxRecDepth 100000
/- "retarget/encode.Bytes" -/
def c_encode_Bytes : C :=
.seq (.reg [⟨some 2, none, .box 7 (.t 0)⟩, ⟨some 4, none, .mov (.c (.nilS 1))⟩, ⟨some 5, none, .mov (.c (.pv (.int .i64 0)))⟩]) (.seq (.seq (.reg [⟨some 10, none, .load (some 7) (.t 2)⟩, ⟨some 11, none, .callf 14 [(.t 10)]⟩, ⟨some 6, none, .mov (.t 11)⟩]) (.seq (.reg [⟨some 12, none, .mov (.t 6)⟩, ⟨some 13, none, .bin .neq (.t 12) (.c (.pv (.int .i64 0)))⟩]) (.cond (.t 13) (.seq (.reg [⟨some 14, none, .mov (.t 6)⟩, ⟨some 4, none, .mov (.c (.nilS 1))⟩, ⟨some 5, none, .mov (.t 14)⟩]) (.ret)) (.skip)))) (.seq (.seq (.reg [⟨some 15, none, .mov (.t 1)⟩, ⟨some 16, none, .len (.t 15)⟩, ⟨some 17, none, .bin .gtr (.t 16) (.c (.pv (.int .i64 4096)))⟩]) (.cond (.t 17) (.seq (.reg [⟨some 4, none, .mov (.c (.nilS 1))⟩, ⟨some 5, none, .mov (.c (.pv (.int .i64 4)))⟩]) (.ret)) (.skip))) (.seq (.reg [⟨some 7, none, .mov (.c (.nilS 1))⟩]) (.seq (.seq (.reg [⟨some 18, none, .mov (.t 1)⟩, ⟨some 19, none, .len (.t 18)⟩, ⟨some 20, none, .mov (.c (.pv (.int .i64 0)))⟩]) (.blk 0 (.gh (.own 7 1) (.loop ⟨[2, 7, 18, 19, 20], [0, 1], 2⟩ (.seq (.reg [⟨some 21, none, .bin .lss (.t 20) (.t 19)⟩]) (.seq (.cond (.t 21) (.skip) (.ext 0)) (.seq (.blk 1 (.seq (.reg [⟨some 22, none, .iad 1 (.t 18) (.t 20)⟩, ⟨some 23, none, .load none (.t 22)⟩, ⟨some 9, none, .mov (.t 23)⟩]) (.seq (.seq (.reg [⟨some 24, none, .fad 1 (.t 2)⟩, ⟨some 25, none, .load none (.t 24)⟩, ⟨some 26, none, .mov (.c (.pv (.int .i64 0)))⟩]) (.blk 2 (.loop ⟨[2, 7, 9, 18, 19, 20, 25, 26], [0, 1], 2⟩ (.seq (.reg [⟨some 27, none, .bin .lss (.t 26) (.t 25)⟩]) (.seq (.cond (.t 27) (.skip) (.ext 2)) (.seq (.blk 3 (.seq (.reg [⟨some 28, none, .mov (.t 7)⟩, ⟨some 29, none, .mov (.t 9)⟩, ⟨some 30, none, .conv .u8 (.t 29)⟩, ⟨some 31, none, .lit 1 [(.t 30)]⟩, ⟨some 32, none, .app 1 1 (.t 28) (.t 31)⟩, ⟨some 7, none, .mov (.t 32)⟩]) (.reg [⟨some 33, none, .mov (.t 9)⟩, ⟨some 34, none, .bin .shr (.t 33) (.c (.pv (.int .u64 8)))⟩, ⟨some 9, none, .mov (.t 34)⟩]))) (.reg [⟨some 35, none, .bin .add (.t 26) (.c (.pv (.int .i64 1)))⟩, ⟨some 26, none, .mov (.t 35)⟩]))))))) (.seq (.reg [⟨some 36, none, .mov (.t 9)⟩, ⟨some 37, none, .bin .neq (.t 36) (.c (.pv (.int .u64 0)))⟩]) (.cond (.t 37) (.seq (.reg [⟨some 4, none, .mov (.c (.nilS 1))⟩, ⟨some 5, none, .mov (.c (.pv (.int .i64 24)))⟩]) (.ret)) (.skip)))))) (.reg [⟨some 38, none, .bin .add (.t 20) (.c (.pv (.int .i64 1)))⟩, ⟨some 20, none, .mov (.t 38)⟩])))))))) (.seq (.reg [⟨some 39, none, .mov (.t 7)⟩, ⟨some 4, none, .mov (.t 39)⟩, ⟨some 5, none, .mov (.c (.pv (.int .i64 0)))⟩]) (.ret))))))
theorem k_encode_Bytes : FnOk Tryd.prog 18 40 c_encode_Bytes [.tmp 4, .tmp 5] := .mk' (fn := Tryd.f18) rfl rfl (by kernel_rfl) rfl (by kernel_rfl) (by kernel_rfl)
/- "retarget/retargetref12.Bytes" -/
def c_retargetref12_Bytes : C :=
.seq (.reg [⟨some 2, none, .box 7 (.t 0)⟩, ⟨some 4, none, .mov (.c (.nilS 1))⟩, ⟨some 5, none, .mov (.c (.pv (.int .i64 0)))⟩]) (.seq (.reg [⟨some 9, none, .load (some 7) (.t 2)⟩, ⟨some 10, none, .callf 45 [(.t 9)]⟩, ⟨some 6, none, .mov (.t 10)⟩]) (.seq (.seq (.reg [⟨some 11, none, .mov (.t 6)⟩, ⟨some 12, none, .bin .eql (.t 11) (.c (.pv (.int .i64 0)))⟩, ⟨some 13, none, .mov (.t 12)⟩, ⟨some 14, some (13, true), .mov (.t 1)⟩, ⟨some 15, some (13, true), .len (.t 14)⟩, ⟨some 16, some (13, true), .bin .gtr (.t 15) (.c (.pv (.int .i64 4096)))⟩, ⟨some 17, none, .land (.t 13) (.t 16)⟩]) (.cond (.t 17) (.reg [⟨some 6, none, .mov (.c (.pv (.int .i64 4)))⟩]) (.skip))) (.seq (.seq (.reg [⟨some 18, none, .mov (.t 6)⟩, ⟨some 19, none, .bin .neq (.t 18) (.c (.pv (.int .i64 0)))⟩]) (.cond (.t 19) (.seq (.reg [⟨some 20, none, .mov (.t 6)⟩, ⟨some 4, none, .mov (.c (.nilS 1))⟩, ⟨some 5, none, .mov (.t 20)⟩]) (.ret)) (.skip))) (.seq (.reg [⟨some 7, none, .mov (.c (.nilS 1))⟩]) (.seq (.seq (.reg [⟨some 8, none, .mov (.c (.pv (.int .i64 0)))⟩]) (.blk 0 (.gh (.own 7 1) (.loop ⟨[1, 2, 7, 8], [0, 1], 2⟩ (.seq (.seq (.reg [⟨some 21, none, .mov (.t 8)⟩, ⟨some 22, none, .mov (.t 1)⟩, ⟨some 23, none, .len (.t 22)⟩, ⟨some 24, none, .bin .lss (.t 21) (.t 23)⟩]) (.cond (.t 24) (.skip) (.ext 0))) (.seq (.blk 1 (.seq (.seq (.dreg [⟨some 27, none, .mov (.t 1)⟩, ⟨some 28, none, .mov (.t 8)⟩, ⟨some 29, none, .iad 1 (.t 27) (.t 28)⟩, ⟨some 30, none, .load none (.t 29)⟩, ⟨some 31, none, .fad 1 (.t 2)⟩, ⟨some 32, none, .load none (.t 31)⟩, ⟨some 33, none, .bin .mul (.c (.pv (.int .i64 8))) (.t 32)⟩, ⟨some 34, none, .callf 46 [(.t 30), (.t 33)]⟩, ⟨some 35, none, .un .not (.t 34)⟩] [[], [], [0, 1], [0, 1, 2], [], [4], [4, 5], [0, 1, 2, 3, 4, 5, 6], [0, 1, 2, 3, 4, 5, 6, 7]]) (.cond (.t 35) (.seq (.reg [⟨some 4, none, .mov (.c (.nilS 1))⟩, ⟨some 5, none, .mov (.c (.pv (.int .i64 24)))⟩]) (.ret)) (.skip))) (.dreg [⟨some 36, none, .mov (.t 7)⟩, ⟨some 37, none, .mov (.t 1)⟩, ⟨some 38, none, .mov (.t 8)⟩, ⟨some 39, none, .iad 1 (.t 37) (.t 38)⟩, ⟨some 40, none, .load none (.t 39)⟩, ⟨some 41, none, .fad 1 (.t 2)⟩, ⟨some 42, none, .load none (.t 41)⟩, ⟨some 43, none, .callf 47 [(.t 40), (.t 42)]⟩, ⟨some 44, none, .app 1 1 (.t 36) (.t 43)⟩, ⟨some 7, none, .mov (.t 44)⟩] [[], [], [], [1, 2], [1, 2, 3], [], [5], [1, 2, 3, 4, 5, 6], [0, 1, 2, 3, 4, 5, 6, 7], [0, 1, 2, 3, 4, 5, 6, 7, 8]]))) (.reg [⟨some 25, none, .mov (.t 8)⟩, ⟨some 26, none, .bin .add (.t 25) (.c (.pv (.int .i64 1)))⟩, ⟨some 8, none, .mov (.t 26)⟩]))))))) (.seq (.reg [⟨some 45, none, .mov (.t 7)⟩, ⟨some 4, none, .mov (.t 45)⟩, ⟨some 5, none, .mov (.c (.pv (.int .i64 0)))⟩]) (.ret)))))))
theorem k_retargetref12_Bytes : FnOk Tryd.prog 19 46 c_retargetref12_Bytes [.tmp 4, .tmp 5] := .mk' (fn := Tryd.f19) rfl rfl (by kernel_rfl) rfl (by kernel_rfl) (by kernel_rfl)
/- "retarget/encode.Words" -/
def c_encode_Words : C :=
.seq (.reg [⟨some 2, none, .box 7 (.t 0)⟩, ⟨some 4, none, .mov (.c (.nilS 1))⟩, ⟨some 5, none, .mov (.c (.pv (.int .i64 0)))⟩]) (.seq (.seq (.reg [⟨some 7, none, .load (some 7) (.t 2)⟩, ⟨some 8, none, .callf 14 [(.t 7)]⟩, ⟨some 6, none, .mov (.t 8)⟩]) (.seq (.reg [⟨some 9, none, .mov (.t 6)⟩, ⟨some 10, none, .bin .neq (.t 9) (.c (.pv (.int .i64 0)))⟩]) (.cond (.t 10) (.seq (.reg [⟨some 11, none, .mov (.t 6)⟩, ⟨some 4, none, .mov (.c (.nilS 1))⟩, ⟨some 5, none, .mov (.t 11)⟩]) (.ret)) (.skip)))) (.seq (.seq (.reg [⟨some 12, none, .mov (.t 1)⟩, ⟨some 13, none, .len (.t 12)⟩, ⟨some 14, none, .fad 1 (.t 2)⟩, ⟨some 15, none, .load none (.t 14)⟩, ⟨some 16, none, .bin .rem (.t 13) (.t 15)⟩, ⟨some 17, none, .bin .neq (.t 16) (.c (.pv (.int .i64 0)))⟩]) (.cond (.t 17) (.seq (.reg [⟨some 4, none, .mov (.c (.nilS 1))⟩, ⟨some 5, none, .mov (.c (.pv (.int .i64 2)))⟩]) (.ret)) (.skip))) (.seq (.seq (.reg [⟨some 18, none, .mov (.t 1)⟩, ⟨some 19, none, .len (.t 18)⟩, ⟨some 20, none, .fad 1 (.t 2)⟩, ⟨some 21, none, .load none (.t 20)⟩, ⟨some 22, none, .bin .quo (.t 19) (.t 21)⟩, ⟨some 23, none, .bin .gtr (.t 22) (.c (.pv (.int .i64 4096)))⟩]) (.cond (.t 23) (.seq (.reg [⟨some 4, none, .mov (.c (.nilS 1))⟩, ⟨some 5, none, .mov (.c (.pv (.int .i64 4)))⟩]) (.ret)) (.skip))) (.seq (.reg [⟨some 24, none, .mov (.t 1)⟩, ⟨some 25, none, .fad 1 (.t 2)⟩, ⟨some 26, none, .load none (.t 25)⟩, ⟨some 27, none, .callf 49 [(.t 24), (.t 26)]⟩, ⟨some 28, none, .callf 48 [(.t 27)]⟩, ⟨some 4, none, .mov (.t 28)⟩, ⟨some 5, none, .mov (.c (.pv (.int .i64 0)))⟩]) (.ret)))))
theorem k_encode_Words : FnOk Tryd.prog 20 29 c_encode_Words [.tmp 4, .tmp 5] := .mk' (fn := Tryd.f20) rfl rfl (by kernel_rfl) rfl (by kernel_rfl) (by kernel_rfl)
/- "retarget/retargetref12.Words" -/
def c_retargetref12_Words : C :=
.seq (.reg [⟨some 2, none, .box 7 (.t 0)⟩, ⟨some 4, none, .mov (.c (.nilS 1))⟩, ⟨some 5, none, .mov (.c (.pv (.int .i64 0)))⟩]) (.seq (.reg [⟨some 11, none, .load (some 7) (.t 2)⟩, ⟨some 12, none, .callf 45 [(.t 11)]⟩, ⟨some 6, none, .mov (.t 12)⟩]) (.seq (.seq (.reg [⟨some 13, none, .mov (.t 6)⟩, ⟨some 14, none, .bin .neq (.t 13) (.c (.pv (.int .i64 0)))⟩]) (.cond (.t 14) (.seq (.reg [⟨some 15, none, .mov (.t 6)⟩, ⟨some 4, none, .mov (.c (.nilS 1))⟩, ⟨some 5, none, .mov (.t 15)⟩]) (.ret)) (.skip))) (.seq (.seq (.reg [⟨some 16, none, .mov (.t 1)⟩, ⟨some 17, none, .len (.t 16)⟩, ⟨some 18, none, .fad 1 (.t 2)⟩, ⟨some 19, none, .load none (.t 18)⟩, ⟨some 20, none, .bin .rem (.t 17) (.t 19)⟩, ⟨some 21, none, .bin .neq (.t 20) (.c (.pv (.int .i64 0)))⟩]) (.cond (.t 21) (.seq (.reg [⟨some 4, none, .mov (.c (.nilS 1))⟩, ⟨some 5, none, .mov (.c (.pv (.int .i64 2)))⟩]) (.ret)) (.skip))) (.seq (.seq (.reg [⟨some 22, none, .mov (.t 1)⟩, ⟨some 23, none, .len (.t 22)⟩, ⟨some 24, none, .fad 1 (.t 2)⟩, ⟨some 25, none, .load none (.t 24)⟩, ⟨some 26, none, .bin .quo (.t 23) (.t 25)⟩, ⟨some 27, none, .bin .gtr (.t 26) (.c (.pv (.int .i64 4096)))⟩]) (.cond (.t 27) (.seq (.reg [⟨some 4, none, .mov (.c (.nilS 1))⟩, ⟨some 5, none, .mov (.c (.pv (.int .i64 4)))⟩]) (.ret)) (.skip))) (.seq (.reg [⟨some 7, none, .mov (.c (.nilS 1))⟩]) (.seq (.seq (.reg [⟨some 8, none, .mov (.c (.pv (.int .i64 0)))⟩]) (.blk 0 (.gh (.own 7 1) (.loop ⟨[1, 2, 7, 8], [0, 1], 2⟩ (.seq (.seq (.reg [⟨some 28, none, .mov (.t 8)⟩, ⟨some 29, none, .mov (.t 1)⟩, ⟨some 30, none, .len (.t 29)⟩, ⟨some 31, none, .bin .lss (.t 28) (.t 30)⟩]) (.cond (.t 31) (.skip) (.ext 0))) (.seq (.blk 1 (.seq (.reg [⟨some 9, none, .mov (.c (.pv (.int .u64 0)))⟩]) (.seq (.seq (.reg [⟨some 36, none, .fad 1 (.t 2)⟩, ⟨some 37, none, .load none (.t 36)⟩, ⟨some 38, none, .bin .sub (.t 37) (.c (.pv (.int .i64 1)))⟩, ⟨some 10, none, .mov (.t 38)⟩]) (.blk 2 (.loop ⟨[1, 2, 7, 8, 9, 10], [0, 1], 2⟩ (.seq (.seq (.reg [⟨some 39, none, .mov (.t 10)⟩, ⟨some 40, none, .bin .geq (.t 39) (.c (.pv (.int .i64 0)))⟩]) (.cond (.t 40) (.skip) (.ext 2))) (.seq (.blk 3 (.reg [⟨some 43, none, .mov (.t 9)⟩, ⟨some 44, none, .bin .mul (.c (.pv (.int .u64 256))) (.t 43)⟩, ⟨some 45, none, .mov (.t 1)⟩, ⟨some 46, none, .mov (.t 8)⟩, ⟨some 47, none, .mov (.t 10)⟩, ⟨some 48, none, .bin .add (.t 46) (.t 47)⟩, ⟨some 49, none, .iad 1 (.t 45) (.t 48)⟩, ⟨some 50, none, .load none (.t 49)⟩, ⟨some 51, none, .conv .u64 (.t 50)⟩, ⟨some 52, none, .bin .add (.t 44) (.t 51)⟩, ⟨some 9, none, .mov (.t 52)⟩])) (.reg [⟨some 41, none, .mov (.t 10)⟩, ⟨some 42, none, .bin .sub (.t 41) (.c (.pv (.int .i64 1)))⟩, ⟨some 10, none, .mov (.t 42)⟩])))))) (.reg [⟨some 53, none, .mov (.t 7)⟩, ⟨some 54, none, .mov (.t 9)⟩, ⟨some 55, none, .lit 1 [(.t 54)]⟩, ⟨some 56, none, .app 1 8 (.t 53) (.t 55)⟩, ⟨some 7, none, .mov (.t 56)⟩])))) (.reg [⟨some 32, none, .mov (.t 8)⟩, ⟨some 33, none, .fad 1 (.t 2)⟩, ⟨some 34, none, .load none (.t 33)⟩, ⟨some 35, none, .bin .add (.t 32) (.t 34)⟩, ⟨some 8, none, .mov (.t 35)⟩]))))))) (.seq (.reg [⟨some 57, none, .mov (.t 7)⟩, ⟨some 4, none, .mov (.t 57)⟩, ⟨some 5, none, .mov (.c (.pv (.int .i64 0)))⟩]) (.ret))))))))
theorem k_retargetref12_Words : FnOk Tryd.prog 21 58 c_retargetref12_Words [.tmp 4, .tmp 5] := .mk' (fn := Tryd.f21) rfl rfl (by kernel_rfl) rfl (by kernel_rfl) (by kernel_rfl)
/- "retarget/retargetref12.SameBytes" -/
def c_retargetref12_SameBytes : C :=
.seq (.reg [⟨some 4, none, .mov (.c (.pv (.bool false)))⟩]) (.seq (.seq (.reg [⟨some 6, none, .mov (.t 0)⟩, ⟨some 7, none, .len (.t 6)⟩, ⟨some 8, none, .mov (.t 1)⟩, ⟨some 9, none, .len (.t 8)⟩, ⟨some 10, none, .bin .neq (.t 7) (.t 9)⟩]) (.cond (.t 10) (.seq (.reg [⟨some 4, none, .mov (.c (.pv (.bool false)))⟩]) (.ret)) (.skip))) (.seq (.seq (.reg [⟨some 5, none, .mov (.c (.pv (.int .i64 0)))⟩]) (.blk 0 (.loop ⟨[0, 1, 5], [], 0⟩ (.seq (.seq (.reg [⟨some 11, none, .mov (.t 5)⟩, ⟨some 12, none, .mov (.t 0)⟩, ⟨some 13, none, .len (.t 12)⟩, ⟨some 14, none, .bin .lss (.t 11) (.t 13)⟩]) (.cond (.t 14) (.skip) (.ext 0))) (.seq (.blk 1 (.seq (.dreg [⟨some 17, none, .mov (.t 0)⟩, ⟨some 18, none, .mov (.t 5)⟩, ⟨some 19, none, .iad 1 (.t 17) (.t 18)⟩, ⟨some 20, none, .load none (.t 19)⟩, ⟨some 21, none, .mov (.t 1)⟩, ⟨some 22, none, .mov (.t 5)⟩, ⟨some 23, none, .iad 1 (.t 21) (.t 22)⟩, ⟨some 24, none, .load none (.t 23)⟩, ⟨some 25, none, .bin .neq (.t 20) (.t 24)⟩] [[], [], [0, 1], [0, 1, 2], [], [], [4, 5], [4, 5, 6], [0, 1, 2, 3, 4, 5, 6, 7]]) (.cond (.t 25) (.seq (.reg [⟨some 4, none, .mov (.c (.pv (.bool false)))⟩]) (.ret)) (.skip)))) (.reg [⟨some 15, none, .mov (.t 5)⟩, ⟨some 16, none, .bin .add (.t 15) (.c (.pv (.int .i64 1)))⟩, ⟨some 5, none, .mov (.t 16)⟩])))))) (.seq (.reg [⟨some 4, none, .mov (.c (.pv (.bool true)))⟩]) (.ret))))
theorem k_retargetref12_SameBytes : FnOk Tryd.prog 22 26 c_retargetref12_SameBytes [.tmp 4] := .mk' (fn := Tryd.f22) rfl rfl (by kernel_rfl) rfl (by kernel_rfl) (by kernel_rfl)
/- "retarget/retargetref12.Put" -/
def c_retargetref12_Put : C :=
.seq (.reg [⟨some 4, none, .mov (.c (.nilS 1))⟩]) (.seq (.reg [⟨some 5, none, .mov (.c (.nilS 1))⟩]) (.seq (.seq (.reg [⟨some 6, none, .mov (.c (.pv (.int .i64 0)))⟩]) (.blk 0 (.gh (.own 5 1) (.loop ⟨[0, 1, 5, 6], [0], 1⟩ (.seq (.seq (.reg [⟨some 7, none, .mov (.t 6)⟩, ⟨some 8, none, .mov (.t 1)⟩, ⟨some 9, none, .bin .lss (.t 7) (.t 8)⟩]) (.cond (.t 9) (.skip) (.ext 0))) (.seq (.blk 1 (.seq (.reg [⟨some 12, none, .mov (.t 5)⟩, ⟨some 13, none, .mov (.t 0)⟩, ⟨some 14, none, .bin .rem (.t 13) (.c (.pv (.int .u64 256)))⟩, ⟨some 15, none, .conv .u8 (.t 14)⟩, ⟨some 16, none, .lit 1 [(.t 15)]⟩, ⟨some 17, none, .app 1 1 (.t 12) (.t 16)⟩, ⟨some 5, none, .mov (.t 17)⟩]) (.reg [⟨some 18, none, .mov (.t 0)⟩, ⟨some 19, none, .bin .quo (.t 18) (.c (.pv (.int .u64 256)))⟩, ⟨some 0, none, .mov (.t 19)⟩]))) (.reg [⟨some 10, none, .mov (.t 6)⟩, ⟨some 11, none, .bin .add (.t 10) (.c (.pv (.int .i64 1)))⟩, ⟨some 6, none, .mov (.t 11)⟩]))))))) (.seq (.reg [⟨some 20, none, .mov (.t 5)⟩, ⟨some 4, none, .mov (.t 20)⟩]) (.ret))))
theorem k_retargetref12_Put : FnOk Tryd.prog 47 21 c_retargetref12_Put [.tmp 4] := .mk' (fn := Tryd.f47) rfl rfl (by kernel_rfl) rfl (by kernel_rfl) (by kernel_rfl)
/- "retarget/encode.chunks" -/
def c_encode_chunks : C :=
.seq (.reg [⟨some 2, none, .box 1 (.t 0)⟩, ⟨some 3, none, .box 1 (.t 1)⟩, ⟨some 4, none, .mov (.c (.nilF))⟩]) (.seq (.reg [⟨some 5, none, .mkf (.func 72) [] [(.t 2), (.t 3)]⟩, ⟨some 4, none, .mov (.t 5)⟩]) (.ret))
theorem k_encode_chunks : FnOk Tryd.prog 49 6 c_encode_chunks [.tmp 4] := .mk' (fn := Tryd.f49) rfl rfl (by kernel_rfl) rfl (by kernel_rfl) (by kernel_rfl)
/- "retarget/format.Get" -/
def c_format_Get : C :=
.seq (.reg [⟨some 4, none, .box 1 (.t 1)⟩, ⟨some 6, none, .alloc [.pv (.int .u64 0)]⟩, ⟨some 7, none, .mov (.c (.pv (.int .i64 0)))⟩]) (.seq (.seq (.reg [⟨some 11, none, .mov (.t 0)⟩, ⟨some 12, none, .mov (.t 2)⟩, ⟨some 13, none, .callf 74 [(.t 11), (.t 12)]⟩, ⟨some 8, none, .mov (.t 13)⟩]) (.seq (.reg [⟨some 14, none, .mov (.t 8)⟩, ⟨some 15, none, .bin .neq (.t 14) (.c (.pv (.int .i64 0)))⟩]) (.cond (.t 15) (.seq (.reg [⟨some 16, none, .mov (.t 8)⟩, ⟨none, none, .store 1 (.t 6) (.c (.pv (.int .u64 0)))⟩, ⟨some 7, none, .mov (.t 16)⟩]) (.ret)) (.skip)))) (.seq (.seq (.reg [⟨some 17, none, .load none (.t 4)⟩, ⟨some 18, none, .mov (.t 0)⟩, ⟨some 19, none, .callf 75 [(.t 17), (.t 18)]⟩, ⟨some 20, none, .un .not (.t 19)⟩]) (.cond (.t 20) (.seq (.reg [⟨none, none, .store 1 (.t 6) (.c (.pv (.int .u64 0)))⟩, ⟨some 7, none, .mov (.c (.pv (.int .i64 24)))⟩]) (.ret)) (.skip))) (.seq (.seq (.reg [⟨some 21, none, .mov (.t 2)⟩, ⟨some 22, none, .callf 76 [(.t 21)]⟩]) (.blk 0 (.rf ⟨[4, 6, 7], [0, 1, 2], 3⟩ (.t 22) [23, 24] (.seq (.reg [⟨some 9, none, .alloc [.pv (.int .i64 0), .pv (.int .i64 0)]⟩, ⟨none, none, .store 2 (.t 9) (.t 23)⟩]) (.reg [⟨some 10, none, .mov (.t 24)⟩])) (.blk 1 (.dreg [⟨some 25, none, .load none (.t 6)⟩, ⟨some 26, none, .load none (.t 4)⟩, ⟨some 27, none, .fad 0 (.t 9)⟩, ⟨some 28, none, .load none (.t 27)⟩, ⟨some 29, none, .bin .shr (.t 26) (.t 28)⟩, ⟨some 30, none, .fad 1 (.t 9)⟩, ⟨some 31, none, .load none (.t 30)⟩, ⟨some 32, none, .callf 59 [(.t 31)]⟩, ⟨some 33, none, .bin .and (.t 29) (.t 32)⟩, ⟨some 34, none, .mov (.t 10)⟩, ⟨some 35, none, .bin .shl (.t 33) (.t 34)⟩, ⟨some 36, none, .bin .or (.t 25) (.t 35)⟩, ⟨none, none, .store 1 (.t 6) (.t 36)⟩] [[], [], [], [2], [1, 2, 3], [], [5], [5, 6], [1, 2, 3, 4, 5, 6, 7], [], [1, 2, 3, 4, 5, 6, 7, 8, 9], [0, 1, 2, 3, 4, 5, 6, 7, 8, 9, 10], [0, 1, 2, 3, 4, 5, 6, 7, 8, 9, 10, 11]]))))) (.seq (.reg [⟨some 37, none, .load none (.t 6)⟩, ⟨none, none, .store 1 (.t 6) (.t 37)⟩, ⟨some 7, none, .mov (.c (.pv (.int .i64 0)))⟩]) (.ret)))))
theorem k_format_Get : FnOk Tryd.prog 55 38 c_format_Get [.cell 6 none, .tmp 7] := .mk' (fn := Tryd.f55) rfl rfl (by kernel_rfl) rfl (by kernel_rfl) (by kernel_rfl)
/- "retarget/format.Mask" -/
def c_format_Mask : C :=
.seq (.reg [⟨some 4, none, .alloc [.pv (.int .u64 0)]⟩, ⟨some 5, none, .mov (.c (.pv (.int .i64 0)))⟩]) (.seq (.seq (.reg [⟨some 8, none, .mov (.t 0)⟩, ⟨some 9, none, .mov (.t 1)⟩, ⟨some 10, none, .callf 74 [(.t 8), (.t 9)]⟩, ⟨some 6, none, .mov (.t 10)⟩]) (.seq (.reg [⟨some 11, none, .mov (.t 6)⟩, ⟨some 12, none, .bin .neq (.t 11) (.c (.pv (.int .i64 0)))⟩]) (.cond (.t 12) (.seq (.reg [⟨some 13, none, .mov (.t 6)⟩, ⟨none, none, .store 1 (.t 4) (.c (.pv (.int .u64 0)))⟩, ⟨some 5, none, .mov (.t 13)⟩]) (.ret)) (.skip)))) (.seq (.seq (.reg [⟨some 14, none, .mov (.t 1)⟩, ⟨some 15, none, .callf 76 [(.t 14)]⟩]) (.blk 0 (.rf ⟨[4, 5], [0, 1], 2⟩ (.t 15) [16, 17] (.reg [⟨some 7, none, .alloc [.pv (.int .i64 0), .pv (.int .i64 0)]⟩, ⟨none, none, .store 2 (.t 7) (.t 16)⟩]) (.blk 1 (.dreg [⟨some 18, none, .load none (.t 4)⟩, ⟨some 19, none, .fad 1 (.t 7)⟩, ⟨some 20, none, .load none (.t 19)⟩, ⟨some 21, none, .callf 59 [(.t 20)]⟩, ⟨some 22, none, .fad 0 (.t 7)⟩, ⟨some 23, none, .load none (.t 22)⟩, ⟨some 24, none, .bin .shl (.t 21) (.t 23)⟩, ⟨some 25, none, .bin .or (.t 18) (.t 24)⟩, ⟨none, none, .store 1 (.t 4) (.t 25)⟩] [[], [], [1], [1, 2], [], [4], [1, 2, 3, 4, 5], [0, 1, 2, 3, 4, 5, 6], [0, 1, 2, 3, 4, 5, 6, 7]]))))) (.seq (.reg [⟨some 26, none, .load none (.t 4)⟩, ⟨none, none, .store 1 (.t 4) (.t 26)⟩, ⟨some 5, none, .mov (.c (.pv (.int .i64 0)))⟩]) (.ret))))
theorem k_format_Mask : FnOk Tryd.prog 63 27 c_format_Mask [.cell 4 none, .tmp 5] := .mk' (fn := Tryd.f63) rfl rfl (by kernel_rfl) rfl (by kernel_rfl) (by kernel_rfl)
/- "retarget/encode.chunks$1" -/
def c_encode_chunks_1 : C :=
.seq (.reg [⟨some 3, none, .box 1 (.t 0)⟩]) (.seq (.reg [⟨some 8, none, .load none (.t 1)⟩, ⟨some 9, none, .load none (.t 2)⟩, ⟨some 10, none, .callf 73 [(.t 8), (.t 9)]⟩]) (.blk 0 (.rf ⟨[3], [0, 1, 2, 3, 4, 5, 6, 7], 8⟩ (.t 10) [11] (.reg [⟨some 4, none, .mov (.t 11)⟩]) (.blk 1 (.seq (.reg [⟨some 5, none, .mov (.c (.pv (.int .u64 0)))⟩]) (.seq (.seq (.reg [⟨some 12, none, .mov (.t 4)⟩, ⟨some 13, none, .len (.t 12)⟩, ⟨some 14, none, .mov (.c (.pv (.int .i64 0)))⟩]) (.blk 2 (.loop ⟨[3, 5, 12, 13, 14], [0, 1, 2, 3, 4, 5, 6, 7], 8⟩ (.seq (.reg [⟨some 15, none, .bin .lss (.t 14) (.t 13)⟩]) (.seq (.cond (.t 15) (.skip) (.ext 2)) (.seq (.blk 3 (.seq (.reg [⟨some 16, none, .mov (.t 14)⟩, ⟨some 17, none, .iad 1 (.t 12) (.t 14)⟩, ⟨some 18, none, .load none (.t 17)⟩, ⟨some 6, none, .mov (.t 16)⟩, ⟨some 7, none, .mov (.t 18)⟩]) (.reg [⟨some 19, none, .mov (.t 5)⟩, ⟨some 20, none, .mov (.t 7)⟩, ⟨some 21, none, .conv .u64 (.t 20)⟩, ⟨some 22, none, .mov (.t 6)⟩, ⟨some 23, none, .bin .mul (.c (.pv (.int .i64 8))) (.t 22)⟩, ⟨some 24, none, .bin .shl (.t 21) (.t 23)⟩, ⟨some 25, none, .bin .or (.t 19) (.t 24)⟩, ⟨some 5, none, .mov (.t 25)⟩]))) (.reg [⟨some 26, none, .bin .add (.t 14) (.c (.pv (.int .i64 1)))⟩, ⟨some 14, none, .mov (.t 26)⟩]))))))) (.seq (.reg [⟨some 27, none, .load none (.t 3)⟩, ⟨some 28, none, .mov (.t 5)⟩, ⟨some 29, none, .callv (.t 27) [(.t 28)]⟩, ⟨some 30, none, .un .not (.t 29)⟩]) (.cond (.t 30) (.ret) (.skip)))))))))
theorem k_encode_chunks_1 : FnOk Tryd.prog 72 31 c_encode_chunks_1 [] := .mk' (fn := Tryd.f72) rfl rfl (by kernel_rfl) rfl (by kernel_rfl) (by kernel_rfl)
/- "retarget/format.Check" -/
def c_format_Check : C :=
.seq (.reg [⟨some 4, none, .mov (.c (.pv (.int .i64 0)))⟩]) (.seq (.seq (.reg [⟨some 9, none, .mov (.t 0)⟩, ⟨some 10, none, .lit 1 [(.t 9)]⟩, ⟨some 11, none, .callf 90 [(.c (.pv (.int .i64 1))), (.c (.pv (.int .i64 64))), (.t 10)]⟩, ⟨some 12, none, .un .not (.t 11)⟩]) (.cond (.t 12) (.seq (.reg [⟨some 4, none, .mov (.c (.pv (.int .i64 2)))⟩]) (.ret)) (.skip))) (.seq (.seq (.reg [⟨some 13, none, .mov (.t 1)⟩, ⟨some 14, none, .len (.t 13)⟩, ⟨some 15, none, .bin .gtr (.t 14) (.c (.pv (.int .i64 4)))⟩]) (.cond (.t 15) (.seq (.reg [⟨some 4, none, .mov (.c (.pv (.int .i64 4)))⟩]) (.ret)) (.skip))) (.seq (.reg [⟨some 5, none, .mov (.c (.pv (.int .u64 0)))⟩]) (.seq (.seq (.reg [⟨some 16, none, .mov (.t 1)⟩, ⟨some 17, none, .len (.t 16)⟩, ⟨some 18, none, .mov (.c (.pv (.int .i64 0)))⟩]) (.blk 0 (.loop ⟨[0, 5, 16, 17, 18], [], 0⟩ (.seq (.reg [⟨some 19, none, .bin .lss (.t 18) (.t 17)⟩]) (.seq (.cond (.t 19) (.skip) (.ext 0)) (.seq (.blk 1 (.seq (.reg [⟨some 20, none, .iad 2 (.t 16) (.t 18)⟩, ⟨some 21, none, .load (some 2) (.t 20)⟩, ⟨some 7, none, .alloc [.pv (.int .i64 0), .pv (.int .i64 0)]⟩, ⟨none, none, .store 2 (.t 7) (.t 21)⟩]) (.seq (.seq (.reg [⟨some 22, none, .mov (.t 0)⟩, ⟨some 23, none, .fad 1 (.t 7)⟩, ⟨some 24, none, .load none (.t 23)⟩, ⟨some 25, none, .lit 1 [(.t 24)]⟩, ⟨some 26, none, .callf 90 [(.c (.pv (.int .i64 1))), (.t 22), (.t 25)]⟩, ⟨some 27, none, .un .not (.t 26)⟩, ⟨some 28, none, .mov (.t 27)⟩, ⟨some 29, some (28, false), .mov (.t 0)⟩, ⟨some 30, some (28, false), .fad 1 (.t 7)⟩, ⟨some 31, some (28, false), .load none (.t 30)⟩, ⟨some 32, some (28, false), .bin .sub (.t 29) (.t 31)⟩, ⟨some 33, some (28, false), .fad 0 (.t 7)⟩, ⟨some 34, some (28, false), .load none (.t 33)⟩, ⟨some 35, some (28, false), .lit 1 [(.t 34)]⟩, ⟨some 36, some (28, false), .callf 90 [(.c (.pv (.int .i64 0))), (.t 32), (.t 35)]⟩, ⟨some 37, some (28, false), .un .not (.t 36)⟩, ⟨some 38, none, .lor (.t 28) (.t 37)⟩]) (.cond (.t 38) (.seq (.reg [⟨some 4, none, .mov (.c (.pv (.int .i64 8)))⟩]) (.ret)) (.skip))) (.seq (.dreg [⟨some 39, none, .fad 1 (.t 7)⟩, ⟨some 40, none, .load none (.t 39)⟩, ⟨some 41, none, .callf 59 [(.t 40)]⟩, ⟨some 42, none, .fad 0 (.t 7)⟩, ⟨some 43, none, .load none (.t 42)⟩, ⟨some 44, none, .bin .shl (.t 41) (.t 43)⟩, ⟨some 8, none, .mov (.t 44)⟩] [[], [0], [0, 1], [], [3], [0, 1, 2, 3, 4], [0, 1, 2, 3, 4, 5]]) (.seq (.seq (.reg [⟨some 45, none, .mov (.t 5)⟩, ⟨some 46, none, .mov (.t 8)⟩, ⟨some 47, none, .bin .and (.t 45) (.t 46)⟩, ⟨some 48, none, .bin .neq (.t 47) (.c (.pv (.int .u64 0)))⟩]) (.cond (.t 48) (.seq (.reg [⟨some 4, none, .mov (.c (.pv (.int .i64 8)))⟩]) (.ret)) (.skip))) (.reg [⟨some 49, none, .mov (.t 5)⟩, ⟨some 50, none, .mov (.t 8)⟩, ⟨some 51, none, .bin .or (.t 49) (.t 50)⟩, ⟨some 5, none, .mov (.t 51)⟩])))))) (.reg [⟨some 52, none, .bin .add (.t 18) (.c (.pv (.int .i64 1)))⟩, ⟨some 18, none, .mov (.t 52)⟩]))))))) (.seq (.reg [⟨some 4, none, .mov (.c (.pv (.int .i64 0)))⟩]) (.ret))))))
theorem k_format_Check : FnOk Tryd.prog 74 53 c_format_Check [.tmp 4] := .mk' (fn := Tryd.f74) rfl rfl (by kernel_rfl) rfl (by kernel_rfl) (by kernel_rfl)
/- "retarget/format.fits" -/
def c_format_fits : C :=
.seq (.reg [⟨some 4, none, .mov (.c (.pv (.bool false)))⟩]) (.seq (.reg [⟨some 5, none, .mov (.t 0)⟩, ⟨some 6, none, .callf 91 [(.t 5)]⟩, ⟨some 7, none, .mov (.t 1)⟩, ⟨some 8, none, .bin .leq (.t 6) (.t 7)⟩, ⟨some 4, none, .mov (.t 8)⟩]) (.ret))
theorem k_format_fits : FnOk Tryd.prog 75 9 c_format_fits [.tmp 4] := .mk' (fn := Tryd.f75) rfl rfl (by kernel_rfl) rfl (by kernel_rfl) (by kernel_rfl)
/- "retarget/format.shifted" -/
def c_format_shifted : C :=
.seq (.reg [⟨some 1, none, .box 1 (.t 0)⟩, ⟨some 2, none, .mov (.c (.nilF))⟩]) (.seq (.reg [⟨some 3, none, .mkf (.func 92) [] [(.t 1)]⟩, ⟨some 2, none, .mov (.t 3)⟩]) (.ret))
theorem k_format_shifted : FnOk Tryd.prog 76 4 c_format_shifted [.tmp 2] := .mk' (fn := Tryd.f76) rfl rfl (by kernel_rfl) rfl (by kernel_rfl) (by kernel_rfl)
/- "retarget/format.within" -/
def c_format_within : C :=
.seq (.reg [⟨some 6, none, .mov (.c (.pv (.bool false)))⟩]) (.seq (.seq (.reg [⟨some 9, none, .mov (.t 2)⟩, ⟨some 10, none, .len (.t 9)⟩, ⟨some 11, none, .mov (.c (.pv (.int .i64 0)))⟩]) (.blk 0 (.loop ⟨[0, 1, 9, 10, 11], [], 0⟩ (.seq (.reg [⟨some 12, none, .bin .lss (.t 11) (.t 10)⟩]) (.seq (.cond (.t 12) (.skip) (.ext 0)) (.seq (.blk 1 (.seq (.reg [⟨some 13, none, .iad 1 (.t 9) (.t 11)⟩, ⟨some 14, none, .load none (.t 13)⟩, ⟨some 8, none, .mov (.t 14)⟩]) (.seq (.reg [⟨some 15, none, .mov (.t 8)⟩, ⟨some 16, none, .mov (.t 0)⟩, ⟨some 17, none, .bin .lss (.t 15) (.t 16)⟩, ⟨some 18, none, .mov (.t 17)⟩, ⟨some 19, some (18, false), .mov (.t 8)⟩, ⟨some 20, some (18, false), .mov (.t 1)⟩, ⟨some 21, some (18, false), .bin .gtr (.t 19) (.t 20)⟩, ⟨some 22, none, .lor (.t 18) (.t 21)⟩]) (.cond (.t 22) (.seq (.reg [⟨some 6, none, .mov (.c (.pv (.bool false)))⟩]) (.ret)) (.skip))))) (.reg [⟨some 23, none, .bin .add (.t 11) (.c (.pv (.int .i64 1)))⟩, ⟨some 11, none, .mov (.t 23)⟩]))))))) (.seq (.reg [⟨some 6, none, .mov (.c (.pv (.bool true)))⟩]) (.ret)))
theorem k_format_within : FnOk Tryd.prog 90 24 c_format_within [.tmp 6] := .mk' (fn := Tryd.f90) rfl rfl (by kernel_rfl) rfl (by kernel_rfl) (by kernel_rfl)
/- "math/bits.Len64" -/
def cs_math_bits_Len64_0 : ByteArray := ⟨#[0, 1, 2, 2, 3, 3, 3, 3, 4, 4, 4, 4, 4, 4, 4, 4, 5, 5, 5, 5, 5, 5, 5, 5, 5, 5, 5, 5, 5, 5, 5, 5, 6, 6, 6, 6, 6, 6, 6, 6, 6, 6, 6, 6, 6, 6, 6, 6, 6, 6, 6, 6, 6, 6, 6, 6, 6, 6, 6, 6, 6, 6, 6, 6, 7, 7, 7, 7, 7, 7, 7, 7, 7, 7, 7, 7, 7, 7, 7, 7, 7, 7, 7, 7, 7, 7, 7, 7, 7, 7, 7, 7, 7, 7, 7, 7, 7, 7, 7, 7, 7, 7, 7, 7, 7, 7, 7, 7, 7, 7, 7, 7, 7, 7, 7, 7, 7, 7, 7, 7, 7, 7, 7, 7, 7, 7, 7, 7, 8, 8, 8, 8, 8, 8, 8, 8, 8, 8, 8, 8, 8, 8, 8, 8, 8, 8, 8, 8, 8, 8, 8, 8, 8, 8, 8, 8, 8, 8, 8, 8, 8, 8, 8, 8, 8, 8, 8, 8, 8, 8, 8, 8, 8, 8, 8, 8, 8, 8, 8, 8, 8, 8, 8, 8, 8, 8, 8, 8, 8, 8, 8, 8, 8, 8, 8, 8, 8, 8, 8, 8, 8, 8, 8, 8, 8, 8, 8, 8, 8, 8, 8, 8, 8, 8, 8, 8, 8, 8, 8, 8, 8, 8, 8, 8, 8, 8, 8, 8, 8, 8, 8, 8, 8, 8, 8, 8, 8, 8, 8, 8, 8, 8, 8, 8, 8, 8, 8, 8, 8, 8, 8, 8, 8, 8, 8, 8]⟩
def c_math_bits_Len64 : C :=
.seq (.reg [⟨some 2, none, .mov (.c (.pv (.int .i64 0)))⟩]) (.seq (.seq (.reg [⟨some 3, none, .mov (.t 0)⟩, ⟨some 4, none, .bin .geq (.t 3) (.c (.pv (.int .u64 4294967296)))⟩]) (.cond (.t 4) (.seq (.reg [⟨some 5, none, .mov (.t 0)⟩, ⟨some 6, none, .bin .shr (.t 5) (.c (.pv (.int .u64 32)))⟩, ⟨some 0, none, .mov (.t 6)⟩]) (.reg [⟨some 2, none, .mov (.c (.pv (.int .i64 32)))⟩])) (.skip))) (.seq (.seq (.reg [⟨some 7, none, .mov (.t 0)⟩, ⟨some 8, none, .bin .geq (.t 7) (.c (.pv (.int .u64 65536)))⟩]) (.cond (.t 8) (.seq (.reg [⟨some 9, none, .mov (.t 0)⟩, ⟨some 10, none, .bin .shr (.t 9) (.c (.pv (.int .u64 16)))⟩, ⟨some 0, none, .mov (.t 10)⟩]) (.reg [⟨some 11, none, .mov (.t 2)⟩, ⟨some 12, none, .bin .add (.t 11) (.c (.pv (.int .i64 16)))⟩, ⟨some 2, none, .mov (.t 12)⟩])) (.skip))) (.seq (.seq (.reg [⟨some 13, none, .mov (.t 0)⟩, ⟨some 14, none, .bin .geq (.t 13) (.c (.pv (.int .u64 256)))⟩]) (.cond (.t 14) (.seq (.reg [⟨some 15, none, .mov (.t 0)⟩, ⟨some 16, none, .bin .shr (.t 15) (.c (.pv (.int .u64 8)))⟩, ⟨some 0, none, .mov (.t 16)⟩]) (.reg [⟨some 17, none, .mov (.t 2)⟩, ⟨some 18, none, .bin .add (.t 17) (.c (.pv (.int .i64 8)))⟩, ⟨some 2, none, .mov (.t 18)⟩])) (.skip))) (.seq (.reg [⟨some 19, none, .mov (.t 2)⟩, ⟨some 20, none, .mov (.t 0)⟩, ⟨some 21, none, .conv .u8 (.t 20)⟩, ⟨some 22, none, .ixs (.c (.pv (.str cs_math_bits_Len64_0))) (.t 21)⟩, ⟨some 23, none, .conv .i64 (.t 22)⟩, ⟨some 24, none, .bin .add (.t 19) (.t 23)⟩, ⟨some 2, none, .mov (.t 24)⟩]) (.ret)))))
theorem k_math_bits_Len64 : FnOk Tryd.prog 91 25 c_math_bits_Len64 [.tmp 2] := .mk' (fn := Tryd.f91) rfl rfl (by kernel_rfl) rfl (by kernel_rfl) (by kernel_rfl)
/- "retarget/format.shifted$1" -/
def c_format_shifted_1 : C :=
.seq (.reg [⟨some 3, none, .mov (.c (.pv (.int .i64 0)))⟩]) (.seq (.reg [⟨some 6, none, .load none (.t 1)⟩, ⟨some 7, none, .len (.t 6)⟩, ⟨some 8, none, .mov (.c (.pv (.int .i64 0)))⟩]) (.blk 0 (.loop ⟨[0, 3, 6, 7, 8], [0, 1, 2], 3⟩ (.seq (.reg [⟨some 9, none, .bin .lss (.t 8) (.t 7)⟩]) (.seq (.cond (.t 9) (.skip) (.ext 0)) (.seq (.blk 1 (.seq (.reg [⟨some 10, none, .iad 2 (.t 6) (.t 8)⟩, ⟨some 11, none, .load (some 2) (.t 10)⟩, ⟨some 5, none, .alloc [.pv (.int .i64 0), .pv (.int .i64 0)]⟩, ⟨none, none, .store 2 (.t 5) (.t 11)⟩]) (.seq (.seq (.reg [⟨some 12, none, .mov (.t 0)⟩, ⟨some 13, none, .load (some 2) (.t 5)⟩, ⟨some 14, none, .mov (.t 3)⟩, ⟨some 15, none, .callv (.t 12) [(.t 13), (.t 14)]⟩, ⟨some 16, none, .un .not (.t 15)⟩]) (.cond (.t 16) (.ret) (.skip))) (.reg [⟨some 17, none, .mov (.t 3)⟩, ⟨some 18, none, .fad 1 (.t 5)⟩, ⟨some 19, none, .load none (.t 18)⟩, ⟨some 20, none, .bin .add (.t 17) (.t 19)⟩, ⟨some 3, none, .mov (.t 20)⟩])))) (.reg [⟨some 21, none, .bin .add (.t 8) (.c (.pv (.int .i64 1)))⟩, ⟨some 8, none, .mov (.t 21)⟩])))))))
theorem k_format_shifted_1 : FnOk Tryd.prog 92 22 c_format_shifted_1 [] := .mk' (fn := Tryd.f92) rfl rfl (by kernel_rfl) rfl (by kernel_rfl) (by kernel_rfl)
/- "retarget/format.shifted$1" -/
def c_format_shifted_1_B : C :=
.seq (.reg [⟨some 3, none, .mov (.c (.pv (.int .i64 0)))⟩]) (.seq (.reg [⟨some 6, none, .load none (.t 1)⟩, ⟨some 7, none, .len (.t 6)⟩, ⟨some 8, none, .mov (.c (.pv (.int .i64 0)))⟩]) (.blk 0 (.loop ⟨[0, 3, 6, 7, 8], [0, 1, 2, 3], 4⟩ (.seq (.reg [⟨some 9, none, .bin .lss (.t 8) (.t 7)⟩]) (.seq (.cond (.t 9) (.skip) (.ext 0)) (.seq (.blk 1 (.seq (.reg [⟨some 10, none, .iad 2 (.t 6) (.t 8)⟩, ⟨some 11, none, .load (some 2) (.t 10)⟩, ⟨some 5, none, .alloc [.pv (.int .i64 0), .pv (.int .i64 0)]⟩, ⟨none, none, .store 2 (.t 5) (.t 11)⟩]) (.seq (.seq (.reg [⟨some 12, none, .mov (.t 0)⟩, ⟨some 13, none, .load (some 2) (.t 5)⟩, ⟨some 14, none, .mov (.t 3)⟩, ⟨some 15, none, .callv (.t 12) [(.t 13), (.t 14)]⟩, ⟨some 16, none, .un .not (.t 15)⟩]) (.cond (.t 16) (.ret) (.skip))) (.reg [⟨some 17, none, .mov (.t 3)⟩, ⟨some 18, none, .fad 1 (.t 5)⟩, ⟨some 19, none, .load none (.t 18)⟩, ⟨some 20, none, .bin .add (.t 17) (.t 19)⟩, ⟨some 3, none, .mov (.t 20)⟩])))) (.reg [⟨some 21, none, .bin .add (.t 8) (.c (.pv (.int .i64 1)))⟩, ⟨some 8, none, .mov (.t 21)⟩])))))))
theorem k_format_shifted_1_B : FnOk Tryd.prog 92 22 c_format_shifted_1_B [] := .mk' (fn := Tryd.f92) rfl rfl (by kernel_rfl) rfl (by kernel_rfl) (by kernel_rfl)
end Go.Proofs.YthocoandbiaoiaaDoorV

namespace Go.Proofs.YthocoandbiaoiaaDoorV
open Go
theorem CallNext.data {P : Program} {gl : Glob} {f : FuncId} {ds : List DV} {s : St} {dst : Option Nat} {K : St → Prop} {d : DV} (h : PCall P gl f ds d) (hk : K ⟨eput s.e dst d, s.h, s.nx⟩) : CallNext P gl (.func f) ds s dst K := .pure h fun _ => hk
theorem RfVC.all {P : Program} {gl : Glob} {n : Nat} {e0 : Env} {ps : List Nat} {vx vy : (Ex → St → Prop) → St → Prop} {gf : FuncId} {cs : List DV} {Q : Ex → St → Prop} (N : Nat) (HS : Nat → Heap) (av : Nat → List DV) (st : Heap) (hst : st = HS 0)
    (hc : ∀ x ∈ cs, x.nm fun i => i < n) (hav : ∀ i, i < N → (av i).length = ps.length ∧ ∀ d ∈ av i, d.nm fun j => j < n) (hnm : ∀ i, i ≤ N → heapNm n (HS i))
    (hgf : ∀ l R, (∀ i, i < N → ACall P gl (.yield l) (n + 1) (av i) ((n, .lrec l R none e0) :: HS i) (.pv (.bool true)) ((n, .lrec l R none e0) :: HS (i + 1)) (n + 1)) →
      ACall P gl (.func gf) (n + 1) (([DV.fn (.yield l) [] []] ++ cs).map DV.norm) ((n, .lrec l R none e0) :: HS 0) (.tup []) ((n, .lrec l R none e0) :: HS N) (n + 1))
    (hround : ∀ i, i < N → vx (fun e s' => match e with | .nrm => vy (fun e s'' => exJump e = none ∧ ∃ ob, kobs s''.h ob = HS (i + 1)) s' | _ => False) { e := ps.zip (av i) ++ e0, h := HS i, nx := n })
    (hQ : Q .nrm { e := e0, h := HS N, nx := n }) :
    RfVC P gl n e0 st ps vx vy gf [] cs Q := by
  subst hst
  refine ⟨by simpa using hc, none, HS N, n + 1, .tup [], hnm N (Nat.le_refl _), fun l R hr => ?_, hQ⟩
  have h := hgf l R fun i hi => by
    have := hr (av i) (HS i) none (HS (i + 1)) (hav i hi).1 (hav i hi).2 (hnm i (by omega)) (hnm (i + 1) hi) (hround i hi)
    simpa using this
  simpa using h
theorem RfVC.sts {P : Program} {gl : Glob} {n : Nat} {e0 : Env} {ps : List Nat} {vx vy : (Ex → St → Prop) → St → Prop} {gf : FuncId} {cs : List DV} {Q : Ex → St → Prop} {σ : Type} (HS : σ → Heap) (I : σ → Prop) (nx : σ → σ) (av : σ → List DV) (s0 s1 : σ) (st : Heap) (hst : st = HS s0)
    (hc : ∀ x ∈ cs, x.nm fun i => i < n) (hav : ∀ s, I s → (av s).length = ps.length ∧ ∀ d ∈ av s, d.nm fun j => j < n) (hnm : ∀ s, heapNm n (HS s))
    (hgf : ∀ l R, (∀ s, I s → ACall P gl (.yield l) (n + 1) (av s) ((n, .lrec l R none e0) :: HS s) (.pv (.bool true)) ((n, .lrec l R none e0) :: HS (nx s)) (n + 1)) →
      ACall P gl (.func gf) (n + 1) (([DV.fn (.yield l) [] []] ++ cs).map DV.norm) ((n, .lrec l R none e0) :: HS s0) (.tup []) ((n, .lrec l R none e0) :: HS s1) (n + 1))
    (hround : ∀ s, I s → vx (fun e s' => match e with | .nrm => vy (fun e s'' => exJump e = none ∧ ∃ ob, kobs s''.h ob = HS (nx s)) s' | _ => False) { e := ps.zip (av s) ++ e0, h := HS s, nx := n })
    (hQ : Q .nrm { e := e0, h := HS s1, nx := n }) :
    RfVC P gl n e0 st ps vx vy gf [] cs Q := by
  subst hst
  refine ⟨by simpa using hc, none, HS s1, n + 1, .tup [], hnm s1, fun l R hr => ?_, hQ⟩
  have h := hgf l R fun s hi => by
    have := hr (av s) (HS s) none (HS (nx s)) (hav s hi).1 (hav s hi).2 (hnm s) (hnm _) (hround s hi)
    simpa using this
  simpa using h
end Go.Proofs.YthocoandbiaoiaaDoorV

namespace Go.Proofs.YthocoandbiaoiaaDoorV
open Go
def topsN (m : Mach) : Nat → List Int
  | 0 => []
  | i + 1 => topsN m i ++ if (gt m.regs (i : Nat)).of = -1 then [(i : Int)] else []
def tops (m : Mach) : List Int := topsN m m.regs.length
def topOf (m : Mach) (reg : Int) : Int := if (gt m.regs reg).of = -1 then reg else (gt m.regs reg).of
def place (l : List Int) (x : Int) : Nat := l.idxOf x
def partI (m : Mach) (reg : Int) : Int × Int × Int := if inR reg 0 (m.regs.length - 1) then (((place (tops m) (topOf m reg) : Nat) : Int), (gt m.regs reg).low, (gt m.regs reg).width) else (0, 0, 0)
def partE (m : Mach) (reg : Int) : Int := if mcheck m = 0 then if inR reg 0 (m.regs.length - 1) then 0 else 2 else mcheck m
def overB (m : Mach) (a b : Int) : Bool :=
  decide ((partI m a).1 = (partI m b).1) && decide ((partI m a).2.1 < (partI m b).2.1 + (partI m b).2.2) && decide ((partI m b).2.1 < (partI m a).2.1 + (partI m a).2.2)
def overE (m : Mach) (a b : Int) : Int := if partE m a = 0 then partE m b else partE m a
def sumN (f : Nat → Nat) : Nat → Nat
  | 0 => 0
  | n + 1 => sumN f n + f n
def effNodes (x : Eff) : Nat := x.addr.nodes + x.value.nodes + x.cond.nodes
def insNodes (s : Ins_) (k : Nat) : Nat := sumN (fun k => effNodes (gt s.effects (k : Nat))) k
def machNodes (m : Mach) (i : Nat) : Nat := sumN (fun i => insNodes (gt m.instrs (i : Nat)) (gt m.instrs (i : Nat)).effects.length) i
def greatBk (b : Bank) : Bool := decide (74 < b.regs.length) || decide (100 < b.name.size)
def greatOp (o : Opnd) : Bool := decide (14 < o.pieces.length) || decide (100 < o.name.size)
def greatEf (x : Eff) : Bool := x.addr.great || x.value.great || x.cond.great
def greatIn (s : Ins_) : Bool := decide (14 < s.operands.length) || decide (14 < s.effects.length) || decide (100 < s.name.size) || s.operands.any greatOp || s.effects.any greatEf
def greatM (m : Mach) : Bool :=
  decide (100 < m.name.size) || decide (74 < m.regs.length) || decide (26 < m.banks.length) || decide (18 < m.units.length) || decide (74 < m.instrs.length) || m.banks.any greatBk || m.instrs.any greatIn || decide (1500 < machNodes m m.instrs.length)
theorem sumN_le {f : Nat → Nat} {c : Nat} : ∀ {n : Nat}, (∀ i, i < n → f i ≤ c) → sumN f n ≤ n * c
  | 0, _ => by simp [sumN]
  | n + 1, h => by
    have h1 := sumN_le (f := f) (c := c) (n := n) fun i hi => h i (by omega)
    have h2 := h n (by omega)
    rw [sumN, Nat.add_mul]; omega
def fndI {α : Type} (m : Mach) (l : List α) (p : α → Bool) : Int := if mcheck m = 0 then if fstI p l < 0 then 0 else fstI p l else 0
def fndE {α : Type} (m : Mach) (l : List α) (p : α → Bool) : Int := if mcheck m = 0 then if fstI p l < 0 then 6 else 0 else mcheck m
def rootsL (m : Mach) : List Int := if mcheck m = 0 then tops m else []
def partR (m : Mach) (reg : Int) : Int × Int × Int := if mcheck m = 0 then partI m reg else (0, 0, 0)
def overR (m : Mach) (a b : Int) : Bool := decide (overE m a b = 0) && overB m a b
theorem topsN_lt (m : Mach) : ∀ n, ∀ x ∈ topsN m n, 0 ≤ x ∧ x < n
  | 0, x, h => by simp [topsN] at h
  | n + 1, x, h => by
    rw [topsN, List.mem_append] at h
    rcases h with h | h
    · have := topsN_lt m n x h; omega
    · split at h
      · simp only [List.mem_singleton] at h; omega
      · simp at h
theorem topsN_sorted (m : Mach) : ∀ n, (topsN m n).Pairwise (· < ·)
  | 0 => by simp [topsN]
  | n + 1 => by
    rw [topsN, List.pairwise_append]
    refine ⟨topsN_sorted m n, by split <;> simp, fun a ha b hb => ?_⟩
    have h1 := topsN_lt m n a ha
    split at hb
    · simp only [List.mem_singleton] at hb; omega
    · simp at hb
theorem topsN_len (m : Mach) : ∀ n, (topsN m n).length ≤ n
  | 0 => by simp [topsN]
  | n + 1 => by
    have := topsN_len m n
    rw [topsN, List.length_append]
    split <;> simp <;> omega
theorem mem_topsN (m : Mach) {i : Nat} : ∀ n, i < n → (gt m.regs (i : Nat)).of = -1 → (i : Int) ∈ topsN m n
  | 0, h, _ => by omega
  | n + 1, h, ho => by
    rw [topsN, List.mem_append]
    rcases Nat.lt_or_eq_of_le (Nat.le_of_lt_succ h) with h | rfl
    · exact .inl (mem_topsN m n h ho)
    · right; rw [if_pos ho]; simp
theorem topOf_mem {m : Mach} (hr : okRegs m = true) {reg : Int} (h : inR reg 0 (m.regs.length - 1) = true) : topOf m reg ∈ tops m := by
  have h1 : 0 ≤ reg ∧ reg ≤ (m.regs.length : Int) - 1 := by simpa [inR] using h
  simp only [okRegs, Bool.and_eq_true] at hr
  have h2 := allB_true.1 hr.1 reg.toNat (by omega)
  simp only [rgOk, Bool.and_eq_true] at h2
  rw [Int.toNat_of_nonneg h1.1] at h2
  have h3 := h2.2
  unfold topOf
  split at h3
  · rename_i ho
    rw [if_pos ho]
    obtain ⟨i, rfl⟩ := Int.eq_ofNat_of_zero_le h1.1
    exact mem_topsN m _ (by omega) ho
  · rename_i ho
    rw [if_neg ho]
    simp only [Bool.and_eq_true, decide_eq_true_eq] at h3
    have h4 : 0 ≤ (gt m.regs reg).of ∧ (gt m.regs reg).of ≤ (m.regs.length : Int) - 1 := by simpa [inR] using h3.1
    obtain ⟨i, hi⟩ := Int.eq_ofNat_of_zero_le h4.1
    have h5 := h3.2.1.1.1
    rw [hi] at h5 h4 ⊢
    exact mem_topsN m _ (by omega) h5
theorem low_of {m : Mach} (hr : okRegs m = true) {reg : Int} (h : inR reg 0 (m.regs.length - 1) = true) : 0 ≤ (gt m.regs reg).low ∧ (gt m.regs reg).low ≤ 64 ∧ 1 ≤ (gt m.regs reg).width ∧ (gt m.regs reg).width ≤ 64 := by
  have h1 : 0 ≤ reg ∧ reg ≤ (m.regs.length : Int) - 1 := by simpa [inR] using h
  simp only [okRegs, Bool.and_eq_true] at hr
  have h2 := allB_true.1 hr.1 reg.toNat (by omega)
  simp only [rgOk, Bool.and_eq_true] at h2
  rw [Int.toNat_of_nonneg h1.1] at h2
  have h3 := h2.2
  have h4 : 1 ≤ (gt m.regs reg).width ∧ (gt m.regs reg).width ≤ 64 := by simpa [inR] using h2.1.1.2
  split at h3
  · simp only [decide_eq_true_eq] at h3; omega
  · simp only [Bool.and_eq_true, decide_eq_true_eq] at h3
    have h5 : 1 ≤ (gt m.regs (gt m.regs reg).of).width ∧ (gt m.regs (gt m.regs reg).of).width ≤ 64 := by simpa [inR] using h3.2.1.1.2
    have h6 : 0 ≤ (gt m.regs reg).low ∧ (gt m.regs reg).low ≤ (gt m.regs (gt m.regs reg).of).width - (gt m.regs reg).width := by simpa [inR] using h3.2.2
    omega
theorem first_place {l : List Int} {x : Int} {i : Nat} (hi : i < l.length) (he : gt l (i : Nat) = x) (hn : ∀ k, k < i → gt l (k : Nat) ≠ x) : place l x = i := by
  induction l generalizing i with
  | nil => simp at hi
  | cons a r ih =>
    unfold place
    cases i with
    | zero =>
      have : a = x := by simpa [gt] using he
      rw [List.idxOf_cons, this]; simp
    | succ i =>
      have h0 : a ≠ x := by have := hn 0 (by omega); simpa [gt] using this
      have hi' : i < r.length := by simpa using hi
      rw [gt_cons hi'] at he
      have := ih hi' he fun k hk => by have := hn (k + 1) (by omega); rwa [gt_cons (by omega)] at this
      rw [List.idxOf_cons, show (a == x) = false from by simp [h0]]
      unfold place at this
      simp [this]
theorem place_gt {l : List Int} {x : Int} (h : x ∈ l) : place l x < l.length ∧ gt l ((place l x : Nat) : Int) = x := by
  have h1 : l.idxOf x < l.length := List.idxOf_lt_length_iff.2 h
  refine ⟨h1, ?_⟩
  unfold place
  rw [gt_nat h1]; exact List.getElem_idxOf h1
theorem sorted_gt {l : List Int} (hs : l.Pairwise (· < ·)) {i k : Nat} (h : i < k) (hk : k < l.length) : gt l (i : Nat) < gt l (k : Nat) := by
  rw [gt_nat hk, gt_nat (by omega)]
  exact List.pairwise_iff_getElem.1 hs i k _ hk h
theorem sorted_place {l : List Int} (hs : l.Pairwise (· < ·)) {x : Int} (hx : x ∈ l) {i : Nat} (hi : i ≤ l.length) (h1 : ∀ k, k < i → gt l (k : Nat) < x) (h2 : ∀ k, i ≤ k → k < l.length → x ≤ gt l (k : Nat)) : place l x = i := by
  obtain ⟨hp, he⟩ := place_gt hx
  rcases Nat.lt_trichotomy (place l x) i with h | h | h
  · have := h1 _ h; omega
  · exact h
  · have h3 := h2 i (Nat.le_refl _) (by omega)
    have h4 := sorted_gt hs h hp
    omega
theorem fstI_le {α : Type} {l : List α} {p : α → Bool} : -1 ≤ fstI p l ∧ fstI p l < l.length ∨ l = [] ∧ fstI p l = -1 := by
  unfold fstI
  split
  · rename_i i h
    rw [List.findIdx?_eq_some_iff_getElem] at h
    obtain ⟨h1, -⟩ := h
    left; omega
  · by_cases h : l = []
    · exact .inr ⟨h, rfl⟩
    · have := List.length_pos_iff.2 h; left; omega
theorem over_eq {m : Mach} (hr : okRegs m = true) {a b : Int} (ha : inR a 0 (m.regs.length - 1) = true) (hb : inR b 0 (m.regs.length - 1) = true) :
    overB m a b = (decide ((partI m a).1 = (partI m b).1) && decide (max (partI m a).2.1 (partI m b).2.1 < min ((partI m a).2.1 + (partI m a).2.2) ((partI m b).2.1 + (partI m b).2.2))) := by
  have h1 := low_of hr ha
  have h2 := low_of hr hb
  rw [overB, Bool.and_assoc]
  congr 1
  rw [← Bool.decide_and, decide_eq_decide]
  simp only [partI, ha, hb, if_true]
  omega
theorem mcheck_regs {m : Mach} (h : mcheck m = 0) : okRegs m = true ∧ inLimits m = true := by
  unfold mcheck at h
  split at h
  · rename_i hl
    split at h
    · rename_i hb
      simp only [Bool.and_eq_true] at hb
      exact ⟨hb.1.1.1.2, hl⟩
    · omega
  · omega
theorem mach_bd {m : Mach} (h : m.pv.wf) : m.regs.length ≤ 9223372036854775807 ∧ m.banks.length ≤ 9223372036854775807 ∧ m.units.length ≤ 9223372036854775807 ∧ m.instrs.length ≤ 9223372036854775807 ∧ (∀ b ∈ m.banks, b.regs.length ≤ 9223372036854775807) ∧ ∀ s ∈ m.instrs, s.operands.length ≤ 9223372036854775807 := by
  rw [Mach.wf_pv] at h; simp [-Mach.fold, maxLen] at h
  obtain ⟨-, -, -, ⟨h1, -⟩, ⟨h2, h5⟩, ⟨h3, -⟩, ⟨h4, h6⟩⟩ := h
  refine ⟨h1, h2, h3, h4, fun b hb => ?_, fun s hs => ?_⟩
  · have := h5 b hb; rw [Bank.wf_pv] at this; simp [-Bank.fold, maxLen, ints] at this; exact this.2.1
  · have := h6 s hs; rw [Ins_.wf_pv] at this; simp [-Ins_.fold, maxLen] at this; exact this.2.2.2.1.1
end Go.Proofs.YthocoandbiaoiaaDoorV

namespace Go.Proofs.YthocoandbiaoiaaDoorV
open Go
set_option maxRecDepth 100000
/- "retarget/machine.Check" -/
def c_machine_Check : C :=
.seq (.reg [⟨some 1, none, .box 7 (.t 0)⟩, ⟨some 2, none, .mov (.c (.pv (.int .i64 0)))⟩]) (.seq (.seq (.reg [⟨some 7, none, .load (some 7) (.t 1)⟩, ⟨some 8, none, .callf 33 [(.t 7)]⟩, ⟨some 9, none, .un .not (.t 8)⟩]) (.cond (.t 9) (.seq (.reg [⟨some 2, none, .mov (.c (.pv (.int .i64 4)))⟩]) (.ret)) (.skip))) (.seq (.reg [⟨some 10, none, .load (some 7) (.t 1)⟩, ⟨some 11, none, .build [.pv (.str ⟨#[]⟩), .pv (.int .i64 0), .pv (.int .i64 0), .nilS 4, .nilS 2, .nilS 2, .nilS 9, .pv (.bool false)] [((0, 7), (.t 10)), ((7, 1), (.c (.pv (.bool true))))]⟩, ⟨some 12, none, .box 8 (.t 11)⟩, ⟨some 3, none, .mov (.t 12)⟩]) (.seq (.dreg [⟨some 13, none, .mov (.t 3)⟩, ⟨some 14, none, .fad 0 (.t 1)⟩, ⟨some 15, none, .load none (.t 14)⟩, ⟨some 16, none, .callf 35 [(.t 15)]⟩, ⟨some 17, none, .fad 1 (.t 1)⟩, ⟨some 18, none, .load none (.t 17)⟩, ⟨some 19, none, .callf 36 [(.t 18), (.c (.pv (.int .i64 1))), (.c (.pv (.int .i64 4)))]⟩, ⟨some 20, none, .fad 2 (.t 1)⟩, ⟨some 21, none, .load none (.t 20)⟩, ⟨some 22, none, .bin .eql (.t 21) (.c (.pv (.int .i64 16)))⟩, ⟨some 23, none, .mov (.t 22)⟩, ⟨some 24, some (23, false), .fad 2 (.t 1)⟩, ⟨some 25, some (23, false), .load none (.t 24)⟩, ⟨some 26, some (23, false), .bin .eql (.t 25) (.c (.pv (.int .i64 32)))⟩, ⟨some 27, none, .lor (.t 23) (.t 26)⟩, ⟨some 28, none, .lit 1 [(.t 16), (.t 19), (.t 27)]⟩, ⟨some 29, none, .callf 34 [(.t 13), (.t 28)]⟩] [[], [], [1], [1, 2], [], [4], [1, 2, 3, 4, 5], [], [7], [7, 8], [1, 2, 3, 4, 5, 6, 7, 8, 9], [1, 2, 3, 4, 5, 6, 7, 8, 9, 10], [1, 2, 3, 4, 5, 6, 7, 8, 9, 10, 11], [1, 2, 3, 4, 5, 6, 7, 8, 9, 10, 11, 12], [1, 2, 3, 4, 5, 6, 7, 8, 9, 10, 11, 12, 13], [1, 2, 3, 4, 5, 6, 7, 8, 9, 10, 11, 12, 13, 14], [0, 1, 2, 3, 4, 5, 6, 7, 8, 9, 10, 11, 12, 13, 14, 15]]) (.seq (.reg [⟨some 30, none, .mov (.t 3)⟩, ⟨some 31, none, .callf 37 [(.t 30)]⟩]) (.seq (.reg [⟨some 32, none, .mov (.t 3)⟩, ⟨some 33, none, .callf 38 [(.t 32)]⟩]) (.seq (.reg [⟨some 34, none, .mov (.t 3)⟩, ⟨some 35, none, .callf 39 [(.t 34)]⟩]) (.seq (.reg [⟨some 4, none, .alloc [.nilS 1]⟩]) (.gh (.ownf 4 0 1) (.seq (.seq (.reg [⟨some 36, none, .fad 6 (.t 1)⟩, ⟨some 37, none, .load none (.t 36)⟩, ⟨some 38, none, .len (.t 37)⟩, ⟨some 39, none, .mov (.c (.pv (.int .i64 0)))⟩]) (.blk 0 (.loop ⟨[3, 4, 37, 38, 39], [0, 1, 19, 20], 21⟩ (.seq (.reg [⟨some 40, none, .bin .lss (.t 39) (.t 38)⟩]) (.seq (.cond (.t 40) (.skip) (.ext 0)) (.seq (.blk 1 (.seq (.reg [⟨some 41, none, .iad 9 (.t 37) (.t 39)⟩, ⟨some 42, none, .load (some 9) (.t 41)⟩, ⟨some 6, none, .alloc [.pv (.str ⟨#[]⟩), .pv (.int .u64 0), .pv (.int .u64 0), .nilS 6, .nilS 21, .pv (.int .i64 0), .pv (.int .i64 0), .pv (.int .i64 0), .pv (.int .i64 0)]⟩, ⟨none, none, .store 9 (.t 6) (.t 42)⟩]) (.seq (.seq (.reg [⟨some 43, none, .mov (.t 3)⟩, ⟨some 44, none, .nilc (.t 43)⟩, ⟨some 45, none, .fad 7 (.t 44)⟩, ⟨some 46, none, .load none (.t 45)⟩, ⟨some 47, none, .un .not (.t 46)⟩]) (.cond (.t 47) (.ext 0) (.skip))) (.seq (.reg [⟨some 48, none, .mov (.t 3)⟩, ⟨some 49, none, .fad 0 (.t 6)⟩, ⟨some 50, none, .load none (.t 49)⟩, ⟨some 51, none, .callf 40 [(.t 4), (.t 50)]⟩, ⟨some 52, none, .lit 1 [(.t 51)]⟩, ⟨some 53, none, .callf 34 [(.t 48), (.t 52)]⟩]) (.reg [⟨some 54, none, .mov (.t 3)⟩, ⟨some 55, none, .load (some 9) (.t 6)⟩, ⟨some 56, none, .callf 41 [(.t 54), (.t 55)]⟩]))))) (.reg [⟨some 57, none, .bin .add (.t 39) (.c (.pv (.int .i64 1)))⟩, ⟨some 39, none, .mov (.t 57)⟩]))))))) (.seq (.seq (.reg [⟨some 58, none, .mov (.t 3)⟩, ⟨some 59, none, .nilc (.t 58)⟩, ⟨some 60, none, .fad 7 (.t 59)⟩, ⟨some 61, none, .load none (.t 60)⟩, ⟨some 62, none, .un .not (.t 61)⟩]) (.cond (.t 62) (.seq (.reg [⟨some 2, none, .mov (.c (.pv (.int .i64 8)))⟩]) (.ret)) (.skip))) (.seq (.reg [⟨some 2, none, .mov (.c (.pv (.int .i64 0)))⟩]) (.ret))))))))))))
theorem k_machine_Check : FnOk Tryd.prog 14 63 c_machine_Check [.tmp 2] := .mk' (fn := Tryd.f14) rfl rfl (by kernel_rfl) rfl (by kernel_rfl) (by kernel_rfl)
/- "retarget/machine.small" -/
def c_machine_small : C :=
.seq (.reg [⟨some 1, none, .box 7 (.t 0)⟩, ⟨some 2, none, .mov (.c (.pv (.bool false)))⟩]) (.seq (.reg [⟨some 10, none, .fad 3 (.t 1)⟩, ⟨some 11, none, .load none (.t 10)⟩, ⟨some 12, none, .len (.t 11)⟩, ⟨some 13, none, .lit 1 [(.t 12)]⟩, ⟨some 14, none, .callr 56 [(.c (.pv (.int .i64 64))), (.t 13)]⟩, ⟨some 15, none, .mov (.t 14)⟩, ⟨some 16, some (15, true), .fad 4 (.t 1)⟩, ⟨some 17, some (15, true), .load none (.t 16)⟩, ⟨some 18, some (15, true), .len (.t 17)⟩, ⟨some 19, some (15, true), .lit 1 [(.t 18)]⟩, ⟨some 20, some (15, true), .callr 56 [(.c (.pv (.int .i64 16))), (.t 19)]⟩, ⟨some 21, none, .land (.t 15) (.t 20)⟩, ⟨some 22, none, .mov (.t 21)⟩, ⟨some 23, some (22, true), .fad 5 (.t 1)⟩, ⟨some 24, some (22, true), .load none (.t 23)⟩, ⟨some 25, some (22, true), .len (.t 24)⟩, ⟨some 26, some (22, true), .lit 1 [(.t 25)]⟩, ⟨some 27, some (22, true), .callr 56 [(.c (.pv (.int .i64 8))), (.t 26)]⟩, ⟨some 28, none, .land (.t 22) (.t 27)⟩, ⟨some 29, none, .mov (.t 28)⟩, ⟨some 30, some (29, true), .fad 6 (.t 1)⟩, ⟨some 31, some (29, true), .load none (.t 30)⟩, ⟨some 32, some (29, true), .len (.t 31)⟩, ⟨some 33, some (29, true), .lit 1 [(.t 32)]⟩, ⟨some 34, some (29, true), .callr 56 [(.c (.pv (.int .i64 64))), (.t 33)]⟩, ⟨some 35, none, .land (.t 29) (.t 34)⟩, ⟨some 3, none, .mov (.t 35)⟩]) (.seq (.seq (.reg [⟨some 36, none, .fad 4 (.t 1)⟩, ⟨some 37, none, .load none (.t 36)⟩, ⟨some 38, none, .len (.t 37)⟩, ⟨some 39, none, .mov (.c (.pv (.int .i64 0)))⟩]) (.blk 0 (.loop ⟨[1, 3, 37, 38, 39], [0], 1⟩ (.seq (.reg [⟨some 40, none, .bin .lss (.t 39) (.t 38)⟩]) (.seq (.cond (.t 40) (.skip) (.ext 0)) (.seq (.blk 1 (.seq (.reg [⟨some 41, none, .iad 2 (.t 37) (.t 39)⟩, ⟨some 42, none, .load (some 2) (.t 41)⟩, ⟨some 5, none, .alloc [.pv (.str ⟨#[]⟩), .nilS 1]⟩, ⟨none, none, .store 2 (.t 5) (.t 42)⟩]) (.reg [⟨some 43, none, .mov (.t 3)⟩, ⟨some 44, none, .mov (.t 43)⟩, ⟨some 45, some (44, true), .fad 1 (.t 5)⟩, ⟨some 46, some (44, true), .load none (.t 45)⟩, ⟨some 47, some (44, true), .len (.t 46)⟩, ⟨some 48, some (44, true), .lit 1 [(.t 47)]⟩, ⟨some 49, some (44, true), .callr 56 [(.c (.pv (.int .i64 64))), (.t 48)]⟩, ⟨some 50, none, .land (.t 44) (.t 49)⟩, ⟨some 3, none, .mov (.t 50)⟩]))) (.reg [⟨some 51, none, .bin .add (.t 39) (.c (.pv (.int .i64 1)))⟩, ⟨some 39, none, .mov (.t 51)⟩]))))))) (.seq (.seq (.reg [⟨some 52, none, .fad 6 (.t 1)⟩, ⟨some 53, none, .load none (.t 52)⟩, ⟨some 54, none, .len (.t 53)⟩, ⟨some 55, none, .mov (.c (.pv (.int .i64 0)))⟩]) (.blk 2 (.loop ⟨[3, 53, 54, 55], [0], 1⟩ (.seq (.reg [⟨some 56, none, .bin .lss (.t 55) (.t 54)⟩]) (.seq (.cond (.t 56) (.skip) (.ext 2)) (.seq (.blk 3 (.seq (.reg [⟨some 57, none, .iad 9 (.t 53) (.t 55)⟩, ⟨some 58, none, .load (some 9) (.t 57)⟩, ⟨some 7, none, .alloc [.pv (.str ⟨#[]⟩), .pv (.int .u64 0), .pv (.int .u64 0), .nilS 6, .nilS 21, .pv (.int .i64 0), .pv (.int .i64 0), .pv (.int .i64 0), .pv (.int .i64 0)]⟩, ⟨none, none, .store 9 (.t 7) (.t 58)⟩]) (.seq (.reg [⟨some 59, none, .mov (.t 3)⟩, ⟨some 60, none, .mov (.t 59)⟩, ⟨some 61, some (60, true), .fad 3 (.t 7)⟩, ⟨some 62, some (60, true), .load none (.t 61)⟩, ⟨some 63, some (60, true), .len (.t 62)⟩, ⟨some 64, some (60, true), .lit 1 [(.t 63)]⟩, ⟨some 65, some (60, true), .callr 56 [(.c (.pv (.int .i64 4))), (.t 64)]⟩, ⟨some 66, none, .land (.t 60) (.t 65)⟩, ⟨some 67, none, .mov (.t 66)⟩, ⟨some 68, some (67, true), .fad 4 (.t 7)⟩, ⟨some 69, some (67, true), .load none (.t 68)⟩, ⟨some 70, some (67, true), .len (.t 69)⟩, ⟨some 71, some (67, true), .lit 1 [(.t 70)]⟩, ⟨some 72, some (67, true), .callr 56 [(.c (.pv (.int .i64 4))), (.t 71)]⟩, ⟨some 73, none, .land (.t 67) (.t 72)⟩, ⟨some 3, none, .mov (.t 73)⟩]) (.seq (.reg [⟨some 74, none, .fad 3 (.t 7)⟩, ⟨some 75, none, .load none (.t 74)⟩, ⟨some 76, none, .len (.t 75)⟩, ⟨some 77, none, .mov (.c (.pv (.int .i64 0)))⟩]) (.blk 4 (.loop ⟨[3, 53, 54, 55, 75, 76, 77], [0, 1], 2⟩ (.seq (.reg [⟨some 78, none, .bin .lss (.t 77) (.t 76)⟩]) (.seq (.cond (.t 78) (.skip) (.ext 4)) (.seq (.blk 5 (.seq (.reg [⟨some 79, none, .iad 6 (.t 75) (.t 77)⟩, ⟨some 80, none, .load (some 6) (.t 79)⟩, ⟨some 9, none, .alloc [.pv (.str ⟨#[]⟩), .pv (.int .u8 0), .pv (.int .i64 0), .pv (.int .i64 0), .nilS 2, .pv (.int .i64 0)]⟩, ⟨none, none, .store 6 (.t 9) (.t 80)⟩]) (.reg [⟨some 81, none, .mov (.t 3)⟩, ⟨some 82, none, .mov (.t 81)⟩, ⟨some 83, some (82, true), .fad 4 (.t 9)⟩, ⟨some 84, some (82, true), .load none (.t 83)⟩, ⟨some 85, some (82, true), .len (.t 84)⟩, ⟨some 86, some (82, true), .lit 1 [(.t 85)]⟩, ⟨some 87, some (82, true), .callr 56 [(.c (.pv (.int .i64 4))), (.t 86)]⟩, ⟨some 88, none, .land (.t 82) (.t 87)⟩, ⟨some 3, none, .mov (.t 88)⟩]))) (.reg [⟨some 89, none, .bin .add (.t 77) (.c (.pv (.int .i64 1)))⟩, ⟨some 77, none, .mov (.t 89)⟩])))))))))) (.reg [⟨some 90, none, .bin .add (.t 55) (.c (.pv (.int .i64 1)))⟩, ⟨some 55, none, .mov (.t 90)⟩]))))))) (.seq (.reg [⟨some 91, none, .mov (.t 3)⟩, ⟨some 2, none, .mov (.t 91)⟩]) (.ret)))))
theorem k_machine_small : FnOk Tryd.prog 33 92 c_machine_small [.tmp 2] := .mk' (fn := Tryd.f33) rfl rfl (by kernel_rfl) rfl (by kernel_rfl) (by kernel_rfl)
/- "(*retarget/machine.checker).must" -/
def c_machine_checker_must : C :=
.seq (.reg [⟨some 6, none, .mov (.t 1)⟩, ⟨some 7, none, .len (.t 6)⟩, ⟨some 8, none, .mov (.c (.pv (.int .i64 0)))⟩]) (.blk 0 (.loop ⟨[0, 6, 7, 8], [0], 1⟩ (.seq (.reg [⟨some 9, none, .bin .lss (.t 8) (.t 7)⟩]) (.seq (.cond (.t 9) (.skip) (.ext 0)) (.seq (.blk 1 (.seq (.reg [⟨some 10, none, .iad 1 (.t 6) (.t 8)⟩, ⟨some 11, none, .load none (.t 10)⟩, ⟨some 5, none, .mov (.t 11)⟩]) (.reg [⟨some 12, none, .mov (.t 0)⟩, ⟨some 13, none, .mov (.t 0)⟩, ⟨some 14, none, .nilc (.t 13)⟩, ⟨some 15, none, .fad 7 (.t 14)⟩, ⟨some 16, none, .load none (.t 15)⟩, ⟨some 17, none, .mov (.t 16)⟩, ⟨some 18, some (17, true), .mov (.t 5)⟩, ⟨some 19, none, .land (.t 17) (.t 18)⟩, ⟨some 20, none, .nilc (.t 12)⟩, ⟨some 21, none, .fad 7 (.t 20)⟩, ⟨none, none, .store 1 (.t 21) (.t 19)⟩]))) (.reg [⟨some 22, none, .bin .add (.t 8) (.c (.pv (.int .i64 1)))⟩, ⟨some 8, none, .mov (.t 22)⟩]))))))
theorem k_machine_checker_must : FnOk Tryd.prog 34 23 c_machine_checker_must [] := .mk' (fn := Tryd.f34) rfl rfl (by kernel_rfl) rfl (by kernel_rfl) (by kernel_rfl)
/- "retarget/machine.within" -/
def c_machine_within : C :=
.seq (.reg [⟨some 6, none, .mov (.c (.pv (.bool false)))⟩]) (.seq (.reg [⟨some 7, none, .mov (.t 1)⟩, ⟨some 8, none, .mov (.t 0)⟩, ⟨some 9, none, .bin .leq (.t 7) (.t 8)⟩, ⟨some 10, none, .mov (.t 9)⟩, ⟨some 11, some (10, true), .mov (.t 0)⟩, ⟨some 12, some (10, true), .mov (.t 2)⟩, ⟨some 13, some (10, true), .bin .leq (.t 11) (.t 12)⟩, ⟨some 14, none, .land (.t 10) (.t 13)⟩, ⟨some 6, none, .mov (.t 14)⟩]) (.ret))
theorem k_machine_within : FnOk Tryd.prog 36 15 c_machine_within [.tmp 6] := .mk' (fn := Tryd.f36) rfl rfl (by kernel_rfl) rfl (by kernel_rfl) (by kernel_rfl)
/- "(*retarget/machine.checker).regs" -/
def c_machine_checker_regs : C :=
.seq (.reg [⟨some 2, none, .alloc [.nilS 1]⟩]) (.gh (.ownf 2 0 1) (.seq (.reg [⟨some 6, none, .mov (.t 0)⟩, ⟨some 7, none, .mov (.t 0)⟩, ⟨some 8, none, .nilc (.t 7)⟩, ⟨some 9, none, .fad 0 (.t 8)⟩, ⟨some 10, none, .fad 3 (.t 9)⟩, ⟨some 11, none, .load none (.t 10)⟩, ⟨some 12, none, .len (.t 11)⟩, ⟨some 13, none, .bin .gtr (.t 12) (.c (.pv (.int .i64 0)))⟩, ⟨some 14, none, .lit 1 [(.t 13)]⟩, ⟨some 15, none, .callf 34 [(.t 6), (.t 14)]⟩]) (.seq (.reg [⟨some 16, none, .mov (.t 0)⟩, ⟨some 17, none, .nilc (.t 16)⟩, ⟨some 18, none, .fad 0 (.t 17)⟩, ⟨some 19, none, .fad 3 (.t 18)⟩, ⟨some 20, none, .load none (.t 19)⟩, ⟨some 21, none, .len (.t 20)⟩, ⟨some 22, none, .mov (.c (.pv (.int .i64 0)))⟩]) (.blk 0 (.loop ⟨[0, 2, 20, 21, 22], [0, 1, 2], 3⟩ (.seq (.reg [⟨some 23, none, .bin .lss (.t 22) (.t 21)⟩]) (.seq (.cond (.t 23) (.skip) (.ext 0)) (.seq (.blk 1 (.seq (.reg [⟨some 24, none, .iad 4 (.t 20) (.t 22)⟩, ⟨some 25, none, .load (some 4) (.t 24)⟩, ⟨some 4, none, .alloc [.pv (.str ⟨#[]⟩), .pv (.int .i64 0), .pv (.int .i64 0), .pv (.int .i64 0)]⟩, ⟨none, none, .store 4 (.t 4) (.t 25)⟩]) (.seq (.dreg [⟨some 26, none, .mov (.t 0)⟩, ⟨some 27, none, .fad 0 (.t 4)⟩, ⟨some 28, none, .load none (.t 27)⟩, ⟨some 29, none, .callf 40 [(.t 2), (.t 28)]⟩, ⟨some 30, none, .fad 1 (.t 4)⟩, ⟨some 31, none, .load none (.t 30)⟩, ⟨some 32, none, .callf 36 [(.t 31), (.c (.pv (.int .i64 1))), (.c (.pv (.int .i64 64)))]⟩, ⟨some 33, none, .lit 1 [(.t 29), (.t 32)]⟩, ⟨some 34, none, .callf 34 [(.t 26), (.t 33)]⟩] [[], [], [1], [1, 2], [], [4], [1, 2, 3, 4, 5], [1, 2, 3, 4, 5, 6], [0, 1, 2, 3, 4, 5, 6, 7]]) (.blk 2 (.seq (.reg [⟨some 67, none, .fad 2 (.t 4)⟩, ⟨some 68, none, .load none (.t 67)⟩, ⟨some 69, none, .bin .eql (.t 68) (.c (.pv (.int .i64 (-1))))⟩, ⟨some 66, none, .mov (.t 69)⟩]) (.cond (.t 66) (.reg [⟨some 70, none, .mov (.t 0)⟩, ⟨some 71, none, .fad 3 (.t 4)⟩, ⟨some 72, none, .load none (.t 71)⟩, ⟨some 73, none, .bin .eql (.t 72) (.c (.pv (.int .i64 0)))⟩, ⟨some 74, none, .lit 1 [(.t 73)]⟩, ⟨some 75, none, .callf 34 [(.t 70), (.t 74)]⟩]) (.seq (.dreg [⟨some 77, none, .fad 2 (.t 4)⟩, ⟨some 78, none, .load none (.t 77)⟩, ⟨some 79, none, .mov (.t 0)⟩, ⟨some 80, none, .nilc (.t 79)⟩, ⟨some 81, none, .fad 0 (.t 80)⟩, ⟨some 82, none, .fad 3 (.t 81)⟩, ⟨some 83, none, .load none (.t 82)⟩, ⟨some 84, none, .len (.t 83)⟩, ⟨some 85, none, .bin .sub (.t 84) (.c (.pv (.int .i64 1)))⟩, ⟨some 86, none, .callf 36 [(.t 78), (.c (.pv (.int .i64 0))), (.t 85)]⟩, ⟨some 87, none, .un .not (.t 86)⟩, ⟨some 76, none, .mov (.t 87)⟩] [[], [0], [], [2], [2, 3], [2, 3, 4], [2, 3, 4, 5], [2, 3, 4, 5, 6], [2, 3, 4, 5, 6, 7], [0, 1, 2, 3, 4, 5, 6, 7, 8], [0, 1, 2, 3, 4, 5, 6, 7, 8, 9], [0, 1, 2, 3, 4, 5, 6, 7, 8, 9, 10]]) (.cond (.t 76) (.reg [⟨some 88, none, .mov (.t 0)⟩, ⟨some 89, none, .lit 1 [(.c (.pv (.bool false)))]⟩, ⟨some 90, none, .callf 34 [(.t 88), (.t 89)]⟩]) (.seq (.dreg [⟨some 35, none, .mov (.t 0)⟩, ⟨some 36, none, .nilc (.t 35)⟩, ⟨some 37, none, .fad 0 (.t 36)⟩, ⟨some 38, none, .fad 3 (.t 37)⟩, ⟨some 39, none, .load none (.t 38)⟩, ⟨some 40, none, .fad 2 (.t 4)⟩, ⟨some 41, none, .load none (.t 40)⟩, ⟨some 42, none, .iad 4 (.t 39) (.t 41)⟩, ⟨some 43, none, .load (some 4) (.t 42)⟩, ⟨some 5, none, .alloc [.pv (.str ⟨#[]⟩), .pv (.int .i64 0), .pv (.int .i64 0), .pv (.int .i64 0)]⟩, ⟨none, none, .store 4 (.t 5) (.t 43)⟩] [[], [0], [0, 1], [0, 1, 2], [0, 1, 2, 3], [], [5], [0, 1, 2, 3, 4, 5, 6], [0, 1, 2, 3, 4, 5, 6, 7], [], [0, 1, 2, 3, 4, 5, 6, 7, 8, 9]]) (.dreg [⟨some 44, none, .mov (.t 0)⟩, ⟨some 45, none, .fad 2 (.t 5)⟩, ⟨some 46, none, .load none (.t 45)⟩, ⟨some 47, none, .bin .eql (.t 46) (.c (.pv (.int .i64 (-1))))⟩, ⟨some 48, none, .fad 1 (.t 4)⟩, ⟨some 49, none, .load none (.t 48)⟩, ⟨some 50, none, .fad 1 (.t 5)⟩, ⟨some 51, none, .load none (.t 50)⟩, ⟨some 52, none, .bin .lss (.t 49) (.t 51)⟩, ⟨some 53, none, .fad 1 (.t 5)⟩, ⟨some 54, none, .load none (.t 53)⟩, ⟨some 55, none, .callf 36 [(.t 54), (.c (.pv (.int .i64 1))), (.c (.pv (.int .i64 64)))]⟩, ⟨some 56, none, .fad 3 (.t 4)⟩, ⟨some 57, none, .load none (.t 56)⟩, ⟨some 58, none, .fad 1 (.t 5)⟩, ⟨some 59, none, .load none (.t 58)⟩, ⟨some 60, none, .fad 1 (.t 4)⟩, ⟨some 61, none, .load none (.t 60)⟩, ⟨some 62, none, .bin .sub (.t 59) (.t 61)⟩, ⟨some 63, none, .callf 36 [(.t 57), (.c (.pv (.int .i64 0))), (.t 62)]⟩, ⟨some 64, none, .lit 1 [(.t 47), (.t 52), (.t 55), (.t 63)]⟩, ⟨some 65, none, .callf 34 [(.t 44), (.t 64)]⟩] [[], [], [1], [1, 2], [], [4], [], [6], [4, 5, 6, 7], [], [9], [9, 10], [], [12], [], [14], [], [16], [14, 15, 16, 17], [9, 10, 11, 12, 13, 14, 15, 16, 17, 18], [1, 2, 3, 4, 5, 6, 7, 8, 9, 10, 11, 12, 13, 14, 15, 16, 17, 18, 19], [0, 1, 2, 3, 4, 5, 6, 7, 8, 9, 10, 11, 12, 13, 14, 15, 16, 17, 18, 19, 20]])))))))))) (.reg [⟨some 91, none, .bin .add (.t 22) (.c (.pv (.int .i64 1)))⟩, ⟨some 22, none, .mov (.t 91)⟩])))))))))
theorem k_machine_checker_regs : FnOk Tryd.prog 37 92 c_machine_checker_regs [] := .mk' (fn := Tryd.f37) rfl rfl (by kernel_rfl) rfl (by kernel_rfl) (by kernel_rfl)
/- "(*retarget/machine.checker).banks" -/
def c_machine_checker_banks : C :=
.seq (.reg [⟨some 2, none, .alloc [.nilS 1]⟩]) (.gh (.ownf 2 0 1) (.seq (.reg [⟨some 7, none, .mov (.t 0)⟩, ⟨some 8, none, .nilc (.t 7)⟩, ⟨some 9, none, .fad 0 (.t 8)⟩, ⟨some 10, none, .fad 4 (.t 9)⟩, ⟨some 11, none, .load none (.t 10)⟩, ⟨some 12, none, .len (.t 11)⟩, ⟨some 13, none, .mov (.c (.pv (.int .i64 0)))⟩]) (.blk 0 (.loop ⟨[0, 2, 11, 12, 13], [0, 1, 2], 3⟩ (.seq (.reg [⟨some 14, none, .bin .lss (.t 13) (.t 12)⟩]) (.seq (.cond (.t 14) (.skip) (.ext 0)) (.seq (.blk 1 (.seq (.reg [⟨some 15, none, .iad 2 (.t 11) (.t 13)⟩, ⟨some 16, none, .load (some 2) (.t 15)⟩, ⟨some 4, none, .alloc [.pv (.str ⟨#[]⟩), .nilS 1]⟩, ⟨none, none, .store 2 (.t 4) (.t 16)⟩]) (.seq (.dreg [⟨some 17, none, .mov (.t 0)⟩, ⟨some 18, none, .fad 0 (.t 4)⟩, ⟨some 19, none, .load none (.t 18)⟩, ⟨some 20, none, .callf 40 [(.t 2), (.t 19)]⟩, ⟨some 21, none, .fad 1 (.t 4)⟩, ⟨some 22, none, .load none (.t 21)⟩, ⟨some 23, none, .len (.t 22)⟩, ⟨some 24, none, .bin .gtr (.t 23) (.c (.pv (.int .i64 0)))⟩, ⟨some 25, none, .lit 1 [(.t 20), (.t 24)]⟩, ⟨some 26, none, .callf 34 [(.t 17), (.t 25)]⟩] [[], [], [1], [1, 2], [], [4], [4, 5], [4, 5, 6], [1, 2, 3, 4, 5, 6, 7], [0, 1, 2, 3, 4, 5, 6, 7, 8]]) (.seq (.reg [⟨some 27, none, .fad 1 (.t 4)⟩, ⟨some 28, none, .load none (.t 27)⟩, ⟨some 29, none, .len (.t 28)⟩, ⟨some 30, none, .mov (.c (.pv (.int .i64 0)))⟩]) (.blk 2 (.loop ⟨[0, 2, 4, 11, 12, 13, 28, 29, 30], [0, 1, 2, 3], 14⟩ (.seq (.reg [⟨some 31, none, .bin .lss (.t 30) (.t 29)⟩]) (.seq (.cond (.t 31) (.skip) (.ext 2)) (.seq (.blk 3 (.seq (.reg [⟨some 32, none, .mov (.t 30)⟩, ⟨some 33, none, .iad 1 (.t 28) (.t 30)⟩, ⟨some 34, none, .load none (.t 33)⟩, ⟨some 5, none, .mov (.t 32)⟩, ⟨some 6, none, .mov (.t 34)⟩]) (.seq (.dreg [⟨some 35, none, .mov (.t 0)⟩, ⟨some 36, none, .mov (.t 6)⟩, ⟨some 37, none, .mov (.t 0)⟩, ⟨some 38, none, .nilc (.t 37)⟩, ⟨some 39, none, .fad 0 (.t 38)⟩, ⟨some 40, none, .fad 3 (.t 39)⟩, ⟨some 41, none, .load none (.t 40)⟩, ⟨some 42, none, .len (.t 41)⟩, ⟨some 43, none, .bin .sub (.t 42) (.c (.pv (.int .i64 1)))⟩, ⟨some 44, none, .callf 36 [(.t 36), (.c (.pv (.int .i64 0))), (.t 43)]⟩, ⟨some 45, none, .fad 1 (.t 4)⟩, ⟨some 46, none, .load none (.t 45)⟩, ⟨some 47, none, .mov (.t 5)⟩, ⟨some 48, none, .cut 1 (.t 46) none (some (.t 47))⟩, ⟨some 49, none, .mov (.t 6)⟩, ⟨some 50, none, .callf 57 [(.t 48), (.t 49)]⟩, ⟨some 51, none, .un .not (.t 50)⟩, ⟨some 52, none, .lit 1 [(.t 44), (.t 51)]⟩, ⟨some 53, none, .callf 34 [(.t 35), (.t 52)]⟩] [[], [], [], [2], [2, 3], [2, 3, 4], [2, 3, 4, 5], [2, 3, 4, 5, 6], [2, 3, 4, 5, 6, 7], [1, 2, 3, 4, 5, 6, 7, 8], [], [10], [], [10, 11, 12], [], [1, 2, 3, 4, 5, 6, 7, 8, 9, 10, 11, 12, 13, 14], [1, 2, 3, 4, 5, 6, 7, 8, 9, 10, 11, 12, 13, 14, 15], [1, 2, 3, 4, 5, 6, 7, 8, 9, 10, 11, 12, 13, 14, 15, 16], [0, 1, 2, 3, 4, 5, 6, 7, 8, 9, 10, 11, 12, 13, 14, 15, 16, 17]]) (.seq (.reg [⟨some 54, none, .mov (.t 0)⟩, ⟨some 55, none, .nilc (.t 54)⟩, ⟨some 56, none, .fad 7 (.t 55)⟩, ⟨some 57, none, .load none (.t 56)⟩]) (.cond (.t 57) (.dreg [⟨some 58, none, .mov (.t 0)⟩, ⟨some 59, none, .mov (.t 0)⟩, ⟨some 60, none, .nilc (.t 59)⟩, ⟨some 61, none, .fad 0 (.t 60)⟩, ⟨some 62, none, .fad 3 (.t 61)⟩, ⟨some 63, none, .load none (.t 62)⟩, ⟨some 64, none, .mov (.t 6)⟩, ⟨some 65, none, .iad 4 (.t 63) (.t 64)⟩, ⟨some 66, none, .fad 1 (.t 65)⟩, ⟨some 67, none, .load none (.t 66)⟩, ⟨some 68, none, .mov (.t 0)⟩, ⟨some 69, none, .nilc (.t 68)⟩, ⟨some 70, none, .fad 0 (.t 69)⟩, ⟨some 71, none, .fad 3 (.t 70)⟩, ⟨some 72, none, .load none (.t 71)⟩, ⟨some 73, none, .fad 1 (.t 4)⟩, ⟨some 74, none, .load none (.t 73)⟩, ⟨some 75, none, .iad 1 (.t 74) (.c (.pv (.int .i64 0)))⟩, ⟨some 76, none, .load none (.t 75)⟩, ⟨some 77, none, .iad 4 (.t 72) (.t 76)⟩, ⟨some 78, none, .fad 1 (.t 77)⟩, ⟨some 79, none, .load none (.t 78)⟩, ⟨some 80, none, .bin .eql (.t 67) (.t 79)⟩, ⟨some 81, none, .lit 1 [(.t 80)]⟩, ⟨some 82, none, .callf 34 [(.t 58), (.t 81)]⟩] [[], [], [1], [1, 2], [1, 2, 3], [1, 2, 3, 4], [], [1, 2, 3, 4, 5, 6], [1, 2, 3, 4, 5, 6, 7], [1, 2, 3, 4, 5, 6, 7, 8], [], [10], [10, 11], [10, 11, 12], [10, 11, 12, 13], [], [15], [15, 16], [15, 16, 17], [10, 11, 12, 13, 14, 15, 16, 17, 18], [10, 11, 12, 13, 14, 15, 16, 17, 18, 19], [10, 11, 12, 13, 14, 15, 16, 17, 18, 19, 20], [1, 2, 3, 4, 5, 6, 7, 8, 9, 10, 11, 12, 13, 14, 15, 16, 17, 18, 19, 20, 21], [1, 2, 3, 4, 5, 6, 7, 8, 9, 10, 11, 12, 13, 14, 15, 16, 17, 18, 19, 20, 21, 22], [0, 1, 2, 3, 4, 5, 6, 7, 8, 9, 10, 11, 12, 13, 14, 15, 16, 17, 18, 19, 20, 21, 22, 23]]) (.skip)))))) (.reg [⟨some 83, none, .bin .add (.t 30) (.c (.pv (.int .i64 1)))⟩, ⟨some 30, none, .mov (.t 83)⟩])))))))))) (.reg [⟨some 84, none, .bin .add (.t 13) (.c (.pv (.int .i64 1)))⟩, ⟨some 13, none, .mov (.t 84)⟩]))))))))
theorem k_machine_checker_banks : FnOk Tryd.prog 38 85 c_machine_checker_banks [] := .mk' (fn := Tryd.f38) rfl rfl (by kernel_rfl) rfl (by kernel_rfl) (by kernel_rfl)
/- "(*retarget/machine.checker).units" -/
def c_machine_checker_units : C :=
.seq (.reg [⟨some 2, none, .alloc [.nilS 1]⟩]) (.gh (.ownf 2 0 1) (.seq (.reg [⟨some 5, none, .mov (.t 0)⟩, ⟨some 6, none, .mov (.t 0)⟩, ⟨some 7, none, .nilc (.t 6)⟩, ⟨some 8, none, .fad 0 (.t 7)⟩, ⟨some 9, none, .fad 5 (.t 8)⟩, ⟨some 10, none, .load none (.t 9)⟩, ⟨some 11, none, .len (.t 10)⟩, ⟨some 12, none, .bin .gtr (.t 11) (.c (.pv (.int .i64 0)))⟩, ⟨some 13, none, .lit 1 [(.t 12)]⟩, ⟨some 14, none, .callf 34 [(.t 5), (.t 13)]⟩]) (.seq (.reg [⟨some 15, none, .mov (.t 0)⟩, ⟨some 16, none, .nilc (.t 15)⟩, ⟨some 17, none, .fad 0 (.t 16)⟩, ⟨some 18, none, .fad 5 (.t 17)⟩, ⟨some 19, none, .load none (.t 18)⟩, ⟨some 20, none, .len (.t 19)⟩, ⟨some 21, none, .mov (.c (.pv (.int .i64 0)))⟩]) (.blk 0 (.loop ⟨[0, 2, 19, 20, 21], [0, 1, 2], 3⟩ (.seq (.reg [⟨some 22, none, .bin .lss (.t 21) (.t 20)⟩]) (.seq (.cond (.t 22) (.skip) (.ext 0)) (.seq (.blk 1 (.seq (.reg [⟨some 23, none, .iad 2 (.t 19) (.t 21)⟩, ⟨some 24, none, .load (some 2) (.t 23)⟩, ⟨some 4, none, .alloc [.pv (.str ⟨#[]⟩), .pv (.int .i64 0)]⟩, ⟨none, none, .store 2 (.t 4) (.t 24)⟩]) (.dreg [⟨some 25, none, .mov (.t 0)⟩, ⟨some 26, none, .fad 0 (.t 4)⟩, ⟨some 27, none, .load none (.t 26)⟩, ⟨some 28, none, .callf 40 [(.t 2), (.t 27)]⟩, ⟨some 29, none, .fad 1 (.t 4)⟩, ⟨some 30, none, .load none (.t 29)⟩, ⟨some 31, none, .callf 36 [(.t 30), (.c (.pv (.int .i64 1))), (.c (.pv (.int .i64 4)))]⟩, ⟨some 32, none, .lit 1 [(.t 28), (.t 31)]⟩, ⟨some 33, none, .callf 34 [(.t 25), (.t 32)]⟩] [[], [], [1], [1, 2], [], [4], [1, 2, 3, 4, 5], [1, 2, 3, 4, 5, 6], [0, 1, 2, 3, 4, 5, 6, 7]]))) (.reg [⟨some 34, none, .bin .add (.t 21) (.c (.pv (.int .i64 1)))⟩, ⟨some 21, none, .mov (.t 34)⟩])))))))))
theorem k_machine_checker_units : FnOk Tryd.prog 39 35 c_machine_checker_units [] := .mk' (fn := Tryd.f39) rfl rfl (by kernel_rfl) rfl (by kernel_rfl) (by kernel_rfl)
/- "(*retarget/machine.names).fresh" -/
def c_machine_names_fresh : C :=
.seq (.reg [⟨some 4, none, .mov (.c (.pv (.bool false)))⟩]) (.seq (.reg [⟨some 6, none, .mov (.t 1)⟩, ⟨some 7, none, .callf 35 [(.t 6)]⟩, ⟨some 8, none, .mov (.t 7)⟩, ⟨some 9, some (8, true), .mov (.t 0)⟩, ⟨some 10, some (8, true), .nilc (.t 9)⟩, ⟨some 11, some (8, true), .fad 0 (.t 10)⟩, ⟨some 12, some (8, true), .load none (.t 11)⟩, ⟨some 13, some (8, true), .mov (.t 1)⟩, ⟨some 14, some (8, true), .callf 58 [(.t 12), (.t 13)]⟩, ⟨some 15, some (8, true), .un .not (.t 14)⟩, ⟨some 16, none, .land (.t 8) (.t 15)⟩, ⟨some 5, none, .mov (.t 16)⟩]) (.seq (.reg [⟨some 17, none, .mov (.t 0)⟩, ⟨some 18, none, .mov (.t 0)⟩, ⟨some 19, none, .nilc (.t 18)⟩, ⟨some 20, none, .fad 0 (.t 19)⟩, ⟨some 21, none, .load none (.t 20)⟩, ⟨some 22, none, .mov (.t 1)⟩, ⟨some 23, none, .lit 1 [(.t 22)]⟩, ⟨some 24, none, .app 1 16 (.t 21) (.t 23)⟩, ⟨some 25, none, .nilc (.t 17)⟩, ⟨some 26, none, .fad 0 (.t 25)⟩, ⟨none, none, .store 1 (.t 26) (.t 24)⟩]) (.seq (.reg [⟨some 27, none, .mov (.t 5)⟩, ⟨some 4, none, .mov (.t 27)⟩]) (.ret))))
theorem k_machine_names_fresh : FnOk Tryd.prog 40 28 c_machine_names_fresh [.tmp 4] := .mk' (fn := Tryd.f40) rfl rfl (by kernel_rfl) rfl (by kernel_rfl) (by kernel_rfl)
/- "(*retarget/machine.checker).instr" -/
def c_machine_checker_instr : C :=
.seq (.reg [⟨some 3, none, .box 9 (.t 1)⟩]) (.seq (.dreg [⟨some 14, none, .mov (.t 0)⟩, ⟨some 15, none, .fad 1 (.t 3)⟩, ⟨some 16, none, .load none (.t 15)⟩, ⟨some 17, none, .mov (.t 0)⟩, ⟨some 18, none, .nilc (.t 17)⟩, ⟨some 19, none, .fad 0 (.t 18)⟩, ⟨some 20, none, .fad 1 (.t 19)⟩, ⟨some 21, none, .load none (.t 20)⟩, ⟨some 22, none, .bin .mul (.c (.pv (.int .i64 8))) (.t 21)⟩, ⟨some 23, none, .callf 59 [(.t 22)]⟩, ⟨some 24, none, .bin .andNot (.t 16) (.t 23)⟩, ⟨some 25, none, .bin .eql (.t 24) (.c (.pv (.int .u64 0)))⟩, ⟨some 26, none, .fad 2 (.t 3)⟩, ⟨some 27, none, .load none (.t 26)⟩, ⟨some 28, none, .fad 1 (.t 3)⟩, ⟨some 29, none, .load none (.t 28)⟩, ⟨some 30, none, .bin .andNot (.t 27) (.t 29)⟩, ⟨some 31, none, .bin .eql (.t 30) (.c (.pv (.int .u64 0)))⟩, ⟨some 32, none, .lit 1 [(.t 25), (.t 31)]⟩, ⟨some 33, none, .callf 34 [(.t 14), (.t 32)]⟩] [[], [], [1], [], [3], [3, 4], [3, 4, 5], [3, 4, 5, 6], [3, 4, 5, 6, 7], [3, 4, 5, 6, 7, 8], [1, 2, 3, 4, 5, 6, 7, 8, 9], [1, 2, 3, 4, 5, 6, 7, 8, 9, 10], [], [12], [], [14], [12, 13, 14, 15], [12, 13, 14, 15, 16], [1, 2, 3, 4, 5, 6, 7, 8, 9, 10, 11, 12, 13, 14, 15, 16, 17], [0, 1, 2, 3, 4, 5, 6, 7, 8, 9, 10, 11, 12, 13, 14, 15, 16, 17, 18]]) (.seq (.reg [⟨some 34, none, .lit 1 [(.c (.pv (.str ⟨#[112, 99]⟩)))]⟩, ⟨some 35, none, .build [.nilS 1] [((0, 1), (.t 34))]⟩, ⟨some 4, none, .alloc [.nilS 1]⟩, ⟨none, none, .store 1 (.t 4) (.t 35)⟩]) (.gh (.ownf 4 0 1) (.seq (.reg [⟨some 36, none, .fad 1 (.t 3)⟩, ⟨some 37, none, .load none (.t 36)⟩, ⟨some 5, none, .mov (.t 37)⟩]) (.seq (.seq (.reg [⟨some 38, none, .fad 3 (.t 3)⟩, ⟨some 39, none, .load none (.t 38)⟩, ⟨some 40, none, .len (.t 39)⟩, ⟨some 41, none, .mov (.c (.pv (.int .i64 0)))⟩]) (.blk 0 (.loop ⟨[0, 3, 4, 5, 39, 40, 41], [0, 1, 22, 23], 24⟩ (.seq (.reg [⟨some 42, none, .bin .lss (.t 41) (.t 40)⟩]) (.seq (.cond (.t 42) (.skip) (.ext 0)) (.seq (.blk 1 (.seq (.reg [⟨some 43, none, .mov (.t 41)⟩, ⟨some 44, none, .iad 6 (.t 39) (.t 41)⟩, ⟨some 45, none, .load (some 6) (.t 44)⟩, ⟨some 7, none, .alloc [.pv (.str ⟨#[]⟩), .pv (.int .u8 0), .pv (.int .i64 0), .pv (.int .i64 0), .nilS 2, .pv (.int .i64 0)]⟩, ⟨some 6, none, .mov (.t 43)⟩, ⟨none, none, .store 6 (.t 7) (.t 45)⟩]) (.seq (.reg [⟨some 46, none, .mov (.t 0)⟩, ⟨some 47, none, .fad 0 (.t 7)⟩, ⟨some 48, none, .load none (.t 47)⟩, ⟨some 49, none, .callf 40 [(.t 4), (.t 48)]⟩, ⟨some 50, none, .lit 1 [(.t 49)]⟩, ⟨some 51, none, .callf 34 [(.t 46), (.t 50)]⟩]) (.seq (.reg [⟨some 52, none, .mov (.t 0)⟩, ⟨some 53, none, .load (some 9) (.t 3)⟩, ⟨some 54, none, .mov (.t 6)⟩, ⟨some 55, none, .callf 60 [(.t 52), (.t 53), (.t 54)]⟩, ⟨some 8, none, .mov (.t 55)⟩]) (.seq (.reg [⟨some 56, none, .mov (.t 0)⟩, ⟨some 57, none, .mov (.t 5)⟩, ⟨some 58, none, .mov (.t 8)⟩, ⟨some 59, none, .bin .and (.t 57) (.t 58)⟩, ⟨some 60, none, .bin .eql (.t 59) (.c (.pv (.int .u64 0)))⟩, ⟨some 61, none, .lit 1 [(.t 60)]⟩, ⟨some 62, none, .callf 34 [(.t 56), (.t 61)]⟩]) (.reg [⟨some 63, none, .mov (.t 5)⟩, ⟨some 64, none, .mov (.t 8)⟩, ⟨some 65, none, .bin .or (.t 63) (.t 64)⟩, ⟨some 5, none, .mov (.t 65)⟩])))))) (.reg [⟨some 66, none, .bin .add (.t 41) (.c (.pv (.int .i64 1)))⟩, ⟨some 41, none, .mov (.t 66)⟩]))))))) (.seq (.seq (.reg [⟨some 67, none, .mov (.t 0)⟩, ⟨some 68, none, .nilc (.t 67)⟩, ⟨some 69, none, .fad 7 (.t 68)⟩, ⟨some 70, none, .load none (.t 69)⟩, ⟨some 71, none, .un .not (.t 70)⟩]) (.cond (.t 71) (.ret) (.skip))) (.seq (.reg [⟨some 72, none, .mov (.t 0)⟩, ⟨some 73, none, .load (some 9) (.t 3)⟩, ⟨some 74, none, .callf 61 [(.t 72), (.t 73)]⟩, ⟨some 9, none, .mov (.t 74)⟩]) (.seq (.reg [⟨some 75, none, .mkm⟩, ⟨some 10, none, .mov (.t 75)⟩]) (.seq (.seq (.reg [⟨some 76, none, .fad 4 (.t 3)⟩, ⟨some 77, none, .load none (.t 76)⟩, ⟨some 78, none, .len (.t 77)⟩, ⟨some 79, none, .mov (.c (.pv (.int .i64 0)))⟩]) (.blk 2 (.loop ⟨[0, 3, 9, 10, 77, 78, 79], [0, 1, 22, 23, 25, 26], 27⟩ (.seq (.reg [⟨some 80, none, .bin .lss (.t 79) (.t 78)⟩]) (.seq (.cond (.t 80) (.skip) (.ext 2)) (.seq (.blk 3 (.seq (.reg [⟨some 81, none, .iad 21 (.t 77) (.t 79)⟩, ⟨some 82, none, .load (some 21) (.t 81)⟩, ⟨some 12, none, .alloc [.pv (.int .u8 0), .pv (.int .i64 0), .pv (.int .i64 0), .pv (.int .u8 0), .pv (.int .i64 0), .pv (.int .u64 0), .pv (.str ⟨#[]⟩), .pv (.int .i64 0), .nilS 6, .pv (.int .u8 0), .pv (.int .i64 0), .pv (.int .u64 0), .pv (.str ⟨#[]⟩), .pv (.int .i64 0), .nilS 6, .pv (.int .u8 0), .pv (.int .i64 0), .pv (.int .u64 0), .pv (.str ⟨#[]⟩), .pv (.int .i64 0), .nilS 6]⟩, ⟨none, none, .store 21 (.t 12) (.t 82)⟩]) (.seq (.reg [⟨some 83, none, .mov (.t 0)⟩, ⟨some 84, none, .load (some 9) (.t 3)⟩, ⟨some 85, none, .load (some 21) (.t 12)⟩, ⟨some 86, none, .mov (.t 9)⟩, ⟨some 87, none, .callf 62 [(.t 83), (.t 84), (.t 85), (.t 86)]⟩]) (.reg [⟨some 88, none, .mov (.t 10)⟩, ⟨some 89, none, .fad 0 (.t 12)⟩, ⟨some 90, none, .load none (.t 89)⟩, ⟨some 91, none, .look 1 (.pv (.int .i64 0)) (.t 88) (.t 90) false⟩, ⟨some 92, none, .bin .add (.t 91) (.c (.pv (.int .i64 1)))⟩, ⟨none, none, .mup 1 (.t 88) (.t 90) (.t 92)⟩])))) (.reg [⟨some 93, none, .bin .add (.t 79) (.c (.pv (.int .i64 1)))⟩, ⟨some 79, none, .mov (.t 93)⟩]))))))) (.seq (.reg [⟨some 94, none, .mov (.t 10)⟩, ⟨some 95, none, .look 1 (.pv (.int .i64 0)) (.t 94) (.c (.pv (.int .u8 3))) false⟩, ⟨some 13, none, .mov (.t 95)⟩]) (.dreg [⟨some 96, none, .mov (.t 0)⟩, ⟨some 97, none, .mov (.t 13)⟩, ⟨some 98, none, .bin .leq (.t 97) (.c (.pv (.int .i64 1)))⟩, ⟨some 99, none, .mov (.t 10)⟩, ⟨some 100, none, .look 1 (.pv (.int .i64 0)) (.t 99) (.c (.pv (.int .u8 4))) false⟩, ⟨some 101, none, .bin .eql (.t 100) (.c (.pv (.int .i64 0)))⟩, ⟨some 102, none, .mov (.t 101)⟩, ⟨some 103, some (102, false), .fad 4 (.t 3)⟩, ⟨some 104, some (102, false), .load none (.t 103)⟩, ⟨some 105, some (102, false), .len (.t 104)⟩, ⟨some 106, some (102, false), .bin .eql (.t 105) (.c (.pv (.int .i64 1)))⟩, ⟨some 107, none, .lor (.t 102) (.t 106)⟩, ⟨some 108, none, .fad 5 (.t 3)⟩, ⟨some 109, none, .load none (.t 108)⟩, ⟨some 110, none, .mov (.t 0)⟩, ⟨some 111, none, .nilc (.t 110)⟩, ⟨some 112, none, .fad 0 (.t 111)⟩, ⟨some 113, none, .fad 5 (.t 112)⟩, ⟨some 114, none, .load none (.t 113)⟩, ⟨some 115, none, .len (.t 114)⟩, ⟨some 116, none, .bin .sub (.t 115) (.c (.pv (.int .i64 1)))⟩, ⟨some 117, none, .callf 36 [(.t 109), (.c (.pv (.int .i64 0))), (.t 116)]⟩, ⟨some 118, none, .fad 6 (.t 3)⟩, ⟨some 119, none, .load none (.t 118)⟩, ⟨some 120, none, .callf 36 [(.t 119), (.c (.pv (.int .i64 1))), (.c (.pv (.int .i64 15)))]⟩, ⟨some 121, none, .fad 7 (.t 3)⟩, ⟨some 122, none, .load none (.t 121)⟩, ⟨some 123, none, .callf 36 [(.t 122), (.c (.pv (.int .i64 1))), (.c (.pv (.int .i64 15)))]⟩, ⟨some 124, none, .fad 8 (.t 3)⟩, ⟨some 125, none, .load none (.t 124)⟩, ⟨some 126, none, .callf 36 [(.t 125), (.c (.pv (.int .i64 0))), (.c (.pv (.int .i64 2)))]⟩, ⟨some 127, none, .fad 8 (.t 3)⟩, ⟨some 128, none, .load none (.t 127)⟩, ⟨some 129, none, .bin .eql (.t 128) (.c (.pv (.int .i64 0)))⟩, ⟨some 130, none, .mov (.t 129)⟩, ⟨some 131, some (130, false), .mov (.t 13)⟩, ⟨some 132, some (130, false), .bin .eql (.t 131) (.c (.pv (.int .i64 1)))⟩, ⟨some 133, none, .lor (.t 130) (.t 132)⟩, ⟨some 134, none, .lit 1 [(.t 98), (.t 107), (.t 117), (.t 120), (.t 123), (.t 126), (.t 133)]⟩, ⟨some 135, none, .callf 34 [(.t 96), (.t 134)]⟩] [[], [], [1], [], [3], [3, 4], [3, 4, 5], [3, 4, 5, 6], [3, 4, 5, 6, 7], [3, 4, 5, 6, 7, 8], [3, 4, 5, 6, 7, 8, 9], [3, 4, 5, 6, 7, 8, 9, 10], [], [12], [], [14], [14, 15], [14, 15, 16], [14, 15, 16, 17], [14, 15, 16, 17, 18], [14, 15, 16, 17, 18, 19], [3, 4, 5, 6, 12, 13, 14, 15, 16, 17, 18, 19, 20], [], [22], [3, 4, 5, 6, 12, 13, 14, 15, 16, 17, 18, 19, 20, 21, 22, 23], [], [25], [3, 4, 5, 6, 12, 13, 14, 15, 16, 17, 18, 19, 20, 21, 22, 23, 24, 25, 26], [], [28], [3, 4, 5, 6, 12, 13, 14, 15, 16, 17, 18, 19, 20, 21, 22, 23, 24, 25, 26, 27, 28, 29], [], [31], [31, 32], [3, 4, 5, 6, 12, 13, 14, 15, 16, 17, 18, 19, 20, 21, 22, 23, 24, 25, 26, 27, 28, 29, 30, 31, 32, 33], [3, 4, 5, 6, 12, 13, 14, 15, 16, 17, 18, 19, 20, 21, 22, 23, 24, 25, 26, 27, 28, 29, 30, 31, 32, 33, 34], [3, 4, 5, 6, 12, 13, 14, 15, 16, 17, 18, 19, 20, 21, 22, 23, 24, 25, 26, 27, 28, 29, 30, 31, 32, 33, 34, 35], [3, 4, 5, 6, 12, 13, 14, 15, 16, 17, 18, 19, 20, 21, 22, 23, 24, 25, 26, 27, 28, 29, 30, 31, 32, 33, 34, 35, 36], [1, 2, 3, 4, 5, 6, 7, 8, 9, 10, 11, 12, 13, 14, 15, 16, 17, 18, 19, 20, 21, 22, 23, 24, 25, 26, 27, 28, 29, 30, 31, 32, 33, 34, 35, 36, 37], [0, 1, 2, 3, 4, 5, 6, 7, 8, 9, 10, 11, 12, 13, 14, 15, 16, 17, 18, 19, 20, 21, 22, 23, 24, 25, 26, 27, 28, 29, 30, 31, 32, 33, 34, 35, 36, 37, 38]])))))))))))
theorem k_machine_checker_instr : FnOk Tryd.prog 41 136 c_machine_checker_instr [] := .mk' (fn := Tryd.f41) rfl rfl (by kernel_rfl) rfl (by kernel_rfl) (by kernel_rfl)
/- "retarget/machine.fewer" -/
def c_machine_fewer : C :=
.seq (.reg [⟨some 4, none, .mov (.c (.pv (.bool false)))⟩]) (.seq (.reg [⟨some 5, none, .mov (.t 1)⟩, ⟨some 6, none, .lit 1 [(.c (.pv (.int .i64 0)))]⟩, ⟨some 7, none, .app 1 8 (.t 5) (.t 6)⟩, ⟨some 8, none, .callf 77 [(.t 7)]⟩, ⟨some 9, none, .mov (.t 0)⟩, ⟨some 10, none, .bin .leq (.t 8) (.t 9)⟩, ⟨some 4, none, .mov (.t 10)⟩]) (.ret))
theorem k_machine_fewer : FnOk Tryd.prog 56 11 c_machine_fewer [.tmp 4] := .mk' (fn := Tryd.f56) rfl rfl (by kernel_rfl) rfl (by kernel_rfl) (by kernel_rfl)
/- "(*retarget/machine.checker).operand" -/
def c_machine_checker_operand : C :=
.seq (.reg [⟨some 4, none, .box 9 (.t 1)⟩, ⟨some 6, none, .mov (.c (.pv (.int .u64 0)))⟩]) (.seq (.reg [⟨some 14, none, .fad 3 (.t 4)⟩, ⟨some 15, none, .load none (.t 14)⟩, ⟨some 16, none, .mov (.t 2)⟩, ⟨some 17, none, .iad 6 (.t 15) (.t 16)⟩, ⟨some 18, none, .load (some 6) (.t 17)⟩, ⟨some 7, none, .alloc [.pv (.str ⟨#[]⟩), .pv (.int .u8 0), .pv (.int .i64 0), .pv (.int .i64 0), .nilS 2, .pv (.int .i64 0)]⟩, ⟨none, none, .store 6 (.t 7) (.t 18)⟩]) (.seq (.seq (.reg [⟨some 19, none, .fad 4 (.t 7)⟩, ⟨some 20, none, .load none (.t 19)⟩, ⟨some 21, none, .len (.t 20)⟩, ⟨some 22, none, .mov (.c (.pv (.int .i64 0)))⟩]) (.blk 0 (.loop ⟨[0, 2, 4, 6, 7, 20, 21, 22], [0, 1, 2], 3⟩ (.seq (.reg [⟨some 23, none, .bin .lss (.t 22) (.t 21)⟩]) (.seq (.cond (.t 23) (.skip) (.ext 0)) (.seq (.blk 1 (.seq (.reg [⟨some 24, none, .iad 2 (.t 20) (.t 22)⟩, ⟨some 25, none, .load (some 2) (.t 24)⟩, ⟨some 9, none, .alloc [.pv (.int .i64 0), .pv (.int .i64 0)]⟩, ⟨none, none, .store 2 (.t 9) (.t 25)⟩]) (.seq (.dreg [⟨some 26, none, .mov (.t 0)⟩, ⟨some 27, none, .fad 1 (.t 9)⟩, ⟨some 28, none, .load none (.t 27)⟩, ⟨some 29, none, .mov (.t 0)⟩, ⟨some 30, none, .nilc (.t 29)⟩, ⟨some 31, none, .fad 0 (.t 30)⟩, ⟨some 32, none, .fad 1 (.t 31)⟩, ⟨some 33, none, .load none (.t 32)⟩, ⟨some 34, none, .bin .mul (.c (.pv (.int .i64 8))) (.t 33)⟩, ⟨some 35, none, .callf 36 [(.t 28), (.c (.pv (.int .i64 1))), (.t 34)]⟩, ⟨some 36, none, .fad 0 (.t 9)⟩, ⟨some 37, none, .load none (.t 36)⟩, ⟨some 38, none, .bin .geq (.t 37) (.c (.pv (.int .i64 0)))⟩, ⟨some 39, none, .fad 0 (.t 9)⟩, ⟨some 40, none, .load none (.t 39)⟩, ⟨some 41, none, .mov (.t 0)⟩, ⟨some 42, none, .nilc (.t 41)⟩, ⟨some 43, none, .fad 0 (.t 42)⟩, ⟨some 44, none, .fad 1 (.t 43)⟩, ⟨some 45, none, .load none (.t 44)⟩, ⟨some 46, none, .bin .mul (.c (.pv (.int .i64 8))) (.t 45)⟩, ⟨some 47, none, .fad 1 (.t 9)⟩, ⟨some 48, none, .load none (.t 47)⟩, ⟨some 49, none, .bin .sub (.t 46) (.t 48)⟩, ⟨some 50, none, .bin .leq (.t 40) (.t 49)⟩, ⟨some 51, none, .lit 1 [(.t 35), (.t 38), (.t 50)]⟩, ⟨some 52, none, .callf 34 [(.t 26), (.t 51)]⟩] [[], [], [1], [], [3], [3, 4], [3, 4, 5], [3, 4, 5, 6], [3, 4, 5, 6, 7], [1, 2, 3, 4, 5, 6, 7, 8], [], [10], [10, 11], [], [13], [], [15], [15, 16], [15, 16, 17], [15, 16, 17, 18], [15, 16, 17, 18, 19], [], [21], [15, 16, 17, 18, 19, 20, 21, 22], [13, 14, 15, 16, 17, 18, 19, 20, 21, 22, 23], [1, 2, 3, 4, 5, 6, 7, 8, 9, 10, 11, 12, 13, 14, 15, 16, 17, 18, 19, 20, 21, 22, 23, 24], [0, 1, 2, 3, 4, 5, 6, 7, 8, 9, 10, 11, 12, 13, 14, 15, 16, 17, 18, 19, 20, 21, 22, 23, 24, 25]]) (.seq (.seq (.reg [⟨some 53, none, .mov (.t 0)⟩, ⟨some 54, none, .nilc (.t 53)⟩, ⟨some 55, none, .fad 7 (.t 54)⟩, ⟨some 56, none, .load none (.t 55)⟩, ⟨some 57, none, .un .not (.t 56)⟩]) (.cond (.t 57) (.seq (.reg [⟨some 6, none, .mov (.c (.pv (.int .u64 0)))⟩]) (.ret)) (.skip))) (.seq (.dreg [⟨some 58, none, .fad 1 (.t 9)⟩, ⟨some 59, none, .load none (.t 58)⟩, ⟨some 60, none, .callf 59 [(.t 59)]⟩, ⟨some 61, none, .fad 0 (.t 9)⟩, ⟨some 62, none, .load none (.t 61)⟩, ⟨some 63, none, .bin .shl (.t 60) (.t 62)⟩, ⟨some 10, none, .mov (.t 63)⟩] [[], [0], [0, 1], [], [3], [0, 1, 2, 3, 4], [0, 1, 2, 3, 4, 5]]) (.seq (.reg [⟨some 64, none, .mov (.t 0)⟩, ⟨some 65, none, .mov (.t 6)⟩, ⟨some 66, none, .mov (.t 10)⟩, ⟨some 67, none, .bin .and (.t 65) (.t 66)⟩, ⟨some 68, none, .bin .eql (.t 67) (.c (.pv (.int .u64 0)))⟩, ⟨some 69, none, .lit 1 [(.t 68)]⟩, ⟨some 70, none, .callf 34 [(.t 64), (.t 69)]⟩]) (.reg [⟨some 71, none, .mov (.t 6)⟩, ⟨some 72, none, .mov (.t 10)⟩, ⟨some 73, none, .bin .or (.t 71) (.t 72)⟩, ⟨some 6, none, .mov (.t 73)⟩]))))))) (.reg [⟨some 74, none, .bin .add (.t 22) (.c (.pv (.int .i64 1)))⟩, ⟨some 22, none, .mov (.t 74)⟩]))))))) (.seq (.seq (.reg [⟨some 75, none, .fad 1 (.t 7)⟩, ⟨some 76, none, .load none (.t 75)⟩]) (.blk 2 (.seq (.reg [⟨some 81, none, .bin .eql (.t 76) (.c (.pv (.int .u8 1)))⟩, ⟨some 80, none, .mov (.t 81)⟩]) (.cond (.t 80) (.seq (.dreg [⟨some 82, none, .mov (.t 0)⟩, ⟨some 83, none, .fad 2 (.t 7)⟩, ⟨some 84, none, .load none (.t 83)⟩, ⟨some 85, none, .mov (.t 0)⟩, ⟨some 86, none, .nilc (.t 85)⟩, ⟨some 87, none, .fad 0 (.t 86)⟩, ⟨some 88, none, .fad 4 (.t 87)⟩, ⟨some 89, none, .load none (.t 88)⟩, ⟨some 90, none, .len (.t 89)⟩, ⟨some 91, none, .bin .sub (.t 90) (.c (.pv (.int .i64 1)))⟩, ⟨some 92, none, .callf 36 [(.t 84), (.c (.pv (.int .i64 0))), (.t 91)]⟩, ⟨some 93, none, .fad 3 (.t 7)⟩, ⟨some 94, none, .load none (.t 93)⟩, ⟨some 95, none, .bin .eql (.t 94) (.c (.pv (.int .i64 0)))⟩, ⟨some 96, none, .lit 1 [(.t 92), (.t 95)]⟩, ⟨some 97, none, .callf 34 [(.t 82), (.t 96)]⟩] [[], [], [1], [], [3], [3, 4], [3, 4, 5], [3, 4, 5, 6], [3, 4, 5, 6, 7], [3, 4, 5, 6, 7, 8], [1, 2, 3, 4, 5, 6, 7, 8, 9], [], [11], [11, 12], [1, 2, 3, 4, 5, 6, 7, 8, 9, 10, 11, 12, 13], [0, 1, 2, 3, 4, 5, 6, 7, 8, 9, 10, 11, 12, 13, 14]]) (.seq (.seq (.reg [⟨some 98, none, .mov (.t 0)⟩, ⟨some 99, none, .nilc (.t 98)⟩, ⟨some 100, none, .fad 7 (.t 99)⟩, ⟨some 101, none, .load none (.t 100)⟩, ⟨some 102, none, .un .not (.t 101)⟩]) (.cond (.t 102) (.seq (.reg [⟨some 6, none, .mov (.c (.pv (.int .u64 0)))⟩]) (.ret)) (.skip))) (.seq (.seq (.reg [⟨some 103, none, .fad 5 (.t 7)⟩, ⟨some 104, none, .load none (.t 103)⟩, ⟨some 105, none, .bin .eql (.t 104) (.c (.pv (.int .i64 (-1))))⟩]) (.cond (.t 105) (.seq (.reg [⟨some 106, none, .load (some 6) (.t 7)⟩, ⟨some 107, none, .callf 81 [(.t 106)]⟩, ⟨some 11, none, .mov (.t 107)⟩]) (.seq (.dreg [⟨some 108, none, .mov (.t 0)⟩, ⟨some 109, none, .mov (.t 11)⟩, ⟨some 110, none, .bin .gtr (.t 109) (.c (.pv (.int .i64 0)))⟩, ⟨some 111, none, .mov (.t 11)⟩, ⟨some 112, none, .bin .gtr (.t 111) (.c (.pv (.int .i64 6)))⟩, ⟨some 113, none, .mov (.t 112)⟩, ⟨some 114, some (113, false), .mov (.t 0)⟩, ⟨some 115, some (113, false), .nilc (.t 114)⟩, ⟨some 116, some (113, false), .fad 0 (.t 115)⟩, ⟨some 117, some (113, false), .fad 4 (.t 116)⟩, ⟨some 118, some (113, false), .load none (.t 117)⟩, ⟨some 119, some (113, false), .fad 2 (.t 7)⟩, ⟨some 120, some (113, false), .load none (.t 119)⟩, ⟨some 121, some (113, false), .iad 2 (.t 118) (.t 120)⟩, ⟨some 122, some (113, false), .fad 1 (.t 121)⟩, ⟨some 123, some (113, false), .load none (.t 122)⟩, ⟨some 124, some (113, false), .len (.t 123)⟩, ⟨some 125, some (113, false), .mov (.t 11)⟩, ⟨some 126, some (113, false), .bin .shl (.c (.pv (.int .i64 1))) (.t 125)⟩, ⟨some 127, some (113, false), .bin .leq (.t 124) (.t 126)⟩, ⟨some 128, none, .lor (.t 113) (.t 127)⟩, ⟨some 129, none, .lit 1 [(.t 110), (.t 128)]⟩, ⟨some 130, none, .callf 34 [(.t 108), (.t 129)]⟩] [[], [], [1], [], [3], [3, 4], [3, 4, 5], [3, 4, 5, 6], [3, 4, 5, 6, 7], [3, 4, 5, 6, 7, 8], [3, 4, 5, 6, 7, 8, 9], [3, 4, 5], [3, 4, 5, 11], [3, 4, 5, 6, 7, 8, 9, 10, 11, 12], [3, 4, 5, 6, 7, 8, 9, 10, 11, 12, 13], [3, 4, 5, 6, 7, 8, 9, 10, 11, 12, 13, 14], [3, 4, 5, 6, 7, 8, 9, 10, 11, 12, 13, 14, 15], [3, 4, 5], [3, 4, 5, 17], [3, 4, 5, 6, 7, 8, 9, 10, 11, 12, 13, 14, 15, 16, 17, 18], [3, 4, 5, 6, 7, 8, 9, 10, 11, 12, 13, 14, 15, 16, 17, 18, 19], [1, 2, 3, 4, 5, 6, 7, 8, 9, 10, 11, 12, 13, 14, 15, 16, 17, 18, 19, 20], [0, 1, 2, 3, 4, 5, 6, 7, 8, 9, 10, 11, 12, 13, 14, 15, 16, 17, 18, 19, 20, 21]]) (.ext 2))) (.skip))) (.seq (.dreg [⟨some 131, none, .mov (.t 0)⟩, ⟨some 132, none, .fad 5 (.t 7)⟩, ⟨some 133, none, .load none (.t 132)⟩, ⟨some 134, none, .mov (.t 2)⟩, ⟨some 135, none, .bin .sub (.t 134) (.c (.pv (.int .i64 1)))⟩, ⟨some 136, none, .callf 36 [(.t 133), (.c (.pv (.int .i64 0))), (.t 135)]⟩, ⟨some 137, none, .fad 4 (.t 7)⟩, ⟨some 138, none, .load none (.t 137)⟩, ⟨some 139, none, .len (.t 138)⟩, ⟨some 140, none, .bin .eql (.t 139) (.c (.pv (.int .i64 0)))⟩, ⟨some 141, none, .lit 1 [(.t 136), (.t 140)]⟩, ⟨some 142, none, .callf 34 [(.t 131), (.t 141)]⟩] [[], [], [1], [], [3], [1, 2, 3, 4], [], [6], [6, 7], [6, 7, 8], [1, 2, 3, 4, 5, 6, 7, 8, 9], [0, 1, 2, 3, 4, 5, 6, 7, 8, 9, 10]]) (.seq (.reg [⟨some 143, none, .mov (.t 0)⟩, ⟨some 144, none, .nilc (.t 143)⟩, ⟨some 145, none, .fad 7 (.t 144)⟩, ⟨some 146, none, .load none (.t 145)⟩]) (.cond (.t 146) (.seq (.reg [⟨some 147, none, .fad 3 (.t 4)⟩, ⟨some 148, none, .load none (.t 147)⟩, ⟨some 149, none, .fad 5 (.t 7)⟩, ⟨some 150, none, .load none (.t 149)⟩, ⟨some 151, none, .iad 6 (.t 148) (.t 150)⟩, ⟨some 152, none, .load (some 6) (.t 151)⟩, ⟨some 12, none, .alloc [.pv (.str ⟨#[]⟩), .pv (.int .u8 0), .pv (.int .i64 0), .pv (.int .i64 0), .nilS 2, .pv (.int .i64 0)]⟩, ⟨none, none, .store 6 (.t 12) (.t 152)⟩]) (.reg [⟨some 153, none, .mov (.t 0)⟩, ⟨some 154, none, .fad 1 (.t 12)⟩, ⟨some 155, none, .load none (.t 154)⟩, ⟨some 156, none, .bin .eql (.t 155) (.c (.pv (.int .u8 1)))⟩, ⟨some 157, none, .fad 2 (.t 12)⟩, ⟨some 158, none, .load none (.t 157)⟩, ⟨some 159, none, .fad 2 (.t 7)⟩, ⟨some 160, none, .load none (.t 159)⟩, ⟨some 161, none, .bin .eql (.t 158) (.t 160)⟩, ⟨some 162, none, .fad 5 (.t 12)⟩, ⟨some 163, none, .load none (.t 162)⟩, ⟨some 164, none, .bin .eql (.t 163) (.c (.pv (.int .i64 (-1))))⟩, ⟨some 165, none, .lit 1 [(.t 156), (.t 161), (.t 164)]⟩, ⟨some 166, none, .callf 34 [(.t 153), (.t 165)]⟩])) (.skip))))))) (.seq (.seq (.reg [⟨some 168, none, .bin .eql (.t 76) (.c (.pv (.int .u8 2)))⟩, ⟨some 167, none, .mov (.t 168)⟩]) (.cond (.t 167) (.skip) (.seq (.reg [⟨some 169, none, .bin .eql (.t 76) (.c (.pv (.int .u8 3)))⟩, ⟨some 167, none, .mov (.t 169)⟩]) (.cond (.t 167) (.skip) (.reg [⟨some 170, none, .bin .eql (.t 76) (.c (.pv (.int .u8 4)))⟩, ⟨some 167, none, .mov (.t 170)⟩]))))) (.cond (.t 167) (.seq (.reg [⟨some 171, none, .load (some 6) (.t 7)⟩, ⟨some 172, none, .callf 81 [(.t 171)]⟩, ⟨some 13, none, .mov (.t 172)⟩]) (.dreg [⟨some 173, none, .mov (.t 0)⟩, ⟨some 174, none, .fad 2 (.t 7)⟩, ⟨some 175, none, .load none (.t 174)⟩, ⟨some 176, none, .bin .eql (.t 175) (.c (.pv (.int .i64 0)))⟩, ⟨some 177, none, .fad 5 (.t 7)⟩, ⟨some 178, none, .load none (.t 177)⟩, ⟨some 179, none, .bin .eql (.t 178) (.c (.pv (.int .i64 (-1))))⟩, ⟨some 180, none, .fad 3 (.t 7)⟩, ⟨some 181, none, .load none (.t 180)⟩, ⟨some 182, none, .callf 36 [(.t 181), (.c (.pv (.int .i64 0))), (.c (.pv (.int .i64 3)))]⟩, ⟨some 183, none, .mov (.t 13)⟩, ⟨some 184, none, .bin .gtr (.t 183) (.c (.pv (.int .i64 0)))⟩, ⟨some 185, none, .mov (.t 13)⟩, ⟨some 186, none, .fad 3 (.t 7)⟩, ⟨some 187, none, .load none (.t 186)⟩, ⟨some 188, none, .bin .add (.t 185) (.t 187)⟩, ⟨some 189, none, .mov (.t 0)⟩, ⟨some 190, none, .nilc (.t 189)⟩, ⟨some 191, none, .fad 0 (.t 190)⟩, ⟨some 192, none, .fad 2 (.t 191)⟩, ⟨some 193, none, .load none (.t 192)⟩, ⟨some 194, none, .bin .leq (.t 188) (.t 193)⟩, ⟨some 195, none, .lit 1 [(.t 176), (.t 179), (.t 182), (.t 184), (.t 194)]⟩, ⟨some 196, none, .callf 34 [(.t 173), (.t 195)]⟩] [[], [], [1], [1, 2], [], [4], [4, 5], [], [7], [7, 8], [], [10], [], [], [13], [12, 13, 14], [], [16], [16, 17], [16, 17, 18], [16, 17, 18, 19], [12, 13, 14, 15, 16, 17, 18, 19, 20], [1, 2, 3, 4, 5, 6, 7, 8, 9, 10, 11, 12, 13, 14, 15, 16, 17, 18, 19, 20, 21], [0, 1, 2, 3, 4, 5, 6, 7, 8, 9, 10, 11, 12, 13, 14, 15, 16, 17, 18, 19, 20, 21, 22]])) (.reg [⟨some 77, none, .mov (.t 0)⟩, ⟨some 78, none, .lit 1 [(.c (.pv (.bool false)))]⟩, ⟨some 79, none, .callf 34 [(.t 77), (.t 78)]⟩]))))))) (.seq (.reg [⟨some 197, none, .mov (.t 6)⟩, ⟨some 6, none, .mov (.t 197)⟩]) (.ret)))))
theorem k_machine_checker_operand : FnOk Tryd.prog 60 198 c_machine_checker_operand [.tmp 6] := .mk' (fn := Tryd.f60) rfl rfl (by kernel_rfl) rfl (by kernel_rfl) (by kernel_rfl)
/- "(*retarget/machine.checker).variables" -/
def c_machine_checker_variables : C :=
.seq (.reg [⟨some 3, none, .box 9 (.t 1)⟩, ⟨some 4, none, .mov (.c (.nilM))⟩]) (.seq (.reg [⟨some 10, none, .mkm⟩, ⟨some 11, none, .mov (.t 0)⟩, ⟨some 12, none, .nilc (.t 11)⟩, ⟨some 13, none, .fad 0 (.t 12)⟩, ⟨some 14, none, .fad 2 (.t 13)⟩, ⟨some 15, none, .load none (.t 14)⟩, ⟨none, none, .mup 2 (.t 10) (.c (.pv (.str ⟨#[112, 99]⟩))) (.t 15)⟩, ⟨some 16, none, .mov (.t 10)⟩, ⟨some 5, none, .mov (.t 16)⟩]) (.seq (.seq (.reg [⟨some 17, none, .mov (.t 0)⟩, ⟨some 18, none, .nilc (.t 17)⟩, ⟨some 19, none, .fad 0 (.t 18)⟩, ⟨some 20, none, .fad 3 (.t 19)⟩, ⟨some 21, none, .load none (.t 20)⟩, ⟨some 22, none, .len (.t 21)⟩, ⟨some 23, none, .mov (.c (.pv (.int .i64 0)))⟩]) (.blk 0 (.loop ⟨[0, 3, 5, 21, 22, 23], [0, 1, 2], 3⟩ (.seq (.reg [⟨some 24, none, .bin .lss (.t 23) (.t 22)⟩]) (.seq (.cond (.t 24) (.skip) (.ext 0)) (.seq (.blk 1 (.seq (.reg [⟨some 25, none, .iad 4 (.t 21) (.t 23)⟩, ⟨some 26, none, .load (some 4) (.t 25)⟩, ⟨some 7, none, .alloc [.pv (.str ⟨#[]⟩), .pv (.int .i64 0), .pv (.int .i64 0), .pv (.int .i64 0)]⟩, ⟨none, none, .store 4 (.t 7) (.t 26)⟩]) (.reg [⟨some 27, none, .mov (.t 5)⟩, ⟨some 28, none, .fad 0 (.t 7)⟩, ⟨some 29, none, .load none (.t 28)⟩, ⟨some 30, none, .bin .add (.c (.pv (.str ⟨#[114, 46]⟩))) (.t 29)⟩, ⟨some 31, none, .fad 1 (.t 7)⟩, ⟨some 32, none, .load none (.t 31)⟩, ⟨none, none, .mup 2 (.t 27) (.t 30) (.t 32)⟩]))) (.reg [⟨some 33, none, .bin .add (.t 23) (.c (.pv (.int .i64 1)))⟩, ⟨some 23, none, .mov (.t 33)⟩]))))))) (.seq (.seq (.reg [⟨some 34, none, .fad 3 (.t 3)⟩, ⟨some 35, none, .load none (.t 34)⟩, ⟨some 36, none, .len (.t 35)⟩, ⟨some 37, none, .mov (.c (.pv (.int .i64 0)))⟩]) (.blk 2 (.loop ⟨[0, 5, 35, 36, 37], [0, 1, 2], 3⟩ (.seq (.reg [⟨some 38, none, .bin .lss (.t 37) (.t 36)⟩]) (.seq (.cond (.t 38) (.skip) (.ext 2)) (.seq (.blk 3 (.seq (.reg [⟨some 39, none, .iad 6 (.t 35) (.t 37)⟩, ⟨some 40, none, .load (some 6) (.t 39)⟩, ⟨some 9, none, .alloc [.pv (.str ⟨#[]⟩), .pv (.int .u8 0), .pv (.int .i64 0), .pv (.int .i64 0), .nilS 2, .pv (.int .i64 0)]⟩, ⟨none, none, .store 6 (.t 9) (.t 40)⟩]) (.dreg [⟨some 41, none, .mov (.t 5)⟩, ⟨some 42, none, .fad 0 (.t 9)⟩, ⟨some 43, none, .load none (.t 42)⟩, ⟨some 44, none, .mov (.t 0)⟩, ⟨some 45, none, .nilc (.t 44)⟩, ⟨some 46, none, .fad 0 (.t 45)⟩, ⟨some 47, none, .load (some 7) (.t 46)⟩, ⟨some 48, none, .load (some 6) (.t 9)⟩, ⟨some 49, none, .callf 82 [(.t 47), (.t 48)]⟩, ⟨none, none, .mup 2 (.t 41) (.t 43) (.t 49)⟩] [[], [], [1], [], [3], [3, 4], [3, 4, 5], [], [3, 4, 5, 6, 7], [0, 1, 2, 3, 4, 5, 6, 7, 8]]))) (.reg [⟨some 50, none, .bin .add (.t 37) (.c (.pv (.int .i64 1)))⟩, ⟨some 37, none, .mov (.t 50)⟩]))))))) (.seq (.reg [⟨some 51, none, .mov (.t 5)⟩, ⟨some 4, none, .mov (.t 51)⟩]) (.ret)))))
theorem k_machine_checker_variables : FnOk Tryd.prog 61 52 c_machine_checker_variables [.tmp 4] := .mk' (fn := Tryd.f61) rfl rfl (by kernel_rfl) rfl (by kernel_rfl) (by kernel_rfl)
/- "(*retarget/machine.checker).effect" -/
def c_machine_checker_effect : C :=
.seq (.reg [⟨some 5, none, .box 9 (.t 1)⟩, ⟨some 6, none, .box 21 (.t 2)⟩]) (.seq (.seq (.reg [⟨some 9, none, .fad 0 (.t 6)⟩, ⟨some 10, none, .load none (.t 9)⟩, ⟨some 11, none, .bin .neq (.t 10) (.c (.pv (.int .u8 1)))⟩]) (.cond (.t 11) (.reg [⟨some 12, none, .mov (.t 0)⟩, ⟨some 13, none, .fad 1 (.t 6)⟩, ⟨some 14, none, .load none (.t 13)⟩, ⟨some 15, none, .bin .eql (.t 14) (.c (.pv (.int .i64 0)))⟩, ⟨some 16, none, .fad 2 (.t 6)⟩, ⟨some 17, none, .load none (.t 16)⟩, ⟨some 18, none, .bin .eql (.t 17) (.c (.pv (.int .i64 0)))⟩, ⟨some 19, none, .lit 1 [(.t 15), (.t 18)]⟩, ⟨some 20, none, .callf 34 [(.t 12), (.t 19)]⟩]) (.skip))) (.seq (.reg [⟨some 21, none, .mov (.t 0)⟩, ⟨some 22, none, .mov (.t 3)⟩, ⟨some 23, none, .fad 9 (.t 6)⟩, ⟨some 24, none, .load (some 6) (.t 23)⟩, ⟨some 25, none, .lit 6 [(.t 24)]⟩, ⟨some 26, none, .callf 83 [(.t 21), (.t 22), (.t 25)]⟩]) (.seq (.reg [⟨some 27, none, .fad 0 (.t 6)⟩, ⟨some 28, none, .load none (.t 27)⟩]) (.blk 0 (.seq (.reg [⟨some 33, none, .bin .eql (.t 28) (.c (.pv (.int .u8 1)))⟩, ⟨some 32, none, .mov (.t 33)⟩]) (.cond (.t 32) (.seq (.reg [⟨some 34, none, .mov (.t 0)⟩, ⟨some 35, none, .fad 3 (.t 6)⟩, ⟨some 36, none, .load (some 6) (.t 35)⟩, ⟨some 37, none, .fad 15 (.t 6)⟩, ⟨some 38, none, .load (some 6) (.t 37)⟩, ⟨some 39, none, .lit 6 [(.t 36), (.t 38)]⟩, ⟨some 40, none, .callf 84 [(.t 39)]⟩, ⟨some 41, none, .lit 1 [(.t 40)]⟩, ⟨some 42, none, .callf 34 [(.t 34), (.t 41)]⟩]) (.blk 1 (.seq (.dreg [⟨some 47, none, .fad 1 (.t 6)⟩, ⟨some 48, none, .load none (.t 47)⟩, ⟨some 49, none, .bin .eql (.t 48) (.c (.pv (.int .i64 (-1))))⟩, ⟨some 50, none, .mov (.t 49)⟩, ⟨some 51, some (50, true), .fad 2 (.t 6)⟩, ⟨some 52, some (50, true), .load none (.t 51)⟩, ⟨some 53, some (50, true), .mov (.t 0)⟩, ⟨some 54, some (50, true), .nilc (.t 53)⟩, ⟨some 55, some (50, true), .fad 0 (.t 54)⟩, ⟨some 56, some (50, true), .fad 3 (.t 55)⟩, ⟨some 57, some (50, true), .load none (.t 56)⟩, ⟨some 58, some (50, true), .len (.t 57)⟩, ⟨some 59, some (50, true), .bin .sub (.t 58) (.c (.pv (.int .i64 1)))⟩, ⟨some 60, some (50, true), .callf 36 [(.t 52), (.c (.pv (.int .i64 0))), (.t 59)]⟩, ⟨some 61, none, .land (.t 50) (.t 60)⟩, ⟨some 46, none, .mov (.t 61)⟩] [[], [0], [0, 1], [0, 1, 2], [0, 1, 2, 3], [0, 1, 2, 3, 4], [0, 1, 2, 3], [0, 1, 2, 3, 6], [0, 1, 2, 3, 6, 7], [0, 1, 2, 3, 6, 7, 8], [0, 1, 2, 3, 6, 7, 8, 9], [0, 1, 2, 3, 6, 7, 8, 9, 10], [0, 1, 2, 3, 6, 7, 8, 9, 10, 11], [0, 1, 2, 3, 4, 5, 6, 7, 8, 9, 10, 11, 12], [0, 1, 2, 3, 4, 5, 6, 7, 8, 9, 10, 11, 12, 13], [0, 1, 2, 3, 4, 5, 6, 7, 8, 9, 10, 11, 12, 13, 14]]) (.cond (.t 46) (.dreg [⟨some 62, none, .mov (.t 0)⟩, ⟨some 63, none, .fad 9 (.t 6)⟩, ⟨some 64, none, .fad 1 (.t 63)⟩, ⟨some 65, none, .load none (.t 64)⟩, ⟨some 66, none, .mov (.t 0)⟩, ⟨some 67, none, .nilc (.t 66)⟩, ⟨some 68, none, .fad 0 (.t 67)⟩, ⟨some 69, none, .fad 3 (.t 68)⟩, ⟨some 70, none, .load none (.t 69)⟩, ⟨some 71, none, .fad 2 (.t 6)⟩, ⟨some 72, none, .load none (.t 71)⟩, ⟨some 73, none, .iad 4 (.t 70) (.t 72)⟩, ⟨some 74, none, .fad 1 (.t 73)⟩, ⟨some 75, none, .load none (.t 74)⟩, ⟨some 76, none, .bin .eql (.t 65) (.t 75)⟩, ⟨some 77, none, .lit 1 [(.t 76)]⟩, ⟨some 78, none, .callf 34 [(.t 62), (.t 77)]⟩] [[], [], [1], [1, 2], [], [4], [4, 5], [4, 5, 6], [4, 5, 6, 7], [], [9], [4, 5, 6, 7, 8, 9, 10], [4, 5, 6, 7, 8, 9, 10, 11], [4, 5, 6, 7, 8, 9, 10, 11, 12], [1, 2, 3, 4, 5, 6, 7, 8, 9, 10, 11, 12, 13], [1, 2, 3, 4, 5, 6, 7, 8, 9, 10, 11, 12, 13, 14], [0, 1, 2, 3, 4, 5, 6, 7, 8, 9, 10, 11, 12, 13, 14, 15]]) (.seq (.reg [⟨some 80, none, .fad 2 (.t 6)⟩, ⟨some 81, none, .load none (.t 80)⟩, ⟨some 82, none, .bin .eql (.t 81) (.c (.pv (.int .i64 0)))⟩, ⟨some 83, none, .mov (.t 82)⟩, ⟨some 84, some (83, true), .fad 1 (.t 6)⟩, ⟨some 85, some (83, true), .load none (.t 84)⟩, ⟨some 86, some (83, true), .fad 3 (.t 5)⟩, ⟨some 87, some (83, true), .load none (.t 86)⟩, ⟨some 88, some (83, true), .len (.t 87)⟩, ⟨some 89, some (83, true), .bin .sub (.t 88) (.c (.pv (.int .i64 1)))⟩, ⟨some 90, some (83, true), .callf 36 [(.t 85), (.c (.pv (.int .i64 0))), (.t 89)]⟩, ⟨some 91, none, .land (.t 83) (.t 90)⟩, ⟨some 79, none, .mov (.t 91)⟩]) (.cond (.t 79) (.seq (.reg [⟨some 92, none, .fad 3 (.t 5)⟩, ⟨some 93, none, .load none (.t 92)⟩, ⟨some 94, none, .fad 1 (.t 6)⟩, ⟨some 95, none, .load none (.t 94)⟩, ⟨some 96, none, .iad 6 (.t 93) (.t 95)⟩, ⟨some 97, none, .load (some 6) (.t 96)⟩, ⟨some 8, none, .alloc [.pv (.str ⟨#[]⟩), .pv (.int .u8 0), .pv (.int .i64 0), .pv (.int .i64 0), .nilS 2, .pv (.int .i64 0)]⟩, ⟨none, none, .store 6 (.t 8) (.t 97)⟩]) (.dreg [⟨some 98, none, .mov (.t 0)⟩, ⟨some 99, none, .fad 1 (.t 8)⟩, ⟨some 100, none, .load none (.t 99)⟩, ⟨some 101, none, .bin .eql (.t 100) (.c (.pv (.int .u8 1)))⟩, ⟨some 102, none, .fad 9 (.t 6)⟩, ⟨some 103, none, .fad 1 (.t 102)⟩, ⟨some 104, none, .load none (.t 103)⟩, ⟨some 105, none, .mov (.t 0)⟩, ⟨some 106, none, .nilc (.t 105)⟩, ⟨some 107, none, .fad 0 (.t 106)⟩, ⟨some 108, none, .load (some 7) (.t 107)⟩, ⟨some 109, none, .load (some 6) (.t 8)⟩, ⟨some 110, none, .callf 82 [(.t 108), (.t 109)]⟩, ⟨some 111, none, .bin .eql (.t 104) (.t 110)⟩, ⟨some 112, none, .lit 1 [(.t 101), (.t 111)]⟩, ⟨some 113, none, .callf 34 [(.t 98), (.t 112)]⟩] [[], [], [1], [1, 2], [], [4], [4, 5], [], [7], [7, 8], [7, 8, 9], [], [7, 8, 9, 10, 11], [4, 5, 6, 7, 8, 9, 10, 11, 12], [1, 2, 3, 4, 5, 6, 7, 8, 9, 10, 11, 12, 13], [0, 1, 2, 3, 4, 5, 6, 7, 8, 9, 10, 11, 12, 13, 14]])) (.reg [⟨some 43, none, .mov (.t 0)⟩, ⟨some 44, none, .lit 1 [(.c (.pv (.bool false)))]⟩, ⟨some 45, none, .callf 34 [(.t 43), (.t 44)]⟩]))))))) (.seq (.reg [⟨some 115, none, .bin .eql (.t 28) (.c (.pv (.int .u8 2)))⟩, ⟨some 114, none, .mov (.t 115)⟩]) (.cond (.t 114) (.seq (.reg [⟨some 116, none, .mov (.t 0)⟩, ⟨some 117, none, .mov (.t 3)⟩, ⟨some 118, none, .fad 3 (.t 6)⟩, ⟨some 119, none, .load (some 6) (.t 118)⟩, ⟨some 120, none, .lit 6 [(.t 119)]⟩, ⟨some 121, none, .callf 83 [(.t 116), (.t 117), (.t 120)]⟩]) (.dreg [⟨some 122, none, .mov (.t 0)⟩, ⟨some 123, none, .fad 15 (.t 6)⟩, ⟨some 124, none, .load (some 6) (.t 123)⟩, ⟨some 125, none, .lit 6 [(.t 124)]⟩, ⟨some 126, none, .callf 84 [(.t 125)]⟩, ⟨some 127, none, .fad 3 (.t 6)⟩, ⟨some 128, none, .fad 1 (.t 127)⟩, ⟨some 129, none, .load none (.t 128)⟩, ⟨some 130, none, .mov (.t 0)⟩, ⟨some 131, none, .nilc (.t 130)⟩, ⟨some 132, none, .fad 0 (.t 131)⟩, ⟨some 133, none, .fad 2 (.t 132)⟩, ⟨some 134, none, .load none (.t 133)⟩, ⟨some 135, none, .bin .eql (.t 129) (.t 134)⟩, ⟨some 136, none, .lit 1 [(.c (.pv (.int .i64 8))), (.c (.pv (.int .i64 16))), (.c (.pv (.int .i64 32))), (.c (.pv (.int .i64 64)))]⟩, ⟨some 137, none, .fad 9 (.t 6)⟩, ⟨some 138, none, .fad 1 (.t 137)⟩, ⟨some 139, none, .load none (.t 138)⟩, ⟨some 140, none, .callf 57 [(.t 136), (.t 139)]⟩, ⟨some 141, none, .lit 1 [(.t 126), (.t 135), (.t 140)]⟩, ⟨some 142, none, .callf 34 [(.t 122), (.t 141)]⟩] [[], [], [1], [1, 2], [1, 2, 3], [], [5], [5, 6], [], [8], [8, 9], [8, 9, 10], [8, 9, 10, 11], [5, 6, 7, 8, 9, 10, 11, 12], [], [], [15], [15, 16], [1, 2, 3, 4, 14, 15, 16, 17], [1, 2, 3, 4, 5, 6, 7, 8, 9, 10, 11, 12, 13, 14, 15, 16, 17, 18], [0, 1, 2, 3, 4, 5, 6, 7, 8, 9, 10, 11, 12, 13, 14, 15, 16, 17, 18, 19]])) (.seq (.reg [⟨some 144, none, .bin .eql (.t 28) (.c (.pv (.int .u8 3)))⟩, ⟨some 143, none, .mov (.t 144)⟩]) (.cond (.t 143) (.seq (.dreg [⟨some 145, none, .mov (.t 0)⟩, ⟨some 146, none, .fad 3 (.t 6)⟩, ⟨some 147, none, .load (some 6) (.t 146)⟩, ⟨some 148, none, .lit 6 [(.t 147)]⟩, ⟨some 149, none, .callf 84 [(.t 148)]⟩, ⟨some 150, none, .fad 9 (.t 6)⟩, ⟨some 151, none, .fad 1 (.t 150)⟩, ⟨some 152, none, .load none (.t 151)⟩, ⟨some 153, none, .mov (.t 0)⟩, ⟨some 154, none, .nilc (.t 153)⟩, ⟨some 155, none, .fad 0 (.t 154)⟩, ⟨some 156, none, .fad 2 (.t 155)⟩, ⟨some 157, none, .load none (.t 156)⟩, ⟨some 158, none, .bin .eql (.t 152) (.t 157)⟩, ⟨some 159, none, .lit 1 [(.t 149), (.t 158)]⟩, ⟨some 160, none, .callf 34 [(.t 145), (.t 159)]⟩] [[], [], [1], [1, 2], [1, 2, 3], [], [5], [5, 6], [], [8], [8, 9], [8, 9, 10], [8, 9, 10, 11], [5, 6, 7, 8, 9, 10, 11, 12], [1, 2, 3, 4, 5, 6, 7, 8, 9, 10, 11, 12, 13], [0, 1, 2, 3, 4, 5, 6, 7, 8, 9, 10, 11, 12, 13, 14]]) (.seq (.reg [⟨some 161, none, .fad 15 (.t 6)⟩, ⟨some 162, none, .load (some 6) (.t 161)⟩, ⟨some 163, none, .lit 6 [(.t 162)]⟩, ⟨some 164, none, .callf 84 [(.t 163)]⟩, ⟨some 165, none, .un .not (.t 164)⟩]) (.cond (.t 165) (.seq (.reg [⟨some 166, none, .mov (.t 0)⟩, ⟨some 167, none, .mov (.t 3)⟩, ⟨some 168, none, .fad 15 (.t 6)⟩, ⟨some 169, none, .load (some 6) (.t 168)⟩, ⟨some 170, none, .lit 6 [(.t 169)]⟩, ⟨some 171, none, .callf 83 [(.t 166), (.t 167), (.t 170)]⟩]) (.reg [⟨some 172, none, .mov (.t 0)⟩, ⟨some 173, none, .fad 15 (.t 6)⟩, ⟨some 174, none, .fad 1 (.t 173)⟩, ⟨some 175, none, .load none (.t 174)⟩, ⟨some 176, none, .bin .eql (.t 175) (.c (.pv (.int .i64 1)))⟩, ⟨some 177, none, .lit 1 [(.t 176)]⟩, ⟨some 178, none, .callf 34 [(.t 172), (.t 177)]⟩])) (.skip)))) (.seq (.reg [⟨some 180, none, .bin .eql (.t 28) (.c (.pv (.int .u8 4)))⟩, ⟨some 179, none, .mov (.t 180)⟩]) (.cond (.t 179) (.reg [⟨some 181, none, .mov (.t 0)⟩, ⟨some 182, none, .fad 3 (.t 6)⟩, ⟨some 183, none, .load (some 6) (.t 182)⟩, ⟨some 184, none, .fad 15 (.t 6)⟩, ⟨some 185, none, .load (some 6) (.t 184)⟩, ⟨some 186, none, .lit 6 [(.t 183), (.t 185)]⟩, ⟨some 187, none, .callf 84 [(.t 186)]⟩, ⟨some 188, none, .lit 1 [(.t 187)]⟩, ⟨some 189, none, .callf 34 [(.t 181), (.t 188)]⟩]) (.reg [⟨some 29, none, .mov (.t 0)⟩, ⟨some 30, none, .lit 1 [(.c (.pv (.bool false)))]⟩, ⟨some 31, none, .callf 34 [(.t 29), (.t 30)]⟩])))))))))))))
theorem k_machine_checker_effect : FnOk Tryd.prog 62 190 c_machine_checker_effect [] := .mk' (fn := Tryd.f62) rfl rfl (by kernel_rfl) rfl (by kernel_rfl) (by kernel_rfl)
/- "retarget/machine.field" -/
def c_machine_field : C :=
.seq (.reg [⟨some 1, none, .box 6 (.t 0)⟩, ⟨some 2, none, .mov (.c (.pv (.int .i64 0)))⟩]) (.seq (.seq (.reg [⟨some 5, none, .fad 4 (.t 1)⟩, ⟨some 6, none, .load none (.t 5)⟩, ⟨some 7, none, .len (.t 6)⟩, ⟨some 8, none, .mov (.c (.pv (.int .i64 0)))⟩]) (.blk 0 (.loop ⟨[2, 6, 7, 8], [0], 1⟩ (.seq (.reg [⟨some 9, none, .bin .lss (.t 8) (.t 7)⟩]) (.seq (.cond (.t 9) (.skip) (.ext 0)) (.seq (.blk 1 (.seq (.reg [⟨some 10, none, .iad 2 (.t 6) (.t 8)⟩, ⟨some 11, none, .load (some 2) (.t 10)⟩, ⟨some 4, none, .alloc [.pv (.int .i64 0), .pv (.int .i64 0)]⟩, ⟨none, none, .store 2 (.t 4) (.t 11)⟩]) (.reg [⟨some 12, none, .mov (.t 2)⟩, ⟨some 13, none, .fad 1 (.t 4)⟩, ⟨some 14, none, .load none (.t 13)⟩, ⟨some 15, none, .bin .add (.t 12) (.t 14)⟩, ⟨some 2, none, .mov (.t 15)⟩]))) (.reg [⟨some 16, none, .bin .add (.t 8) (.c (.pv (.int .i64 1)))⟩, ⟨some 8, none, .mov (.t 16)⟩]))))))) (.seq (.reg [⟨some 17, none, .mov (.t 2)⟩, ⟨some 2, none, .mov (.t 17)⟩]) (.ret)))
theorem k_machine_field : FnOk Tryd.prog 81 18 c_machine_field [.tmp 2] := .mk' (fn := Tryd.f81) rfl rfl (by kernel_rfl) rfl (by kernel_rfl) (by kernel_rfl)
/- "retarget/machine.wide" -/
def c_machine_wide : C :=
.seq (.reg [⟨some 2, none, .box 7 (.t 0)⟩, ⟨some 3, none, .box 6 (.t 1)⟩, ⟨some 4, none, .mov (.c (.pv (.int .i64 0)))⟩]) (.seq (.seq (.reg [⟨some 5, none, .fad 1 (.t 3)⟩, ⟨some 6, none, .load none (.t 5)⟩, ⟨some 7, none, .bin .neq (.t 6) (.c (.pv (.int .u8 1)))⟩]) (.cond (.t 7) (.seq (.reg [⟨some 8, none, .fad 2 (.t 2)⟩, ⟨some 9, none, .load none (.t 8)⟩, ⟨some 4, none, .mov (.t 9)⟩]) (.ret)) (.skip))) (.seq (.dreg [⟨some 10, none, .fad 3 (.t 2)⟩, ⟨some 11, none, .load none (.t 10)⟩, ⟨some 12, none, .fad 4 (.t 2)⟩, ⟨some 13, none, .load none (.t 12)⟩, ⟨some 14, none, .fad 2 (.t 3)⟩, ⟨some 15, none, .load none (.t 14)⟩, ⟨some 16, none, .iad 2 (.t 13) (.t 15)⟩, ⟨some 17, none, .fad 1 (.t 16)⟩, ⟨some 18, none, .load none (.t 17)⟩, ⟨some 19, none, .iad 1 (.t 18) (.c (.pv (.int .i64 0)))⟩, ⟨some 20, none, .load none (.t 19)⟩, ⟨some 21, none, .iad 4 (.t 11) (.t 20)⟩, ⟨some 22, none, .fad 1 (.t 21)⟩, ⟨some 23, none, .load none (.t 22)⟩, ⟨some 4, none, .mov (.t 23)⟩] [[], [0], [], [2], [], [4], [2, 3, 4, 5], [2, 3, 4, 5, 6], [2, 3, 4, 5, 6, 7], [2, 3, 4, 5, 6, 7, 8], [2, 3, 4, 5, 6, 7, 8, 9], [0, 1, 2, 3, 4, 5, 6, 7, 8, 9, 10], [0, 1, 2, 3, 4, 5, 6, 7, 8, 9, 10, 11], [0, 1, 2, 3, 4, 5, 6, 7, 8, 9, 10, 11, 12], [0, 1, 2, 3, 4, 5, 6, 7, 8, 9, 10, 11, 12, 13]]) (.ret)))
theorem k_machine_wide : FnOk Tryd.prog 82 24 c_machine_wide [.tmp 4] := .mk' (fn := Tryd.f82) rfl rfl (by kernel_rfl) rfl (by kernel_rfl) (by kernel_rfl)
/- "(*retarget/machine.checker).fits" -/
def c_machine_checker_fits : C :=
.seq (.reg [⟨some 8, none, .mov (.t 2)⟩, ⟨some 9, none, .len (.t 8)⟩, ⟨some 10, none, .mov (.c (.pv (.int .i64 0)))⟩]) (.blk 0 (.loop ⟨[0, 1, 8, 9, 10], [0, 1], 2⟩ (.seq (.reg [⟨some 11, none, .bin .lss (.t 10) (.t 9)⟩]) (.seq (.cond (.t 11) (.skip) (.ext 0)) (.seq (.blk 1 (.seq (.reg [⟨some 12, none, .iad 6 (.t 8) (.t 10)⟩, ⟨some 13, none, .load (some 6) (.t 12)⟩, ⟨some 7, none, .alloc [.pv (.int .u8 0), .pv (.int .i64 0), .pv (.int .u64 0), .pv (.str ⟨#[]⟩), .pv (.int .i64 0), .nilS 6]⟩, ⟨none, none, .store 6 (.t 7) (.t 13)⟩]) (.seq (.reg [⟨some 14, none, .mov (.t 0)⟩, ⟨some 15, none, .load (some 6) (.t 7)⟩, ⟨some 16, none, .callf 93 [(.t 15)]⟩, ⟨some 17, none, .bin .eql (.t 16) (.c (.pv (.int .i64 0)))⟩, ⟨some 18, none, .lit 1 [(.t 17)]⟩, ⟨some 19, none, .callf 34 [(.t 14), (.t 18)]⟩]) (.seq (.seq (.reg [⟨some 20, none, .mov (.t 0)⟩, ⟨some 21, none, .nilc (.t 20)⟩, ⟨some 22, none, .fad 7 (.t 21)⟩, ⟨some 23, none, .load none (.t 22)⟩, ⟨some 24, none, .un .not (.t 23)⟩]) (.cond (.t 24) (.ret) (.skip))) (.reg [⟨some 25, none, .mov (.t 0)⟩, ⟨some 26, none, .mov (.t 1)⟩, ⟨some 27, none, .load (some 6) (.t 7)⟩, ⟨some 28, none, .callf 94 [(.t 25), (.t 26), (.t 27)]⟩]))))) (.reg [⟨some 29, none, .bin .add (.t 10) (.c (.pv (.int .i64 1)))⟩, ⟨some 10, none, .mov (.t 29)⟩]))))))
theorem k_machine_checker_fits : FnOk Tryd.prog 83 30 c_machine_checker_fits [] := .mk' (fn := Tryd.f83) rfl rfl (by kernel_rfl) rfl (by kernel_rfl) (by kernel_rfl)
/- "retarget/machine.none" -/
def c_machine_none : C :=
.seq (.reg [⟨some 2, none, .mov (.c (.pv (.bool false)))⟩]) (.seq (.seq (.reg [⟨some 5, none, .mov (.t 0)⟩, ⟨some 6, none, .len (.t 5)⟩, ⟨some 7, none, .mov (.c (.pv (.int .i64 0)))⟩]) (.blk 0 (.loop ⟨[5, 6, 7], [], 0⟩ (.seq (.reg [⟨some 8, none, .bin .lss (.t 7) (.t 6)⟩]) (.seq (.cond (.t 8) (.skip) (.ext 0)) (.seq (.blk 1 (.seq (.reg [⟨some 9, none, .iad 6 (.t 5) (.t 7)⟩, ⟨some 10, none, .load (some 6) (.t 9)⟩, ⟨some 4, none, .alloc [.pv (.int .u8 0), .pv (.int .i64 0), .pv (.int .u64 0), .pv (.str ⟨#[]⟩), .pv (.int .i64 0), .nilS 6]⟩, ⟨none, none, .store 6 (.t 4) (.t 10)⟩]) (.seq (.reg [⟨some 11, none, .fad 0 (.t 4)⟩, ⟨some 12, none, .load none (.t 11)⟩, ⟨some 13, none, .bin .neq (.t 12) (.c (.pv (.int .u8 0)))⟩, ⟨some 14, none, .mov (.t 13)⟩, ⟨some 15, some (14, false), .fad 1 (.t 4)⟩, ⟨some 16, some (14, false), .load none (.t 15)⟩, ⟨some 17, some (14, false), .bin .neq (.t 16) (.c (.pv (.int .i64 0)))⟩, ⟨some 18, none, .lor (.t 14) (.t 17)⟩, ⟨some 19, none, .mov (.t 18)⟩, ⟨some 20, some (19, false), .fad 2 (.t 4)⟩, ⟨some 21, some (19, false), .load none (.t 20)⟩, ⟨some 22, some (19, false), .bin .neq (.t 21) (.c (.pv (.int .u64 0)))⟩, ⟨some 23, none, .lor (.t 19) (.t 22)⟩, ⟨some 24, none, .mov (.t 23)⟩, ⟨some 25, some (24, false), .fad 3 (.t 4)⟩, ⟨some 26, some (24, false), .load none (.t 25)⟩, ⟨some 27, some (24, false), .bin .neq (.t 26) (.c (.pv (.str ⟨#[]⟩)))⟩, ⟨some 28, none, .lor (.t 24) (.t 27)⟩, ⟨some 29, none, .mov (.t 28)⟩, ⟨some 30, some (29, false), .fad 4 (.t 4)⟩, ⟨some 31, some (29, false), .load none (.t 30)⟩, ⟨some 32, some (29, false), .bin .neq (.t 31) (.c (.pv (.int .i64 0)))⟩, ⟨some 33, none, .lor (.t 29) (.t 32)⟩, ⟨some 34, none, .mov (.t 33)⟩, ⟨some 35, some (34, false), .fad 5 (.t 4)⟩, ⟨some 36, some (34, false), .load none (.t 35)⟩, ⟨some 37, some (34, false), .len (.t 36)⟩, ⟨some 38, some (34, false), .bin .gtr (.t 37) (.c (.pv (.int .i64 0)))⟩, ⟨some 39, none, .lor (.t 34) (.t 38)⟩]) (.cond (.t 39) (.seq (.reg [⟨some 2, none, .mov (.c (.pv (.bool false)))⟩]) (.ret)) (.skip))))) (.reg [⟨some 40, none, .bin .add (.t 7) (.c (.pv (.int .i64 1)))⟩, ⟨some 7, none, .mov (.t 40)⟩]))))))) (.seq (.reg [⟨some 2, none, .mov (.c (.pv (.bool true)))⟩]) (.ret)))
theorem k_machine_none : FnOk Tryd.prog 84 41 c_machine_none [.tmp 2] := .mk' (fn := Tryd.f84) rfl rfl (by kernel_rfl) rfl (by kernel_rfl) (by kernel_rfl)
/- "(*retarget/machine.checker).leaves" -/
def c_machine_checker_leaves : C :=
.seq (.reg [⟨some 5, none, .box 6 (.t 2)⟩]) (.seq (.seq (.reg [⟨some 8, none, .fad 0 (.t 5)⟩, ⟨some 9, none, .load none (.t 8)⟩]) (.blk 0 (.seq (.reg [⟨some 11, none, .bin .eql (.t 9) (.c (.pv (.int .u8 2)))⟩, ⟨some 10, none, .mov (.t 11)⟩]) (.cond (.t 10) (.reg [⟨some 12, none, .mov (.t 0)⟩, ⟨some 13, none, .mov (.t 1)⟩, ⟨some 14, none, .fad 3 (.t 5)⟩, ⟨some 15, none, .load none (.t 14)⟩, ⟨some 16, none, .look 2 (.pv (.int .i64 0)) (.t 13) (.t 15) false⟩, ⟨some 17, none, .fad 1 (.t 5)⟩, ⟨some 18, none, .load none (.t 17)⟩, ⟨some 19, none, .bin .eql (.t 16) (.t 18)⟩, ⟨some 20, none, .lit 1 [(.t 19)]⟩, ⟨some 21, none, .callf 34 [(.t 12), (.t 20)]⟩]) (.seq (.reg [⟨some 23, none, .bin .eql (.t 9) (.c (.pv (.int .u8 24)))⟩, ⟨some 22, none, .mov (.t 23)⟩]) (.cond (.t 22) (.dreg [⟨some 24, none, .mov (.t 0)⟩, ⟨some 25, none, .fad 5 (.t 5)⟩, ⟨some 26, none, .load none (.t 25)⟩, ⟨some 27, none, .iad 6 (.t 26) (.c (.pv (.int .i64 0)))⟩, ⟨some 28, none, .fad 1 (.t 27)⟩, ⟨some 29, none, .load none (.t 28)⟩, ⟨some 30, none, .mov (.t 0)⟩, ⟨some 31, none, .nilc (.t 30)⟩, ⟨some 32, none, .fad 0 (.t 31)⟩, ⟨some 33, none, .fad 2 (.t 32)⟩, ⟨some 34, none, .load none (.t 33)⟩, ⟨some 35, none, .bin .eql (.t 29) (.t 34)⟩, ⟨some 36, none, .lit 1 [(.t 35)]⟩, ⟨some 37, none, .callf 34 [(.t 24), (.t 36)]⟩] [[], [], [1], [1, 2], [1, 2, 3], [1, 2, 3, 4], [], [6], [6, 7], [6, 7, 8], [6, 7, 8, 9], [1, 2, 3, 4, 5, 6, 7, 8, 9, 10], [1, 2, 3, 4, 5, 6, 7, 8, 9, 10, 11], [0, 1, 2, 3, 4, 5, 6, 7, 8, 9, 10, 11, 12]]) (.skip))))))) (.seq (.reg [⟨some 38, none, .fad 5 (.t 5)⟩, ⟨some 39, none, .load none (.t 38)⟩, ⟨some 40, none, .len (.t 39)⟩, ⟨some 41, none, .mov (.c (.pv (.int .i64 0)))⟩]) (.blk 1 (.loop ⟨[0, 1, 39, 40, 41], [0, 1, 2], 3⟩ (.seq (.reg [⟨some 42, none, .bin .lss (.t 41) (.t 40)⟩]) (.seq (.cond (.t 42) (.skip) (.ext 1)) (.seq (.blk 2 (.seq (.reg [⟨some 43, none, .iad 6 (.t 39) (.t 41)⟩, ⟨some 44, none, .load (some 6) (.t 43)⟩, ⟨some 7, none, .alloc [.pv (.int .u8 0), .pv (.int .i64 0), .pv (.int .u64 0), .pv (.str ⟨#[]⟩), .pv (.int .i64 0), .nilS 6]⟩, ⟨none, none, .store 6 (.t 7) (.t 44)⟩]) (.reg [⟨some 45, none, .mov (.t 0)⟩, ⟨some 46, none, .mov (.t 1)⟩, ⟨some 47, none, .load (some 6) (.t 7)⟩, ⟨some 48, none, .callf 94 [(.t 45), (.t 46), (.t 47)]⟩]))) (.reg [⟨some 49, none, .bin .add (.t 41) (.c (.pv (.int .i64 1)))⟩, ⟨some 41, none, .mov (.t 49)⟩]))))))))
theorem k_machine_checker_leaves : FnOk Tryd.prog 94 50 c_machine_checker_leaves [] := .mk' (fn := Tryd.f94) rfl rfl (by kernel_rfl) rfl (by kernel_rfl) (by kernel_rfl)
end Go.Proofs.YthocoandbiaoiaaDoorV

namespace Go.Proofs.YthocoandbiaoiaaDoorV
open Go
set_option maxRecDepth 100000
set_option maxHeartbeats 4000000
theorem p_machine_within (gl : Glob) (n a b : Int) : PCall Tryd.prog gl 36 [.pv (.int .i64 n), .pv (.int .i64 a), .pv (.int .i64 b)] (.pv (.bool (inR n a b))) := by
  refine k_machine_within.pcall (by simp) (by simp) (by simp) fun hwf => ?_
  simp [c_machine_within, inR]
theorem p_slices_Max2 (gl : Glob) (a b : Int) : PCall Tryd.prog gl 77 [.pv (.lst 1 [.int .i64 a, .int .i64 b])] (.pv (.int .i64 (max a b))) := by
  refine k_slices_Max_int_int.pcall (by simp) (by simp) (by simp) fun hwf => ?_
  simp [c_slices_Max_int_int, nth]
  refine Loop.nat (fun i => { e := [(0, .pv (.lst 1 [.int .i64 a, .int .i64 b])), (3, .pv (.int .i64 (if i = 0 then a else max a b))), (4, .pv (.int .i64 (i + 1 : Nat)))], h := [], nx := 0 }) 1 (fun _ => True) (by simp) (by simp) (by simp) fun i hi hinv => ?_
  have hc : i = 0 ∨ i = 1 := by omega
  rcases hc with rfl | rfl
  · simp [nth, wrap_nat]
  · simp
theorem p_machine_fewer (gl : Glob) (a n : Int) : PCall Tryd.prog gl 56 [.pv (.int .i64 a), .flit 1 [.int .i64 n]] (.pv (.bool (decide (max n 0 ≤ a)))) := by
  refine k_machine_fewer.pcall (by simp) (by simp) (by simp) fun hwf => ?_
  simp [c_machine_fewer]
  refine CallNext.pure (p_slices_Max2 gl n 0) fun _ => ?_
  simp
theorem p_slices_Index_string (gl : Glob) (l : List ByteArray) (x : ByteArray) : PCall Tryd.prog gl 79 [.pv (.lst 1 (strs l)), .pv (.str x)] (.pv (.int .i64 (fstI (fun y => decide (x = y)) l))) := by
  refine k_slices_Index_string_string.pcall (by simp) (by simp) (by simp) fun hwf => ?_
  have hb : l.length ≤ 9223372036854775807 := by have := hwf (.pv (.lst 1 (strs l))) (by simp); simp [strs, maxLen] at this; exact this.1
  simp [c_slices_Index_string_string]
  refine Loop.nat (fun i => { e := [(0, .pv (.lst 1 (strs l))), (1, .pv (.str x)), (7, .pv (.int .i64 l.length)), (8, .pv (.int .i64 i))], h := [], nx := 0 }) l.length (fun i => ∀ j, j < i → decide (x = gt l (j : Nat)) = false) (by simp) (by simp) (by simp) fun i hi hinv => ?_
  by_cases hlt : i < l.length
  · simp [hlt]
    refine ⟨fun h => (fstI_some (by omega) (by simp [h]) hinv).symm, fun h => ⟨fun j hj => ?_, wrap_nat (by omega) (by omega)⟩⟩
    rcases Nat.lt_or_eq_of_le (Nat.le_of_lt_succ hj) with hj | rfl
    · simpa using hinv j hj
    · exact h
  · simp [hlt]
    exact (fstI_none fun j hj => hinv j (by omega)).symm
theorem p_slices_Contains_string (gl : Glob) (l : List ByteArray) (x : ByteArray) : PCall Tryd.prog gl 58 [.pv (.lst 1 (strs l)), .pv (.str x)] (.pv (.bool (l.any fun y => decide (x = y)))) := by
  refine k_slices_Contains_string_string.pcall (by simp) (by simp) (by simp) fun hwf => ?_
  simp [c_slices_Contains_string_string]
  refine CallNext.pure (p_slices_Index_string gl l x) fun _ => ?_
  simp [fstI_nonneg]
def nbox (j : Nat) (l : List ByteArray) : Ob := .box [.own j 1 (strs l)]
def freshB (l : List ByteArray) (s : ByteArray) : Bool := isName s && !l.any fun y => decide (s = y)
theorem p_names_fresh (gl : Glob) (l : List ByteArray) (s : ByteArray) (hl : l.length ≤ 1000) :
    ACall Tryd.prog gl (.func 40) 2 [.ptr 0 0, .pv (.str s)] [(0, nbox 1 l), (1, .tip 1 l.length)] (.pv (.bool (freshB l s))) [(0, nbox 1 (l ++ [s])), (1, .tip 1 (l.length + 1))] 2 := by
  refine k_machine_names_fresh.acall (by simp) (by simp) (by simp) (by simp [nbox]) (by simp) (by simp [nbox]) fun hwf => ?_
  simp [c_machine_names_fresh, nbox]
  refine CallNext.pure (p_bits_Name gl s) fun _ => ?_
  simp
  refine ⟨_, fun _ => .of (p_slices_Contains_string gl l s), by simp, ?_⟩
  simp [freshB]
  refine ⟨by omega, [0, 1], ?_⟩
  simp [strs]
theorem all_take {l : List Bool} {i : Nat} (h : i < l.length) : (l.take (i + 1)).all id = ((l.take i).all id && gt l (i : Nat)) := by
  rw [gt_nat h, List.take_succ_eq_append_getElem h, List.all_append]; simp
def cbox (m : Mach) (ok : Bool) : Ob := .box [.pv (.str m.name), .pv (.int .i64 m.word), .pv (.int .i64 m.address), .pv (.lst 4 (m.regs.map Reg.pv)), .pv (.lst 2 (m.banks.map Bank.pv)), .pv (.lst 2 (m.units.map Unt.pv)), .pv (.lst 9 (m.instrs.map Ins_.pv)), .pv (.bool ok)]
def bools (l : List Bool) : List PV := l.map .bool
theorem p_checker_must (gl : Glob) (m : Mach) (ok : Bool) (l : List Bool) :
    ACall Tryd.prog gl (.func 34) 1 [.ptr 0 0, .pv (.lst 1 (bools l))] [(0, cbox m ok)] (.tup []) [(0, cbox m (ok && l.all id))] 1 := by
  refine k_machine_checker_must.acall (by simp) (by simp) (by simp) (by simp [cbox]) (by simp) (by simp [cbox]) fun hwf => ?_
  have hb : l.length ≤ 9223372036854775807 := by have := hwf (.pv (.lst 1 (bools l))) (by simp); simp [bools, maxLen] at this; exact this.1
  simp [c_machine_checker_must, cbox, bools]
  refine Loop.nat (fun i => { e := [(0, .ptr 0 0), (6, .pv (.lst 1 (l.map .bool))), (7, .pv (.int .i64 l.length)), (8, .pv (.int .i64 i))], h := [(0, cbox m (ok && (l.take i).all id))], nx := 1 }) l.length (fun _ => True) (by simp) (by simp) (by simp [cbox]) fun i hi hinv => ?_
  by_cases hlt : i < l.length
  · simp [hlt, cbox, wrap_nat (show (0:Int) ≤ i + 1 by omega) (by omega)]
    rw [all_take hlt, Bool.and_assoc]
  · obtain rfl : i = l.length := by omega
    simp [cbox]
    exact ⟨[0], by simp⟩
end Go.Proofs.YthocoandbiaoiaaDoorV

namespace Go.Proofs.YthocoandbiaoiaaDoorV
open Go
set_option maxRecDepth 100000
set_option maxHeartbeats 4000000
theorem any_take {α : Type} [Inhabited α] {l : List α} {i : Nat} (h : i ≤ l.length) (p : α → Bool) : (!(l.take i).any p) = allB i fun k => !p (gt l (k : Nat)) := by
  induction i with
  | zero => simp
  | succ i ih =>
    have hi : i < l.length := by omega
    rw [List.take_succ_eq_append_getElem hi, List.any_append, Bool.not_or, ih (by omega), allB_succ, gt_nat hi]; simp
theorem fresh_take {α : Type} [Inhabited α] {l : List α} (f : α → ByteArray) {i : Nat} (h : i < l.length) : freshB ((l.map f).take i) (f (gt l (i : Nat))) = (isName (f (gt l (i : Nat))) && allB i fun k => !decide (f (gt l (k : Nat)) = f (gt l (i : Nat)))) := by
  rw [freshB, any_take (by simp; omega)]
  congr 1
  refine allB_congr fun k hk => ?_
  rw [gt_nat (show k < (l.map f).length by simp; omega), gt_nat (show k < l.length by omega)]
  simp [eq_comm]
theorem take_names {α : Type} [Inhabited α] {l : List α} (f : α → ByteArray) {i : Nat} (h : i < l.length) : (l.map f).take (i + 1) = (l.map f).take i ++ [f (gt l (i : Nat))] := by
  rw [List.take_succ_eq_append_getElem (by simpa using h), gt_nat h]; simp
theorem p_checker_regs (gl : Glob) (m : Mach) (ok : Bool) (hl : m.regs.length ≤ 500) :
    ACall Tryd.prog gl (.func 37) 1 [.ptr 0 0] [(0, cbox m ok)] (.tup []) [(0, cbox m (ok && okRegs m))] 1 := by
  refine k_machine_checker_regs.acall (by simp) (by simp) (by simp) (by simp [cbox]) (by simp) (by simp [cbox]) fun hwf => ?_
  simp [c_machine_checker_regs, cbox]
  refine CallNext.obs [0] (p_checker_must gl m ok [decide (0 < m.regs.length)]) (by simp) (by simp) (by simp [bools]) (by simp [cbox]) fun _ => ?_
  simp [cbox]
  refine Loop.nat (fun i => { e := [(0, .ptr 0 0), (2, .ptr 1 0), (20, .pv (.lst 4 (m.regs.map Reg.pv))), (21, .pv (.int .i64 m.regs.length)), (22, .pv (.int .i64 i))], h := [(0, cbox m (ok && (decide (0 < m.regs.length) && allB i (rgOk m)))), (1, nbox 2 ((m.regs.map (·.name)).take i)), (2, .tip 1 i)], nx := 3 }) m.regs.length (fun _ => True) (by simp [cbox]) (by simp) (by simp [cbox, nbox, strs]) fun i hi hinv => ?_
  by_cases hlt : i < m.regs.length
  · simp [hlt, cbox, wrap_nat (show (0:Int) ≤ i + 1 by omega) (by omega)]
    have hlen : ((m.regs.map (·.name)).take i).length = i := by simp; omega
    refine DCallNext.obs' [1, 2] (p_names_fresh gl ((m.regs.map (·.name)).take i) (gt m.regs i).name (by rw [hlen]; omega)) rfl (by simp) (by simp) (by simp) (by simp) (by simp [nbox, hlen]) ?_
    simp [nbox, hlen]
    refine DCallNext.pure (p_machine_within gl _ _ _) ?_
    simp
    refine DCallNext.obs' [0] (p_checker_must gl m _ [_, _]) rfl (by simp) (by simp) (by simp [bools]; exact ⟨rfl, rfl⟩) (by simp) (by simp [cbox]; rfl) ?_
    simp [cbox]
    rw [fresh_take _ hlt, ← take_names _ hlt]
    have hw1 : IntKind.i64.wrap ((i : Int) + 1) = (i : Int) + 1 := wrap_nat (by omega) (by omega)
    have hne : m.regs ≠ [] := by intro h; simp [h] at hlt
    refine ⟨fun hof => ?_, fun hof => ?_⟩
    · refine CallNext.obs [0] (p_checker_must gl m _ [_]) (by simp) (by simp) (by simp [bools]; rfl) (by simp [cbox]; rfl) fun _ => ?_
      simp [cbox, hlt, hw1]
      rw [allB_succ]
      simp [rgOk, hof]
      ac_rfl
    · refine DCallNext.pure (p_machine_within gl _ _ _) ?_
      simp
      rw [wrap_i64 (by omega) (by omega)]
      refine ⟨fun hout => ?_, fun hin => ?_⟩
      · refine CallNext.obs [0] (p_checker_must gl m _ [_]) (by simp) (by simp) (by simp [bools]; rfl) (by simp [cbox]; rfl) fun _ => ?_
        simp [cbox]
        refine ⟨hlt, hw1, fun _ _ => ?_⟩
        rw [allB_succ]
        simp [rgOk, hof, hout]
      · have hin' : 0 ≤ (gt m.regs (i : Nat)).of ∧ (gt m.regs (i : Nat)).of ≤ (m.regs.length : Int) - 1 := by simpa [inR] using hin
        simp [hne]
        refine ⟨by omega, ?_⟩
        refine DCallNext.pure (p_machine_within gl _ _ _) ?_
        simp
        refine DCallNext.pure (p_machine_within gl _ _ _) ?_
        simp
        refine DCallNext.obs' [0] (p_checker_must gl m _ [_, _, _, _]) rfl (by simp) (by simp) (by simp [bools]; exact ⟨rfl, rfl, rfl, rfl⟩) (by simp) (by simp [cbox]; rfl) ?_
        simp [cbox]
        refine ⟨hlt, hw1, ?_⟩
        rw [allB_succ]
        simp only [rgOk, hof, if_false, hin]
        by_cases hA : inR (gt m.regs (gt m.regs (i : Nat)).of).width 1 64 = true
        · by_cases hB : inR (gt m.regs (i : Nat)).width 1 64 = true
          · rw [wrap_i64 (by simp [inR] at hA hB; omega) (by simp [inR] at hA hB; omega)]
            simp [hA, hB]
            ac_rfl
          · simp [hB]
        · simp [hA]
  · obtain rfl : i = m.regs.length := by omega
    simp [cbox, okRegs]
    exact ⟨[0], by simp [Bool.and_comm]⟩
theorem p_checker_units (gl : Glob) (m : Mach) (ok : Bool) (hl : m.units.length ≤ 500) :
    ACall Tryd.prog gl (.func 39) 1 [.ptr 0 0] [(0, cbox m ok)] (.tup []) [(0, cbox m (ok && okUnits m))] 1 := by
  refine k_machine_checker_units.acall (by simp) (by simp) (by simp) (by simp [cbox]) (by simp) (by simp [cbox]) fun hwf => ?_
  simp [c_machine_checker_units, cbox]
  refine CallNext.obs [0] (p_checker_must gl m ok [decide (0 < m.units.length)]) (by simp) (by simp) (by simp [bools]) (by simp [cbox]) fun _ => ?_
  simp [cbox]
  refine Loop.nat (fun i => { e := [(0, .ptr 0 0), (2, .ptr 1 0), (19, .pv (.lst 2 (m.units.map Unt.pv))), (20, .pv (.int .i64 m.units.length)), (21, .pv (.int .i64 i))], h := [(0, cbox m (ok && (decide (0 < m.units.length) && allB i (unitOk m)))), (1, nbox 2 ((m.units.map (·.name)).take i)), (2, .tip 1 i)], nx := 3 }) m.units.length (fun _ => True) (by simp [cbox]) (by simp) (by simp [cbox, nbox, strs]) fun i hi hinv => ?_
  by_cases hlt : i < m.units.length
  · have hw1 : IntKind.i64.wrap ((i : Int) + 1) = (i : Int) + 1 := wrap_nat (by omega) (by omega)
    have hlen : ((m.units.map (·.name)).take i).length = i := by simp; omega
    simp [hlt, cbox]
    refine DCallNext.obs' [1, 2] (p_names_fresh gl ((m.units.map (·.name)).take i) (gt m.units i).name (by rw [hlen]; omega)) rfl (by simp) (by simp) (by simp) (by simp) (by simp [nbox, hlen]) ?_
    simp [nbox, hlen]
    refine DCallNext.pure (p_machine_within gl _ _ _) ?_
    simp
    refine DCallNext.obs' [0] (p_checker_must gl m _ [_, _]) rfl (by simp) (by simp) (by simp [bools]; exact ⟨rfl, rfl⟩) (by simp) (by simp [cbox]; rfl) ?_
    simp [cbox, hlt, hw1]
    rw [fresh_take _ hlt, ← take_names _ hlt, allB_succ]
    simp [unitOk]
    ac_rfl
  · obtain rfl : i = m.units.length := by omega
    simp [cbox, okUnits]
    exact ⟨[0], by simp [Bool.and_comm]⟩
@[simp] theorem ints_take {l : List Int} {n : Nat} : (ints l).take n = ints (l.take n) := by simp [ints, List.map_take]
theorem p_checker_banks (gl : Glob) (m : Mach) (ok : Bool) (hl : m.banks.length ≤ 500) (hr : m.regs.length ≤ 500) (hbl : ∀ b ∈ m.banks, b.regs.length ≤ 500) :
    ACall Tryd.prog gl (.func 38) 1 [.ptr 0 0] [(0, cbox m ok)] (.tup []) [(0, cbox m (ok && okBanks m))] 1 := by
  refine k_machine_checker_banks.acall (by simp) (by simp) (by simp) (by simp [cbox]) (by simp) (by simp [cbox]) fun hwf => ?_
  simp [c_machine_checker_banks, cbox]
  refine Loop.nat (fun i => { e := [(0, .ptr 0 0), (2, .ptr 1 0), (11, .pv (.lst 2 (m.banks.map Bank.pv))), (12, .pv (.int .i64 m.banks.length)), (13, .pv (.int .i64 i))], h := [(0, cbox m (ok && allB i (bankOk m))), (1, nbox 2 ((m.banks.map (·.name)).take i)), (2, .tip 1 i)], nx := 3 }) m.banks.length (fun _ => True) (by simp [cbox]) (by simp) (by simp [cbox, nbox, strs]) fun i hi hinv => ?_
  by_cases hlt : i < m.banks.length
  · have hw1 : IntKind.i64.wrap ((i : Int) + 1) = (i : Int) + 1 := wrap_nat (by omega) (by omega)
    have hlen : ((m.banks.map (·.name)).take i).length = i := by simp; omega
    simp [hlt, cbox]
    refine DCallNext.obs' [1, 2] (p_names_fresh gl ((m.banks.map (·.name)).take i) (gt m.banks i).name (by rw [hlen]; omega)) rfl (by simp) (by simp) (by simp) (by simp) (by simp [nbox, hlen]) ?_
    simp [nbox, hlen]
    refine DCallNext.obs' [0] (p_checker_must gl m _ [_, _]) rfl (by simp) (by simp) (by simp [bools]; exact ⟨rfl, rfl⟩) (by simp) (by simp [cbox]; rfl) ?_
    simp [cbox]
    rw [fresh_take _ hlt, ← take_names _ hlt]
    have hbl' : (gt m.banks (i : Nat)).regs.length ≤ 500 := hbl _ (gt_mem (by omega) (by omega))
    generalize hb : gt m.banks (i : Nat) = b at *
    let q : Nat → Bool := fun k => inR (gt b.regs (k : Nat)) 0 (m.regs.length - 1) && allB k (fun j => !decide (gt b.regs (j : Nat) = gt b.regs (k : Nat))) && decide ((gt m.regs (gt b.regs (k : Nat))).width = (gt m.regs (gt b.regs 0)).width)
    let A : Bool := isName b.name && (allB i fun k => !decide ((gt m.banks (k : Nat)).name = b.name))
    have hq : bankOk m i = (A && decide (0 < b.regs.length) && allB b.regs.length q) := by
      simp only [bankOk, hb, A, q]; ac_rfl
    refine Loop.nat (fun k => { e := [(0, .ptr 0 0), (2, .ptr 1 0), (4, .ptr 3 0), (11, .pv (.lst 2 (m.banks.map Bank.pv))), (12, .pv (.int .i64 m.banks.length)), (13, .pv (.int .i64 i)), (28, .pv (.lst 1 (ints b.regs))), (29, .pv (.int .i64 b.regs.length)), (30, .pv (.int .i64 k))], h := [(0, cbox m (ok && allB i (bankOk m) && (A && decide (0 < b.regs.length)) && allB k q)), (1, nbox 2 ((m.banks.map (·.name)).take (i + 1))), (2, .tip 1 (i + 1)), (3, b.bx)], nx := 14 }) b.regs.length (fun _ => True) (by simp [cbox, Bank.bx]) (by simp) (by simp [cbox, nbox, Bank.bx, A]) fun k hk hinv => ?_
    by_cases hkt : k < b.regs.length
    · have hw2 : IntKind.i64.wrap ((k : Int) + 1) = (k : Int) + 1 := wrap_nat (by omega) (by omega)
      simp [hkt, cbox, Bank.bx]
      have hbne : b.regs ≠ [] := by intro h; simp [h] at hkt
      have hnc : (!(b.regs.take k).any fun y => decide (gt b.regs (k : Nat) = y)) = allB k (fun j => !decide (gt b.regs (j : Nat) = gt b.regs (k : Nat))) := by
        rw [any_take (by omega)]; exact allB_congr fun j hj => by simp [eq_comm]
      refine DCallNext.pure (p_machine_within gl _ _ _) ?_
      simp
      rw [wrap_i64 (by omega) (by omega)]
      refine ⟨by omega, DCallNext.pure (p_slices_Contains_int_int gl _ _) ?_⟩
      simp only [hnc, dvc_nil, d_un, dnext_some, stp_un, evs, ev, eget, eput, DV.strip, if_true]
      simp [hnc]
      refine DCallNext.obs' [0] (p_checker_must gl m _ [_, _]) rfl (by simp) (by simp) (by simp [bools]; exact ⟨rfl, rfl⟩) (by simp) (by simp [cbox]; rfl) ?_
      simp [cbox]
      refine ⟨fun h1 h2 h3 h4 h5 h6 h7 => ?_, fun hno => ?_⟩
      · have h6' : 0 ≤ gt b.regs (k : Nat) ∧ gt b.regs (k : Nat) ≤ (m.regs.length : Int) - 1 := by simpa [inR] using h6
        have hmne : m.regs ≠ [] := by intro h; simp [h] at h6'; omega
        have h0' : 0 ≤ gt b.regs 0 ∧ gt b.regs 0 ≤ (m.regs.length : Int) - 1 := by
          rcases Nat.eq_zero_or_pos k with rfl | hk0
          · simpa using h6'
          · have := allB_true.1 h5 0 hk0
            simp [q] at this
            simpa [inR] using this
        simp [hmne, hbne]
        refine ⟨by omega, by omega, by omega, ?_⟩
        refine DCallNext.obs' [0] (p_checker_must gl m _ [_]) rfl (by simp) (by simp) (by simp [bools]; rfl) (by simp) (by simp [cbox]; rfl) ?_
        simp [cbox, Bank.bx, hkt, hw2]
        refine ⟨by simp [nbox], ?_⟩
        rw [allB_succ]
        simp only [q]
        ac_rfl
      · simp [cbox, Bank.bx, hkt, hw2]
        refine ⟨by simp [nbox], ?_⟩
        have hX : ∀ w : Bool, (ok && allB i (bankOk m) && (A && decide (0 < b.regs.length)) && allB k q && (inR (gt b.regs (k : Nat)) 0 (m.regs.length - 1) && (allB k fun j => !decide (gt b.regs (j : Nat) = gt b.regs (k : Nat))) && w)) = false := fun w => by
          rw [Bool.eq_false_iff]; intro h
          simp only [Bool.and_eq_true, decide_eq_true_eq] at h
          obtain ⟨⟨⟨⟨h1, h2⟩, h3, h4⟩, h5⟩, ⟨h6, h7⟩, -⟩ := h
          have := hno h1 h2 h3 h4 h5 h6
          rw [h7] at this; simp at this
        have e1 := hX true
        rw [Bool.and_true] at e1
        rw [allB_succ, e1]
        have e2 := hX (decide ((gt m.regs (gt b.regs (k : Nat))).width = (gt m.regs (gt b.regs 0)).width))
        rw [← e2]; simp only [q]; ac_rfl
    · obtain rfl : k = b.regs.length := by omega
      simp [cbox, hlt, hw1, nbox]
      rw [allB_succ, hq]; simp [Bool.and_assoc]
  · obtain rfl : i = m.banks.length := by omega
    simp [cbox, okBanks]
    exact ⟨[0], by simp⟩
end Go.Proofs.YthocoandbiaoiaaDoorV

namespace Go.Proofs.YthocoandbiaoiaaDoorV
open Go
set_option maxHeartbeats 1000000
theorem wrap_u64 {n : Int} (h0 : 0 ≤ n) (h : n < 18446744073709551616) : IntKind.u64.wrap n = n := wrap_id (by simp [IntKind.min, IntKind.signed]; omega) (by simp [IntKind.max, IntKind.signed, IntKind.bits]; omega)
theorem u64_bits : IntKind.u64.bits = 64 := rfl
theorem bv_ofNat {a : Nat} (h : a < 2 ^ 64) : (BitVec.ofInt 64 (a : Int)).toNat = a := by
  rw [BitVec.toNat_ofInt]; omega
theorem and_u64 {a b : Nat} (ha : a < 2 ^ 64) (hb : b < 2 ^ 64) : bandI .u64 (a : Int) (b : Int) = ((a &&& b : Nat) : Int) := by
  rw [bandI, u64_bits, BitVec.toNat_and, bv_ofNat ha, bv_ofNat hb]
  have := Nat.and_lt_two_pow a hb
  exact wrap_u64 (by omega) (by omega)
theorem or_u64 {a b : Nat} (ha : a < 2 ^ 64) (hb : b < 2 ^ 64) : borI .u64 (a : Int) (b : Int) = ((a ||| b : Nat) : Int) := by
  rw [borI, u64_bits, BitVec.toNat_or, bv_ofNat ha, bv_ofNat hb]
  have := Nat.or_lt_two_pow ha hb
  exact wrap_u64 (by omega) (by omega)
theorem andNot_u64 {a b : Nat} (ha : a < 2 ^ 64) (hb : b < 2 ^ 64) : bandNotI .u64 (a : Int) (b : Int) = ((a &&& (2 ^ 64 - 1 - b) : Nat) : Int) := by
  rw [bandNotI, u64_bits, BitVec.toNat_and, BitVec.toNat_not, bv_ofNat ha, bv_ofNat hb]
  have := Nat.and_lt_two_pow a (show 2 ^ 64 - 1 - b < 2 ^ 64 by omega)
  exact wrap_u64 (by omega) (by omega)
def pmask (p : Piece) : Nat := (2 ^ p.len.toNat - 1) * 2 ^ p.at_.toNat
def takenN (ps : List Piece) : Nat → Nat
  | 0 => 0
  | n + 1 => takenN ps n ||| pmask (gt ps (n : Nat))
def rngOk (word : Int) (ps : List Piece) (j : Nat) : Bool := inR (gt ps (j : Nat)).len 1 (8 * word) && inR (gt ps (j : Nat)).at_ 0 (8 * word - (gt ps (j : Nat)).len)
def pcOk (word : Int) (ps : List Piece) (j : Nat) : Bool := rngOk word ps j && decide (takenN ps j &&& pmask (gt ps (j : Nat)) = 0)
theorem pmask_lt {word : Int} {ps : List Piece} {j : Nat} (hw : 1 ≤ word ∧ word ≤ 4) (h1 : inR (gt ps (j : Nat)).len 1 (8 * word) = true) (h2 : inR (gt ps (j : Nat)).at_ 0 (8 * word - (gt ps (j : Nat)).len) = true) : pmask (gt ps (j : Nat)) < 2 ^ 32 := by
  simp [inR] at h1 h2
  generalize gt ps (j : Nat) = p at *
  unfold pmask
  have hle : p.len.toNat + p.at_.toNat ≤ 32 := by omega
  have h3 : 2 ^ p.len.toNat * 2 ^ p.at_.toNat ≤ 2 ^ 32 := by rw [← Nat.pow_add]; exact Nat.pow_le_pow_right (by omega) hle
  have h4 : 0 < 2 ^ p.at_.toNat := Nat.pow_pos (by omega)
  rw [Nat.sub_mul]
  omega
theorem takenN_lt {word : Int} {ps : List Piece} (hw : 1 ≤ word ∧ word ≤ 4) : ∀ (n : Nat), (∀ j, j < n → rngOk word ps j = true) → takenN ps n < 2 ^ 32
  | 0, _ => by simp [takenN]
  | n + 1, h => by
    rw [takenN]
    have h1 := h n (by omega)
    simp only [rngOk, Bool.and_eq_true] at h1
    exact Nat.or_lt_two_pow (takenN_lt hw n fun j hj => h j (by omega)) (pmask_lt hw h1.1 h1.2)
theorem fieldN_le {word : Int} {ps : List Piece} (hw : 1 ≤ word ∧ word ≤ 4) : ∀ (n : Nat), n ≤ 500 → (∀ j, j < n → rngOk word ps j = true) → 0 ≤ fieldN ps n ∧ fieldN ps n ≤ 32 * n
  | 0, _, _ => by simp [fieldN]
  | n + 1, hn, h => by
    have h1 := fieldN_le hw n (by omega) fun j hj => h j (by omega)
    have h2 := h n (by omega)
    simp only [rngOk, Bool.and_eq_true] at h2
    have h3 : 1 ≤ (gt ps (n : Nat)).len ∧ (gt ps (n : Nat)).len ≤ 8 * word := by simpa [inR] using h2.1
    rw [fieldN, wrap_i64 (by omega) (by omega)]
    omega
theorem shl_one : ∀ n : Nat, n < 63 → shlI .i64 1 (n : Int) = 2 ^ n := by decide
theorem maskI_nat {w : Int} (h : 1 ≤ w ∧ w ≤ 64) : maskI w = ((2 ^ w.toNat - 1 : Nat) : Int) := by
  have hb : wideB w = true := by simp [wideB, inR]; omega
  have : 0 < 2 ^ w.toNat := Nat.pow_pos (by omega)
  simp only [maskI, hb, if_true]
  rw [Int.ofNat_sub (by omega)]
  simp
theorem shl_mask {p : Piece} {word : Int} (hw : 1 ≤ word ∧ word ≤ 4) (h1 : 1 ≤ p.len ∧ p.len ≤ 8 * word) (h2 : 0 ≤ p.at_ ∧ p.at_ ≤ 8 * word - p.len) : shlI .u64 (maskI p.len) p.at_ = (pmask p : Int) := by
  rw [shlI, maskI_nat (by omega)]
  have e1 : min p.at_.toNat IntKind.u64.bits = p.at_.toNat := by rw [u64_bits]; omega
  rw [e1]
  have e2 : ((2 ^ p.len.toNat - 1 : Nat) : Int) * 2 ^ p.at_.toNat = ((pmask p : Nat) : Int) := by unfold pmask; push_cast; rfl
  rw [e2]
  have := pmask_lt (word := word) (ps := [p]) (j := 0) hw (by simp [gt, inR]; omega) (by simp [gt, inR]; omega)
  simp [gt] at this
  exact wrap_u64 (by omega) (by omega)
end Go.Proofs.YthocoandbiaoiaaDoorV

namespace Go.Proofs.YthocoandbiaoiaaDoorV
open Go
set_option maxRecDepth 100000
set_option maxHeartbeats 4000000
theorem p_machine_field (gl : Glob) (o : Opnd) : PCall Tryd.prog gl 81 [.pv o.pv] (.pv (.int .i64 (fieldI o))) := by
  refine k_machine_field.pcall (by simp) (by simp) (by simp) fun hwf => ?_
  have hb : o.pieces.length ≤ 9223372036854775807 := by have := hwf (.pv o.pv) (by simp); simp only [DV.wf] at this; rw [Opnd.wf_pv] at this; simp [-Opnd.fold, maxLen] at this; exact this.2.2.2.2.1.1
  simp [c_machine_field]
  refine Loop.nat (fun i => { e := [(2, .pv (.int .i64 (fieldN o.pieces i))), (6, .pv (.lst 2 (o.pieces.map Piece.pv))), (7, .pv (.int .i64 o.pieces.length)), (8, .pv (.int .i64 i))], h := [(0, o.bx)], nx := 1 }) o.pieces.length (fun _ => True) (by simp [Opnd.bx]) (by simp) (by simp [Opnd.bx, fieldN]) fun i hi hinv => ?_
  by_cases hlt : i < o.pieces.length
  · simp [hlt, Opnd.bx, fieldN, wrap_nat (show (0:Int) ≤ i + 1 by omega) (by omega)]
  · obtain rfl : i = o.pieces.length := by omega
    simp [fieldI]
theorem p_machine_wide (gl : Glob) (m : Mach) (o : Opnd) (h : o.kind = 1 → (0 ≤ o.bank ∧ o.bank < m.banks.length) ∧ (gt m.banks o.bank).regs ≠ [] ∧ 0 ≤ gt (gt m.banks o.bank).regs 0 ∧ gt (gt m.banks o.bank).regs 0 < m.regs.length) : PCall Tryd.prog gl 82 [.pv m.pv, .pv o.pv] (.pv (.int .i64 (wideI m o))) := by
  refine k_machine_wide.pcall (by simp) (by simp) (by simp) fun hwf => ?_
  by_cases hk : o.kind = 1
  · obtain ⟨h1, h2, h3⟩ := h hk
    have hb : m.banks ≠ [] := by intro hh; simp [hh] at h1; omega
    have hr : m.regs ≠ [] := by intro hh; simp [hh] at h3; omega
    simp [c_machine_wide, hk, hb, hr, h2, wideI]
    have : 0 < (gt m.banks o.bank).regs.length := by cases hh : (gt m.banks o.bank).regs <;> simp_all
    omega
  · simp [c_machine_wide, hk, wideI]
def kindOk (m : Mach) (s : Ins_) (i : Nat) : Bool :=
  let o := gt s.operands (i : Nat)
  if o.kind = 1 then
    inR o.bank 0 (m.banks.length - 1) && decide (o.scale = 0) &&
    if o.tied = -1 then decide (0 < fieldI o) && (decide (6 < fieldI o) || decide (((gt m.banks o.bank).regs.length : Int) ≤ 2 ^ (fieldI o).toNat))
    else inR o.tied 0 (i - 1) && decide (o.pieces.length = 0) && (let t := gt s.operands o.tied; decide (t.kind = 1) && decide (t.bank = o.bank) && decide (t.tied = -1))
  else if o.kind = 2 ∨ o.kind = 3 ∨ o.kind = 4 then decide (o.bank = 0) && decide (o.tied = -1) && inR o.scale 0 3 && decide (0 < fieldI o) && decide (fieldI o + o.scale ≤ m.address)
  else false
def opOk (m : Mach) (s : Ins_) (i : Nat) : Bool := allB (gt s.operands (i : Nat)).pieces.length (pcOk m.word (gt s.operands (i : Nat)).pieces) && kindOk m s i
def opTaken (m : Mach) (ok : Bool) (s : Ins_) (i : Nat) : Nat :=
  let o := gt s.operands (i : Nat)
  if allB o.pieces.length (fun j => ok && allB j (pcOk m.word o.pieces) && rngOk m.word o.pieces j) then
    (if o.kind = 1 ∧ ¬ (ok && allB o.pieces.length (pcOk m.word o.pieces) && (inR o.bank 0 (m.banks.length - 1) && decide (o.scale = 0))) = true then 0 else takenN o.pieces o.pieces.length) else 0
theorem opTaken_lt {m : Mach} {ok : Bool} {s : Ins_} {i : Nat} (hw : ok = true → 1 ≤ m.word ∧ m.word ≤ 4) : opTaken m ok s i < 2 ^ 32 := by
  unfold opTaken
  simp only
  split
  · rename_i h
    split
    · omega
    · rcases Nat.eq_zero_or_pos (gt s.operands (i : Nat)).pieces.length with h0 | h0
      · rw [h0]; simp [takenN]
      · have := allB_true.1 h 0 h0
        simp only [Bool.and_eq_true] at this
        exact takenN_lt (hw this.1.1) _ fun j hj => by have := allB_true.1 h j hj; simp only [Bool.and_eq_true] at this; exact this.2
  · omega
theorem opTaken_eq {m : Mach} {ok : Bool} {s : Ins_} {i : Nat} (h : (ok && opOk m s i) = true) : opTaken m ok s i = takenN (gt s.operands (i : Nat)).pieces (gt s.operands (i : Nat)).pieces.length := by
  simp only [opOk, Bool.and_eq_true] at h
  obtain ⟨h1, h2, h3⟩ := h
  unfold opTaken
  simp only
  rw [if_pos (allB_true.2 fun j hj => ?_), if_neg]
  · rintro ⟨hk, hn⟩
    apply hn
    simp only [kindOk, hk, if_true, Bool.and_eq_true] at h3
    simp only [h1, h2, Bool.and_eq_true, h3.1.1, h3.1.2, and_self]
  · have h4 := allB_true.1 h2
    have := h4 j hj
    simp only [pcOk, Bool.and_eq_true] at this
    simp only [h1, this.1, Bool.and_true, Bool.true_and]
    exact allB_true.2 fun k hk => h4 k (by omega)
theorem p_checker_operand (gl : Glob) (m : Mach) (ok : Bool) (s : Ins_) (i : Nat) (hi : i < s.operands.length) (hw : ok = true → 1 ≤ m.word ∧ m.word ≤ 4) (hil : s.operands.length ≤ 500) (hb : m.banks.length ≤ 500) (hp : (gt s.operands (i : Nat)).pieces.length ≤ 500) :
    ACall Tryd.prog gl (.func 60) 1 [.ptr 0 0, .pv s.pv, .pv (.int .i64 i)] [(0, cbox m ok)] (.pv (.int .u64 (opTaken m ok s i))) [(0, cbox m (ok && opOk m s i))] 1 := by
  refine k_machine_checker_operand.acall (by simp) (by simp) (by simp) (by simp [cbox]) (by simp) (by simp [cbox]) fun hwf => ?_
  simp [c_machine_checker_operand, cbox, hi]
  generalize ho : gt s.operands (i : Nat) = o at *
  let R : Nat → Bool := fun j => ok && allB j (pcOk m.word o.pieces) && rngOk m.word o.pieces j
  have hT : opTaken m ok s i = if allB o.pieces.length R then (if o.kind = 1 ∧ ¬ (ok && allB o.pieces.length (pcOk m.word o.pieces) && (inR o.bank 0 (m.banks.length - 1) && decide (o.scale = 0))) = true then 0 else takenN o.pieces o.pieces.length) else 0 := by unfold opTaken; rw [ho]
  have hO : opOk m s i = (allB o.pieces.length (pcOk m.word o.pieces) && kindOk m s i) := by unfold opOk; rw [ho]
  refine Loop.nat (fun j => { e := [(0, .ptr 0 0), (2, .pv (.int .i64 i)), (4, .ptr 1 0), (6, .pv (.int .u64 (takenN o.pieces j : Nat))), (7, .ptr 2 0), (20, .pv (.lst 2 (o.pieces.map Piece.pv))), (21, .pv (.int .i64 o.pieces.length)), (22, .pv (.int .i64 j))], h := [(0, cbox m (ok && allB j (pcOk m.word o.pieces))), (1, s.bx), (2, o.bx)], nx := 3 }) o.pieces.length (fun j => allB j R = true) (by simp [cbox, Ins_.bx, Opnd.bx]) (by simp) (by simp [cbox, takenN, Ins_.bx, Opnd.bx]) fun j hj hinv => ?_
  by_cases hlt : j < o.pieces.length
  · have hw1 : IntKind.i64.wrap ((j : Int) + 1) = (j : Int) + 1 := wrap_nat (by omega) (by omega)
    simp [hlt, cbox]
    refine DCallNext.pure (p_machine_within gl _ _ _) ?_
    simp
    refine DCallNext.obs' [0] (p_checker_must gl m _ [_, _, _]) rfl (by simp) (by simp) (by simp [bools]; exact ⟨rfl, rfl, rfl⟩) (by simp) (by simp [cbox]; rfl) ?_
    simp [cbox]
    refine ⟨fun hno => ?_, fun g1 g2 g3 g4 g5 => ?_⟩
    · have hRj : R j = false := by
        rw [Bool.eq_false_iff]; intro h
        simp only [R, Bool.and_eq_true, rngOk] at h
        obtain ⟨⟨h1, h2⟩, h3, h4⟩ := h
        have hww := hw h1
        have h3' : 1 ≤ (gt o.pieces (j : Nat)).len ∧ (gt o.pieces (j : Nat)).len ≤ 8 * m.word := by simpa [inR] using h3
        have h4' : 0 ≤ (gt o.pieces (j : Nat)).at_ ∧ (gt o.pieces (j : Nat)).at_ ≤ 8 * m.word - (gt o.pieces (j : Nat)).len := by simpa [inR] using h4
        rw [wrap_i64 (n := 8 * m.word) (by omega) (by omega), wrap_i64 (by omega) (by omega), h3, h1, h2] at hno
        simp at hno
        omega
      have hf := allB_false hlt hRj
      have hf2 : (ok && opOk m s i) = false := by
        rw [Bool.eq_false_iff]; intro h
        rw [hO] at h
        simp only [Bool.and_eq_true] at h
        have h4 := allB_true.1 h.2.1
        have h5 : R j = true := by
          have := h4 j hlt
          simp only [pcOk, Bool.and_eq_true] at this
          simp only [R, h.1, this.1, Bool.and_true, Bool.true_and]
          exact allB_true.2 fun k hk => h4 k (by omega)
        rw [hRj] at h5; simp at h5
      rw [hT, if_neg (by simp [hf]), hf2]
      refine ⟨rfl, [0], ?_⟩
      simp
      intro a1 a2 a3 a4
      rcases hno with (h | h) | h | h | h
      · simp [a1] at h
      · simp [a2] at h
      · simp [a3] at h
      · omega
      · exact h
    · have hww := hw g1
      have e8 : IntKind.i64.wrap (8 * m.word) = 8 * m.word := wrap_i64 (by omega) (by omega)
      rw [e8] at g3 g5
      have hA : 1 ≤ (gt o.pieces (j : Nat)).len ∧ (gt o.pieces (j : Nat)).len ≤ 8 * m.word := by simpa [inR] using g3
      rw [wrap_i64 (by omega) (by omega)] at g5
      have hR : ∀ k, k < j → rngOk m.word o.pieces k = true := fun k hk => by have := allB_true.1 hinv k hk; simp only [R, Bool.and_eq_true] at this; exact this.2
      have hrj : rngOk m.word o.pieces j = true := by simp [rngOk, g3]; simp [inR, g4, g5]
      have ht := takenN_lt hww j hR
      have ht2 := takenN_lt hww (j + 1) fun k hk => by rcases Nat.lt_or_eq_of_le (Nat.le_of_lt_succ hk) with hk | rfl; exact hR k hk; exact hrj
      have hpm : pmask (gt o.pieces (j : Nat)) < 2 ^ 32 := pmask_lt (word := m.word) hww g3 (by simp [inR, g4, g5])
      refine DCallNext.pure (p_bits_Mask gl _) ?_
      simp
      rw [shl_mask hww hA ⟨g4, g5⟩, and_u64 (by omega) (by omega)]
      refine ⟨g4, CallNext.obs [0] (p_checker_must gl m _ [_]) (by simp) (by simp) (by simp [bools]; rfl) (by simp [cbox]; rfl) fun _ => ?_⟩
      have hRj : R j = true := by simp [R, g1, g2, hrj]
      have hpj : pcOk m.word o.pieces j = decide (takenN o.pieces j &&& pmask (gt o.pieces (j : Nat)) = 0) := by simp [pcOk, hrj]
      have hwl : inR (gt o.pieces (j : Nat)).len 1 (8 * m.word) = true := g3
      simp [cbox, hlt, hw1, or_u64 (show takenN o.pieces j < 2 ^ 64 by omega) (show pmask (gt o.pieces (j : Nat)) < 2 ^ 64 by omega), allB_succ, hinv, hRj, hpj, takenN, g1, g2, e8, hwl, g4, Ins_.bx, Opnd.bx, wrap_i64 (n := 8 * m.word - (gt o.pieces (j : Nat)).len) (by omega) (by omega), g5]
  · obtain rfl : j = o.pieces.length := by omega
    rw [if_pos hinv] at hT
    have hfield : ok = true → allB o.pieces.length (pcOk m.word o.pieces) = true → 0 ≤ fieldI o ∧ fieldI o ≤ 16000 := fun h1 h2 => by
      have := fieldN_le (hw h1) o.pieces.length hp fun k hk => by have := allB_true.1 h2 k hk; simp only [pcOk, Bool.and_eq_true] at this; exact this.1
      unfold fieldI; omega
    by_cases hk1 : o.kind = 1
    · simp [cbox, hk1, Opnd.bx]
      refine DCallNext.pure (p_machine_within gl _ _ _) ?_
      simp
      rw [wrap_i64 (by omega) (by omega)]
      refine DCallNext.obs' [0] (p_checker_must gl m _ [_, _]) rfl (by simp) (by simp) (by simp [bools]; exact ⟨rfl, rfl⟩) (by simp) (by simp [cbox]; rfl) ?_
      simp [cbox]
      have hkd : kindOk m s i = (inR o.bank 0 (m.banks.length - 1) && decide (o.scale = 0) &&
          if o.tied = -1 then decide (0 < fieldI o) && (decide (6 < fieldI o) || decide (((gt m.banks o.bank).regs.length : Int) ≤ 2 ^ (fieldI o).toNat))
          else inR o.tied 0 (i - 1) && decide (o.pieces.length = 0) && (let t := gt s.operands o.tied; decide (t.kind = 1) && decide (t.bank = o.bank) && decide (t.tied = -1))) := by simp only [kindOk, ho, hk1, if_true]
      refine ⟨fun hno => ?_, fun a1 a2 a3 a4 => ?_⟩
      · have hX : (ok && allB o.pieces.length (pcOk m.word o.pieces) && (inR o.bank 0 (m.banks.length - 1) && decide (o.scale = 0))) = false := by
          rw [Bool.eq_false_iff]; intro h
          simp only [Bool.and_eq_true, decide_eq_true_eq] at h
          obtain ⟨⟨h1, h2⟩, h3, h4⟩ := h
          rcases hno with (h | h) | h | h
          · simp [h1] at h
          · simp [h2] at h
          · simp [h3] at h
          · exact h h4
        have hz : opTaken m ok s i = 0 := by rw [hT, if_pos ⟨hk1, by simp [hX]⟩]
        have hY : (ok && opOk m s i) = false := by
          rw [Bool.eq_false_iff] at hX ⊢
          intro h; apply hX
          rw [hO, hkd] at h
          simp only [Bool.and_eq_true] at h ⊢
          exact ⟨⟨h.1, h.2.1⟩, h.2.2.1⟩
        rw [hz, hY, hX]
        exact ⟨rfl, [0], by simp⟩
      · have hz : opTaken m ok s i = takenN o.pieces o.pieces.length := by rw [hT, if_neg]; rintro ⟨-, h⟩; apply h; simp [a1, a2, a3, a4]
        have hfl := hfield a1 a2
        subst a1
        have a3' : 0 ≤ o.bank ∧ o.bank ≤ (m.banks.length : Int) - 1 := by simpa [inR] using a3
        have hbne : m.banks ≠ [] := by intro h; simp [h] at a3'; omega
        have hone : s.operands ≠ [] := by intro h; simp [h] at hi
        refine ⟨fun htd => ?_, fun htd => ?_⟩
        · refine CallNext.pure (by have := p_machine_field gl o; rw [Opnd.pv_eq, hk1] at this; exact this) fun hwf2 => ?_
          simp [hbne]
          refine ⟨⟨by omega, by omega⟩, by omega, ?_⟩
          refine DCallNext.obs' [0] (p_checker_must gl m _ [_, _]) rfl (by simp) (by simp) (by simp [bools]; exact ⟨rfl, rfl⟩) (by simp) (by simp [cbox]; rfl) ?_
          simp [cbox, hz, hO, hkd, htd, a2, a3, a4]
          refine ⟨[0], ?_⟩
          simp
          by_cases h6 : fieldI o ≤ 6
          · have hs1 := shl_one (fieldI o).toNat (by omega)
            rw [Int.toNat_of_nonneg (by omega)] at hs1
            rw [hs1]
          · simp [show 6 < fieldI o by omega]
        · refine DCallNext.pure (p_machine_within gl _ _ _) ?_
          simp
          rw [wrap_i64 (by omega) (by omega)]
          refine DCallNext.obs' [0] (p_checker_must gl m _ [_, _]) rfl (by simp) (by simp) (by simp [bools]; exact ⟨rfl, rfl⟩) (by simp) (by simp [cbox]; rfl) ?_
          simp [cbox, a2, a3, a4, hone]
          refine ⟨fun b1 b2 => ?_, fun hno => ?_⟩
          · have b1' : 0 ≤ o.tied ∧ o.tied ≤ (i : Int) - 1 := by simpa [inR] using b1
            simp [Ins_.bx, Opnd.bx, hone, hk1, show 0 ≤ o.tied by omega, show o.tied < (s.operands.length : Int) by omega]
            refine CallNext.obs [0] (p_checker_must gl m _ [_, _, _]) (by simp) (by simp) (by simp [bools]; exact ⟨rfl, rfl, rfl⟩) (by simp [cbox]; rfl) fun _ => ?_
            simp [cbox, hz, hO, hkd, htd, a2, a3, a4, b1, b2]
            refine ⟨[0], ?_⟩
            simp
            ac_rfl
          · simp [cbox, hz, hO, hkd, htd, a2, a3, a4]
            refine ⟨[0], ?_⟩
            simp
            exact fun b1 b2 => absurd b2 (hno b1)
    · by_cases hk2 : o.kind = 2 ∨ o.kind = 3 ∨ o.kind = 4
      · have hT' : opTaken m ok s i = takenN o.pieces o.pieces.length := by rw [hT, if_neg fun h => hk1 h.1]
        have hkd : kindOk m s i = (decide (o.bank = 0) && decide (o.tied = -1) && inR o.scale 0 3 && decide (0 < fieldI o) && decide (fieldI o + o.scale ≤ m.address)) := by simp only [kindOk, ho, hk1, if_false, hk2, if_true]
        rw [hT']
        rcases hk2 with hk2 | hk2 | hk2
        all_goals
          simp [cbox, hk2, Opnd.bx]
          refine CallNext.pure (by have := p_machine_field gl o; rw [Opnd.pv_eq, hk2] at this; exact this) fun hwf2 => ?_
          simp
          refine DCallNext.pure (p_machine_within gl _ _ _) ?_
          simp
          refine DCallNext.obs' [0] (p_checker_must gl m _ [_, _, _, _, _]) rfl (by simp) (by simp) (by simp [bools]; exact ⟨rfl, rfl, rfl, rfl, rfl⟩) (by simp) (by simp [cbox]; rfl) ?_
          simp [cbox, hO, hkd]
          refine ⟨[0], ?_⟩
          simp
          by_cases hA : ok = true ∧ allB o.pieces.length (pcOk m.word o.pieces) = true
          · have hfl := hfield hA.1 hA.2
            by_cases hsc : inR o.scale 0 3 = true
            · rw [wrap_i64 (by simp [inR] at hsc; omega) (by simp [inR] at hsc; omega)]
              simp [hA.1, hA.2, hsc]
              ac_rfl
            · simp [hsc]
          · rw [Bool.eq_iff_iff]
            simp only [Bool.and_eq_true]
            exact ⟨fun h => absurd h.1 hA, fun h => absurd ⟨h.1, h.2.1⟩ hA⟩
      · have hk : o.kind ≠ 2 ∧ o.kind ≠ 3 ∧ o.kind ≠ 4 := by omega
        have hT' : opTaken m ok s i = takenN o.pieces o.pieces.length := by rw [hT, if_neg fun h => hk1 h.1]
        have hkd : kindOk m s i = false := by simp only [kindOk, ho, hk1, if_false, hk2]
        simp [cbox, hk1, hk, Opnd.bx]
        refine CallNext.obs [0] (p_checker_must gl m _ [_]) (by simp) (by simp) (by simp [bools]; rfl) (by simp [cbox]; rfl) fun _ => ?_
        simp [cbox, hT', hO, hkd]
        exact ⟨[0], by simp⟩
end Go.Proofs.YthocoandbiaoiaaDoorV

namespace Go.Proofs.YthocoandbiaoiaaDoorV
open Go
set_option maxRecDepth 100000
set_option maxHeartbeats 4000000
theorem all_take1 {α : Type} [Inhabited α] {l : List α} {i : Nat} (h : i < l.length) (p : α → Bool) : (l.take (i + 1)).all p = ((l.take i).all p && p (gt l (i : Nat))) := by
  rw [gt_nat h, List.take_succ_eq_append_getElem h, List.all_append]; simp
def insSmall (s : Ins_) : Bool := decide (s.operands.length ≤ 4) && decide (s.effects.length ≤ 4) && s.operands.all fun o => decide (o.pieces.length ≤ 4)
theorem p_fewer (gl : Glob) (k n : Nat) : PCall Tryd.prog gl 56 [.pv (.int .i64 (k : Nat)), .flit 1 [.int .i64 n]] (.pv (.bool (decide (n ≤ k)))) := by
  have h : decide (n ≤ k) = decide (max (n : Int) 0 ≤ (k : Nat)) := by by_cases h1 : n ≤ k <;> simp [h1] <;> omega
  rw [h]; exact p_machine_fewer gl _ _
theorem p_machine_small (gl : Glob) (m : Mach) : PCall Tryd.prog gl 33 [.pv m.pv] (.pv (.bool (inLimits m))) := by
  refine k_machine_small.pcall (by simp) (by simp) (by simp) fun hwf => ?_
  have hb := hwf (.pv m.pv) (by simp)
  simp only [DV.wf] at hb; rw [Mach.wf_pv] at hb; simp [-Mach.fold, maxLen] at hb
  obtain ⟨-, -, -, -, ⟨hb1, -⟩, -, ⟨hb2, hb3⟩⟩ := hb
  let A : Bool := decide (m.regs.length ≤ 64) && decide (m.banks.length ≤ 16) && decide (m.units.length ≤ 8) && decide (m.instrs.length ≤ 64)
  let B : Bool := m.banks.all (fun b => decide (b.regs.length ≤ 64))
  simp [c_machine_small]
  refine CallNext.pure (p_fewer gl 64 _) fun _ => ?_
  simp
  refine ⟨_, by intros; exact .of (p_fewer gl 16 _), by simp, ?_⟩
  simp
  refine ⟨_, by intros; exact .of (p_fewer gl 8 _), by simp, ?_⟩
  simp
  refine ⟨_, by intros; exact .of (p_fewer gl 64 _), by simp, ?_⟩
  simp
  refine Loop.nat (fun i => { e := [(1, .ptr 0 0), (3, .pv (.bool (A && (m.banks.take i).all (fun b => decide (b.regs.length ≤ 64))))), (37, .pv (.lst 2 (m.banks.map Bank.pv))), (38, .pv (.int .i64 m.banks.length)), (39, .pv (.int .i64 i))], h := [(0, m.bx)], nx := 1 }) m.banks.length (fun _ => True) (by simp [Mach.bx]) (by simp) (by simp [Mach.bx, A]) fun i hi hinv => ?_
  by_cases hlt : i < m.banks.length
  · simp [hlt, wrap_nat (show (0:Int) ≤ i + 1 by omega) (by omega), Mach.bx]
    refine ⟨_, by intros; exact .of (p_fewer gl 64 _), by simp, ?_⟩
    simp [hlt, wrap_nat (show (0:Int) ≤ i + 1 by omega) (by omega), all_take1 hlt, Bool.and_assoc]
  obtain rfl : i = m.banks.length := by omega
  simp [Mach.bx]
  refine Loop.nat (fun i => { e := [(3, .pv (.bool (A && B && (m.instrs.take i).all insSmall))), (53, .pv (.lst 9 (m.instrs.map Ins_.pv))), (54, .pv (.int .i64 m.instrs.length)), (55, .pv (.int .i64 i))], h := [(0, m.bx)], nx := 1 }) m.instrs.length (fun _ => True) (by simp [Mach.bx]) (by simp) (by simp [Mach.bx, B]) fun i hi hinv => ?_
  by_cases hlt : i < m.instrs.length
  · have hb4 : (gt m.instrs (i : Nat)).operands.length ≤ 9223372036854775807 := by
      have := hb3 _ (gt_mem (i := (i : Nat)) (by omega) (by omega))
      rw [Ins_.wf_pv] at this; simp [-Ins_.fold, maxLen] at this
      exact this.2.2.2.1.1
    simp [hlt, Mach.bx]
    generalize hs : gt m.instrs (i : Nat) = s at *
    refine ⟨_, by intros; exact .of (p_fewer gl 4 _), by simp, ?_⟩
    simp
    refine ⟨_, by intros; exact .of (p_fewer gl 4 _), by simp, ?_⟩
    simp
    refine Loop.nat (fun k => { e := [(3, .pv (.bool (A && B && (m.instrs.take i).all insSmall && decide (s.operands.length ≤ 4) && decide (s.effects.length ≤ 4) && (s.operands.take k).all fun o => decide (o.pieces.length ≤ 4)))), (53, .pv (.lst 9 (m.instrs.map Ins_.pv))), (54, .pv (.int .i64 m.instrs.length)), (55, .pv (.int .i64 i)), (75, .pv (.lst 6 (s.operands.map Opnd.pv))), (76, .pv (.int .i64 s.operands.length)), (77, .pv (.int .i64 k))], h := [(0, m.bx), (1, s.bx)], nx := 2 }) s.operands.length (fun _ => True) (by simp [Mach.bx, Ins_.bx]) (by simp) (by simp [Mach.bx, Ins_.bx]) fun k hk hinv => ?_
    by_cases hkt : k < s.operands.length
    · simp [hkt, Mach.bx, Ins_.bx]
      refine ⟨_, by intros; exact .of (p_fewer gl 4 _), by simp, ?_⟩
      simp [hkt, wrap_nat (show (0:Int) ≤ k + 1 by omega) (by omega), all_take1 hkt, Bool.and_assoc]
    · obtain rfl : k = s.operands.length := by omega
      simp [hlt, wrap_nat (show (0:Int) ≤ i + 1 by omega) (by omega), all_take1 hlt, Bool.and_assoc, hs, insSmall, Mach.bx, Ins_.bx]
  · obtain rfl : i = m.instrs.length := by omega
    simp [inLimits, A, B]
    rfl
theorem p_machine_none (gl : Glob) (l : List Tm) : PCall Tryd.prog gl 84 [.pv (.lst 6 (l.map Tm.pv))] (.pv (.bool (l.all noneB))) := by
  refine k_machine_none.pcall (by simp) (by simp) (by simp) fun hwf => ?_
  have hb : l.length ≤ 9223372036854775807 := by have := hwf (.pv (.lst 6 (l.map Tm.pv))) (by simp); simp [maxLen] at this; exact this.1
  simp [c_machine_none]
  refine Loop.nat (fun i => { e := [(5, .pv (.lst 6 (l.map Tm.pv))), (6, .pv (.int .i64 l.length)), (7, .pv (.int .i64 i))], h := [], nx := 0 }) l.length (fun i => (l.take i).all noneB = true) (by simp) (by simp) (by simp) fun i hi hinv => ?_
  by_cases hlt : i < l.length
  · simp [hlt, wrap_nat (show (0:Int) ≤ i + 1 by omega) (by omega)]
    have hx : noneB (gt l (i : Nat)) = true ↔ (((((gt l (i : Nat)).op = 0 ∧ (gt l (i : Nat)).width = 0) ∧ (gt l (i : Nat)).val = 0) ∧ (gt l (i : Nat)).name = ⟨#[]⟩) ∧ (gt l (i : Nat)).low = 0) ∧ (gt l (i : Nat)).sub = [] := by
      simp only [noneB, Bool.and_eq_true, decide_eq_true_eq, List.length_eq_zero_iff]
    have ht := all_take1 hlt noneB
    rw [hinv, Bool.true_and] at ht
    refine ⟨fun h => ⟨_, gt_mem (i := (i : Nat)) (by omega) (by omega), ?_⟩, fun a b c d e f => ?_⟩
    · rw [Bool.eq_false_iff]; intro hn
      obtain ⟨⟨⟨⟨⟨a, b⟩, c⟩, d⟩, e⟩, f⟩ := hx.1 hn
      simp [a, b, c, d, e, f] at h
    · rw [← List.all_eq_true, ht, hx]
      exact ⟨⟨⟨⟨⟨a, b⟩, c⟩, d⟩, e⟩, f⟩
  · obtain rfl : i = l.length := by omega
    simp at hinv
    simp
    exact hinv
def regVars (m : Mach) (n : Nat) : NV := (m.regs.take n).foldl (fun a r => putV a (rname r.name) r.width) [(pc, m.address)]
def insVarsN (m : Mach) (s : Ins_) (n : Nat) : NV := (s.operands.take n).foldl (fun a o => putV a o.name (wideI m o)) (regVars m m.regs.length)
def insVars (m : Mach) (s : Ins_) : NV := insVarsN m s s.operands.length
theorem regVars_succ {m : Mach} {i : Nat} (h : i < m.regs.length) : regVars m (i + 1) = putV (regVars m i) (rname (gt m.regs (i : Nat)).name) (gt m.regs (i : Nat)).width := by
  rw [regVars, List.take_succ_eq_append_getElem h, List.foldl_append, gt_nat h]; rfl
theorem insVars_succ {m : Mach} {s : Ins_} {i : Nat} (h : i < s.operands.length) : insVarsN m s (i + 1) = putV (insVarsN m s i) (gt s.operands (i : Nat)).name (wideI m (gt s.operands (i : Nat))) := by
  rw [insVarsN, List.take_succ_eq_append_getElem h, List.foldl_append, gt_nat h]; rfl
theorem nm_vmap (s : NV) (n : Nat) : (Ob.mp (vmap s)).nm fun i => i < n := fun x hx => by simp only [vmap, List.mem_map] at hx; obtain ⟨y, -, rfl⟩ := hx; simp
@[simp] theorem nm_vmap' {s : NV} {p : Nat → Prop} : (∀ (a : PV) (b : DV), (a, b) ∈ vmap s → DV.nm p b) ↔ True := ⟨fun _ => trivial, fun _ a b h => by simp only [vmap, List.mem_map, Prod.mk.injEq] at h; obtain ⟨y, -, -, rfl⟩ := h; simp⟩
@[simp] theorem ren_vmap {s : NV} {f : Nat → Nat} : (vmap s).map (fun x => (x.fst, DV.ren f x.snd)) = vmap s := by
  simp [vmap, DV.ren]
theorem bel_vmap (s : NV) (n : Nat) : (Ob.mp (vmap s)).bel n := fun x hx => by simp only [vmap, List.mem_map] at hx; obtain ⟨y, -, rfl⟩ := hx; simp
def wideOk (m : Mach) (o : Opnd) : Prop := o.kind = 1 → (0 ≤ o.bank ∧ o.bank < m.banks.length) ∧ (gt m.banks o.bank).regs ≠ [] ∧ 0 ≤ gt (gt m.banks o.bank).regs 0 ∧ gt (gt m.banks o.bank).regs 0 < m.regs.length
theorem p_checker_variables (gl : Glob) (m : Mach) (ok : Bool) (s : Ins_) (hl : m.regs.length ≤ 500) (hn : ∀ r ∈ m.regs, r.name.size ≤ 1000) (hs : s.operands.length ≤ 500) (hw : ∀ o ∈ s.operands, wideOk m o) :
    ACall Tryd.prog gl (.func 61) 1 [.ptr 0 0, .pv s.pv] [(0, cbox m ok)] (.mref 2) [(0, cbox m ok), (2, .mp (vmap (insVars m s)))] 3 := by
  refine k_machine_checker_variables.acall (by simp) (by simp) (by simp) (by simp [cbox]) (by simp) (by simp [cbox]) fun hwf => ?_
  simp [c_machine_checker_variables, cbox]
  have hk : ∀ (n : ByteArray) (s : NV), keysOk 2 (.str n) (vmap s) := fun n s => keysOk_vmap
  refine ⟨hk pc [], ?_⟩
  refine Loop.nat (fun i => { e := [(0, .ptr 0 0), (3, .ptr 1 0), (5, .mref 2), (21, .pv (.lst 4 (m.regs.map Reg.pv))), (22, .pv (.int .i64 m.regs.length)), (23, .pv (.int .i64 i))], h := [(0, cbox m ok), (1, s.bx), (2, .mp (vmap (regVars m i)))], nx := 3 }) m.regs.length (fun _ => True) (by simp [cbox, Ins_.bx]) (by simp) (by simp [cbox, Ins_.bx, regVars, vmap, pc]) fun i hi hinv => ?_
  by_cases hlt : i < m.regs.length
  · simp [hlt, hk, cbox, Ins_.bx, wrap_nat (show (0:Int) ≤ i + 1 by omega) (by omega), regVars_succ hlt, rname, rdot]
    have := hn _ (gt_mem (l := m.regs) (i := (i : Nat)) (by omega) (by omega))
    have h2 : (⟨#[114, 46]⟩ : ByteArray).size = 2 := rfl
    rw [h2]; unfold maxLen; omega
  obtain rfl : i = m.regs.length := by omega
  simp [cbox, Ins_.bx]
  refine Loop.nat (fun i => { e := [(0, .ptr 0 0), (5, .mref 2), (35, .pv (.lst 6 (s.operands.map Opnd.pv))), (36, .pv (.int .i64 s.operands.length)), (37, .pv (.int .i64 i))], h := [(0, cbox m ok), (1, s.bx), (2, .mp (vmap (insVarsN m s i)))], nx := 3 }) s.operands.length (fun _ => True) (by simp [cbox, Ins_.bx]) (by simp) (by simp [cbox, Ins_.bx, insVarsN]) fun i hi hinv => ?_
  by_cases hlt : i < s.operands.length
  · simp [hlt, cbox, Ins_.bx]
    refine DCallNext.pure (p_machine_wide gl m (gt s.operands (i : Nat)) (hw _ (gt_mem (by omega) (by omega)))) ?_
    simp [hlt, hk, wrap_nat (show (0:Int) ≤ i + 1 by omega) (by omega), insVars_succ hlt]
  · obtain rfl : i = s.operands.length := by omega
    simp [cbox, Ins_.bx]
    exact ⟨[0, 2], by simp [insVars]⟩
def leafB (a : Int) (V : NV) (x : Tm) : Bool := if x.op = 2 then decide ((lookV V x.name).getD 0 = x.width) else if x.op = 24 then decide ((gt x.sub 0).width = a) else true
mutual
def leavesB (a : Int) (V : NV) : Tm → Bool
  | ⟨o, w, v, n, l, ts⟩ => leafB a V ⟨o, w, v, n, l, ts⟩ && leavesL a V ts
def leavesL (a : Int) (V : NV) : List Tm → Bool
  | [] => true
  | t :: r => leavesB a V t && leavesL a V r
end
theorem leavesL_eq {a : Int} {V : NV} : ∀ {l : List Tm}, leavesL a V l = l.all (leavesB a V)
  | [] => rfl
  | t :: r => by rw [leavesL, leavesL_eq, List.all_cons]
theorem leavesB_eq {a : Int} {V : NV} {t : Tm} : leavesB a V t = (leafB a V t && t.sub.all (leavesB a V)) := by cases t; rw [leavesB, leavesL_eq]
mutual
def Tm.loadsOk : Tm → Bool
  | ⟨o, _, _, _, _, ts⟩ => (!decide (o = 24) || !decide (ts.length = 0)) && Tm.loadsOkL ts
def Tm.loadsOkL : List Tm → Bool
  | [] => true
  | t :: r => t.loadsOk && Tm.loadsOkL r
end
theorem Tm.loadsOkL_eq : ∀ {l : List Tm}, Tm.loadsOkL l = l.all Tm.loadsOk
  | [] => rfl
  | t :: r => by rw [Tm.loadsOkL, Tm.loadsOkL_eq, List.all_cons]
theorem Tm.loadsOk_eq {t : Tm} : t.loadsOk = ((!decide (t.op = 24) || !decide (t.sub.length = 0)) && t.sub.all Tm.loadsOk) := by cases t; rw [Tm.loadsOk, Tm.loadsOkL_eq]
theorem p_checker_leaves (gl : Glob) (m : Mach) (V : NV) (n : Nat) : ∀ (ok : Bool) (t : Tm), SizeOf.sizeOf t < n → t.loadsOk = true →
    ACall Tryd.prog gl (.func 94) 2 [.ptr 0 0, .mref 1, .pv t.pv] [(0, cbox m ok), (1, .mp (vmap V))] (.tup []) [(0, cbox m (ok && leavesB m.address V t)), (1, .mp (vmap V))] 2 := by
  induction n with
  | zero => intro ok t h; omega
  | succ n ih =>
  intro ok t hn hlo
  refine k_machine_checker_leaves.acall (by simp) (by simp) (by simp) (by simp [cbox]) (by simp) (by simp [cbox]) fun hwf => ?_
  have hb := Tm.wf_sub (by simpa using hwf)
  have hk : ∀ (n : ByteArray) (s : NV), keysOk 2 (.str n) (vmap s) := fun n s => keysOk_vmap
  rw [Tm.loadsOk_eq] at hlo
  simp only [Bool.and_eq_true, Bool.or_eq_true, Bool.not_eq_true', decide_eq_false_iff_not, List.length_eq_zero_iff] at hlo
  have hB := @leavesB_eq m.address V t
  have hc : t.op = 2 ∨ t.op = 24 ∨ (t.op ≠ 2 ∧ t.op ≠ 24) := by omega
  rcases hc with h | h | ⟨h, h'⟩
  simp [c_machine_checker_leaves, cbox, h, hk]
  refine CallNext.obs [0] (p_checker_must gl m _ [_]) (by simp) (by simp) (by simp [bools]; rfl) (by simp [cbox]; rfl) fun _ => ?_
  rotate_left
  have hne : t.sub ≠ [] := by rcases hlo.1 with h1 | h1; exact absurd h h1; exact h1
  simp [c_machine_checker_leaves, cbox, h, hk, hne, List.length_pos_iff]
  refine DCallNext.obs' [0] (p_checker_must gl m _ [_]) rfl (by simp) (by simp) (by simp [bools]; rfl) (by simp) (by simp [cbox]; rfl) ?_
  rotate_left
  simp [c_machine_checker_leaves, cbox, h, h', hk]
  all_goals
    try simp [cbox]
    refine Loop.nat (fun i => { e := [(0, .ptr 0 0), (1, .mref 1), (39, .pv (.lst 6 (t.sub.map Tm.pv))), (40, .pv (.int .i64 t.sub.length)), (41, .pv (.int .i64 i))], h := [(0, cbox m (ok && leafB m.address V t && (t.sub.take i).all (leavesB m.address V))), (1, .mp (vmap V)), (2, t.bx)], nx := 3 }) t.sub.length (fun _ => True) (by simp [cbox]) (by simp) (by simp [cbox, Tm.bx, leafB, h] <;> exact fun _ => .inl ‹_›) fun i hi hinv => ?_
    by_cases hlt : i < t.sub.length
    · simp [cbox, Tm.bx, hlt]
      refine CallNext.obs [0, 1] (ih _ (gt t.sub (i : Nat)) (by have := Tm.size_gt hlt; omega) (by have := List.all_eq_true.1 hlo.2; exact this _ (gt_mem (by omega) (by omega)))) (by simp) (by simp) (by simp) (by simp [cbox]; rfl) fun _ => ?_
      simp [hlt, cbox, Tm.bx, wrap_nat (show (0:Int) ≤ i + 1 by omega) (by omega), all_take1 hlt, Bool.and_assoc]
    · obtain rfl : i = t.sub.length := by omega
      simp [cbox, Tm.bx, hB, Bool.and_assoc]
      exact ⟨[0, 1], by simp⟩
end Go.Proofs.YthocoandbiaoiaaDoorV

namespace Go.Proofs.YthocoandbiaoiaaDoorV
open Go
set_option maxRecDepth 100000
set_option maxHeartbeats 4000000
theorem Tm.formed_loads (n : Nat) : ∀ t : Tm, SizeOf.sizeOf t < n → t.formed = true → t.loadsOk = true := by
  induction n with
  | zero => intro t h; omega
  | succ n ih =>
  intro t hn h
  rw [Tm.formed_eq, Bool.and_eq_true, Tm.formedL_eq] at h
  rw [Tm.loadsOk_eq, Bool.and_eq_true]
  refine ⟨?_, List.all_eq_true.2 fun u hu => ?_⟩
  · by_cases h24 : t.op = 24
    · have := h.2
      simp only [Tm.okNode, h24, Bool.and_eq_true] at this
      simp at this
      simp [h24]
      intro hn; simp [hn] at this
    · simp [h24]
  · obtain ⟨i, hi, rfl⟩ := List.getElem_of_mem hu
    have h1 := Tm.size_gt hi
    rw [gt_nat hi] at h1
    exact ih _ (by omega) (List.all_eq_true.1 h.1 _ hu)
theorem Tm.check_loads {t : Tm} (h : t.check = 0) : t.loadsOk = true := by
  refine Tm.formed_loads _ t (Nat.lt_succ_self _) ?_
  rw [Tm.check_eq] at h
  split at h
  · omega
  · split at h
    · assumption
    · omega
def fitB (m : Mach) (V : NV) (t : Tm) : Bool := decide (t.check = 0) && leavesB m.address V t
theorem p_checker_fits (m : Mach) (V : NV) (ok : Bool) (l : List Tm) (hs : ∀ t ∈ l, t.nodes < 2 ^ 40 ∧ t.depth < 2 ^ 40) :
    ACall Tryd.prog glob (.func 83) 2 [.ptr 0 0, .mref 1, .pv (.lst 6 (l.map Tm.pv))] [(0, cbox m ok), (1, .mp (vmap V))] (.tup []) [(0, cbox m (ok && l.all (fitB m V))), (1, .mp (vmap V))] 2 := by
  refine k_machine_checker_fits.acall (by simp) (by simp) (by simp) (by simp [cbox]) (by simp) (by simp [cbox]) fun hwf => ?_
  have hb : l.length ≤ 9223372036854775807 := by have := hwf (.pv (.lst 6 (l.map Tm.pv))) (by simp); simp [maxLen] at this; exact this.1
  simp [c_machine_checker_fits, cbox]
  refine Loop.nat (fun i => { e := [(0, .ptr 0 0), (1, .mref 1), (8, .pv (.lst 6 (l.map Tm.pv))), (9, .pv (.int .i64 l.length)), (10, .pv (.int .i64 i))], h := [(0, cbox m (ok && (l.take i).all (fitB m V))), (1, .mp (vmap V))], nx := 2 }) l.length (fun _ => True) (by simp [cbox]) (by simp) (by simp [cbox]) fun i hi hinv => ?_
  by_cases hlt : i < l.length
  · have hm := gt_mem (l := l) (i := (i : Nat)) (by omega) (by omega)
    simp [cbox, hlt]
    refine CallNext.pure (p_term_Check _ (hs _ hm).1 (hs _ hm).2) fun _ => ?_
    simp
    refine CallNext.obs [0] (p_checker_must glob m _ [_]) (by simp) (by simp) (by simp [bools]; rfl) (by simp [cbox]; rfl) fun _ => ?_
    simp [cbox]
    refine ⟨fun hno => ?_, fun h1 h2 h3 => ?_⟩
    · refine ⟨[0, 1], ?_⟩
      simp
      rw [Bool.eq_iff_iff]
      simp only [Bool.and_eq_true, List.all_eq_true, decide_eq_true_eq]
      constructor
      · rintro ⟨⟨h1, h2⟩, h3⟩
        rcases hno with (h | ⟨x, hx, h⟩) | h
        · simp [h1] at h
        · rw [h2 x hx] at h; simp at h
        · exact absurd h3 h
      · rintro ⟨h1, h2⟩
        refine ⟨⟨h1, fun x hx => h2 x (List.mem_of_mem_take hx)⟩, ?_⟩
        have := h2 _ hm
        simp only [fitB, Bool.and_eq_true, decide_eq_true_eq] at this
        exact this.1
    · refine CallNext.obs [0, 1] (p_checker_leaves glob m V _ _ _ (Nat.lt_succ_self _) (Tm.check_loads h3)) (by simp) (by simp) (by simp) (by simp [cbox]; rfl) fun _ => ?_
      simp [hlt, cbox, wrap_nat (show (0:Int) ≤ i + 1 by omega) (by omega), all_take1 hlt, fitB, h1, h3]
  · obtain rfl : i = l.length := by omega
    simp [cbox]
    exact ⟨[0, 1], by simp⟩
def effB (m : Mach) (s : Ins_) (V : NV) (x : Eff) : Bool :=
  if x.kind = 1 then fitB m V x.value && ([x.addr, x.cond].all noneB) &&
    (if x.operand = -1 ∧ inR x.reg 0 (m.regs.length - 1) = true then decide (x.value.width = (gt m.regs x.reg).width)
     else if x.reg = 0 ∧ inR x.operand 0 (s.operands.length - 1) = true then decide ((gt s.operands x.operand).kind = 1) && decide (x.value.width = wideI m (gt s.operands x.operand))
     else false)
  else if x.kind = 2 then (decide (x.operand = 0) && decide (x.reg = 0)) && fitB m V x.value && fitB m V x.addr && noneB x.cond && decide (x.addr.width = m.address) && ([8, 16, 32, 64].any fun w => decide (x.value.width = w))
  else if x.kind = 3 then (decide (x.operand = 0) && decide (x.reg = 0)) && fitB m V x.value && noneB x.addr && decide (x.value.width = m.address) && (noneB x.cond || (fitB m V x.cond && decide (x.cond.width = 1)))
  else if x.kind = 4 then (decide (x.operand = 0) && decide (x.reg = 0)) && fitB m V x.value && ([x.addr, x.cond].all noneB)
  else false
theorem p_checker_effect (m : Mach) (V : NV) (ok : Bool) (s : Ins_) (x : Eff) (hs : ∀ t ∈ [x.addr, x.value, x.cond], t.nodes < 2 ^ 40 ∧ t.depth < 2 ^ 40) (hr : m.regs.length ≤ 500) (ho : s.operands.length ≤ 500) (hw : ∀ o ∈ s.operands, wideOk m o) :
    ACall Tryd.prog glob (.func 62) 2 [.ptr 0 0, .pv s.pv, .pv x.pv, .mref 1] [(0, cbox m ok), (1, .mp (vmap V))] (.tup []) [(0, cbox m (ok && effB m s V x)), (1, .mp (vmap V))] 2 := by
  refine k_machine_checker_effect.acall (by simp) (by simp) (by simp) (by simp [cbox]) (by simp) (by simp [cbox]) fun hwf => ?_
  have ha := hs x.addr (by simp)
  have hv := hs x.value (by simp)
  have hc := hs x.cond (by simp)
  by_cases h1 : x.kind = 1
  · simp [c_machine_checker_effect, cbox, h1]
    refine CallNext.obs [0, 1] (p_checker_fits m V _ [x.value] (by simpa using hv)) (by simp) (by simp) (by simp) (by simp [cbox]; rfl) fun _ => ?_
    simp [cbox]
    refine CallNext.pure (p_machine_none glob [x.addr, x.cond]) fun _ => ?_
    simp
    refine CallNext.obs [0] (p_checker_must glob m _ [_]) (by simp) (by simp) (by simp [bools]; rfl) (by simp [cbox]; rfl) fun _ => ?_
    simp [cbox]
    refine ⟨_, by intros; exact .of (p_machine_within glob _ _ _), by simp, ?_⟩
    rw [wrap_i64 (by omega) (by omega)]
    have hrne : inR x.reg 0 (m.regs.length - 1) = true → m.regs ≠ [] := by intro h hn; simp [hn, inR] at h; omega
    have hone : inR x.operand 0 (s.operands.length - 1) = true → s.operands ≠ [] := by intro h hn; simp [hn, inR] at h; omega
    simp
    refine ⟨fun h3 h4 => ?_, fun h3 => ?_⟩
    · have h4' : 0 ≤ x.reg ∧ x.reg ≤ (m.regs.length : Int) - 1 := by simpa [inR] using h4
      simp [hrne h4, show x.reg < (m.regs.length : Int) by omega, h4'.1]
      refine DCallNext.obs' [0] (p_checker_must glob m _ [_]) rfl (by simp) (by simp) (by simp [bools]; rfl) (by simp) (by simp [cbox]; rfl) ?_
      simp [cbox, effB, h1, h3, h4]
      refine ⟨[0, 1], ?_⟩
      simp
      ac_rfl
    · refine ⟨_, by intros; exact .of (p_machine_within glob _ _ _), by simp, ?_⟩
      rw [wrap_i64 (by omega) (by omega)]
      simp
      have h3' : ¬ (x.operand = -1 ∧ inR x.reg 0 (m.regs.length - 1) = true) := by rintro ⟨a, b⟩; simp [h3 a] at b
      refine ⟨fun h4 h5 => ?_, fun h4 => ?_⟩
      · have h5' : 0 ≤ x.operand ∧ x.operand ≤ (s.operands.length : Int) - 1 := by simpa [inR] using h5
        have hwo := hw _ (gt_mem (l := s.operands) (i := x.operand) (by omega) (by omega))
        simp [hone h5, show x.operand < (s.operands.length : Int) by omega, h5'.1]
        refine DCallNext.pure (p_machine_wide glob m _ hwo) ?_
        simp
        refine DCallNext.obs' [0] (p_checker_must glob m _ [_, _]) rfl (by simp) (by simp) (by simp [bools]; exact ⟨rfl, rfl⟩) (by simp) (by simp [cbox]; rfl) ?_
        have hE : effB m s V x = (fitB m V x.value && ([x.addr, x.cond].all noneB) && (decide ((gt s.operands x.operand).kind = 1) && decide (x.value.width = wideI m (gt s.operands x.operand)))) := by rw [effB, if_pos h1, if_neg h3', if_pos ⟨h4, h5⟩]
        simp [cbox, hE]
        refine ⟨[0, 1], ?_⟩
        simp
        ac_rfl
      · refine CallNext.obs [0] (p_checker_must glob m _ [_]) (by simp) (by simp) (by simp [bools]; rfl) (by simp [cbox]; rfl) fun _ => ?_
        have h4' : ¬ (x.reg = 0 ∧ inR x.operand 0 (s.operands.length - 1) = true) := by rintro ⟨a, b⟩; simp [h4 a] at b
        simp [cbox, effB, h1, h3', h4']
        exact ⟨[0, 1], by simp⟩
  by_cases h2 : x.kind = 2
  · simp [c_machine_checker_effect, cbox, h2]
    refine CallNext.obs [0] (p_checker_must glob m _ [_, _]) (by simp) (by simp) (by simp [bools]; exact ⟨rfl, rfl⟩) (by simp [cbox]; rfl) fun _ => ?_
    simp [cbox]
    refine CallNext.obs [0, 1] (p_checker_fits m V _ [x.value] (by simpa using hv)) (by simp) (by simp) (by simp) (by simp [cbox]; rfl) fun _ => ?_
    simp [cbox]
    refine CallNext.obs [0, 1] (p_checker_fits m V _ [x.addr] (by simpa using ha)) (by simp) (by simp) (by simp) (by simp [cbox]; rfl) fun _ => ?_
    simp [cbox]
    refine DCallNext.pure (p_machine_none glob [x.cond]) ?_
    simp
    refine DCallNext.pure (p_slices_Contains_int_int glob [8, 16, 32, 64] x.value.width) ?_
    simp
    refine DCallNext.obs' [0] (p_checker_must glob m _ [_, _, _]) rfl (by simp) (by simp) (by simp [bools]; exact ⟨rfl, rfl, rfl⟩) (by simp) (by simp [cbox]; rfl) ?_
    simp [cbox, effB, h2]
    refine ⟨[0, 1], ?_⟩
    simp
    ac_rfl
  by_cases h3 : x.kind = 3
  · simp [c_machine_checker_effect, cbox, h3]
    refine CallNext.obs [0] (p_checker_must glob m _ [_, _]) (by simp) (by simp) (by simp [bools]; exact ⟨rfl, rfl⟩) (by simp [cbox]; rfl) fun _ => ?_
    simp [cbox]
    refine CallNext.obs [0, 1] (p_checker_fits m V _ [x.value] (by simpa using hv)) (by simp) (by simp) (by simp) (by simp [cbox]; rfl) fun _ => ?_
    simp [cbox]
    refine DCallNext.pure (p_machine_none glob [x.addr]) ?_
    simp
    refine DCallNext.obs' [0] (p_checker_must glob m _ [_, _]) rfl (by simp) (by simp) (by simp [bools]; exact ⟨rfl, rfl⟩) (by simp) (by simp [cbox]; rfl) ?_
    simp [cbox]
    refine CallNext.pure (p_machine_none glob [x.cond]) fun _ => ?_
    simp
    refine ⟨fun h4 => ?_, fun h4 => ?_⟩
    · refine CallNext.obs [0, 1] (p_checker_fits m V _ [x.cond] (by simpa using hc)) (by simp) (by simp) (by simp) (by simp [cbox]; rfl) fun _ => ?_
      simp [cbox]
      refine CallNext.obs [0] (p_checker_must glob m _ [_]) (by simp) (by simp) (by simp [bools]; rfl) (by simp [cbox]; rfl) fun _ => ?_
      simp [cbox, effB, h3, h4]
      refine ⟨[0, 1], ?_⟩
      simp
      ac_rfl
    · simp [cbox, effB, h3, h4]
      refine ⟨[0, 1], ?_⟩
      simp
      ac_rfl
  by_cases h4 : x.kind = 4
  · simp [c_machine_checker_effect, cbox, h4]
    refine CallNext.obs [0] (p_checker_must glob m _ [_, _]) (by simp) (by simp) (by simp [bools]; exact ⟨rfl, rfl⟩) (by simp [cbox]; rfl) fun _ => ?_
    simp [cbox]
    refine CallNext.obs [0, 1] (p_checker_fits m V _ [x.value] (by simpa using hv)) (by simp) (by simp) (by simp) (by simp [cbox]; rfl) fun _ => ?_
    simp [cbox]
    refine CallNext.pure (p_machine_none glob [x.addr, x.cond]) fun _ => ?_
    simp
    refine CallNext.obs [0] (p_checker_must glob m _ [_]) (by simp) (by simp) (by simp [bools]; rfl) (by simp [cbox]; rfl) fun _ => ?_
    simp [cbox, effB, h4]
    refine ⟨[0, 1], ?_⟩
    simp
    ac_rfl
  · simp [c_machine_checker_effect, cbox, h1, h2, h3, h4]
    refine CallNext.obs [0] (p_checker_must glob m _ [_, _]) (by simp) (by simp) (by simp [bools]; exact ⟨rfl, rfl⟩) (by simp [cbox]; rfl) fun _ => ?_
    simp [cbox]
    refine CallNext.obs [0, 1] (p_checker_fits m V _ [x.value] (by simpa using hv)) (by simp) (by simp) (by simp) (by simp [cbox]; rfl) fun _ => ?_
    simp [cbox, h1, h2, h3, h4]
    refine CallNext.obs [0] (p_checker_must glob m _ [_]) (by simp) (by simp) (by simp [bools]; rfl) (by simp [cbox]; rfl) fun _ => ?_
    simp [cbox, effB, h1, h2, h3, h4]
    exact ⟨[0, 1], by simp⟩
end Go.Proofs.YthocoandbiaoiaaDoorV

namespace Go.Proofs.YthocoandbiaoiaaDoorV
open Go
set_option maxRecDepth 100000
set_option maxHeartbeats 4000000
abbrev KV := List (Int × Int)
def lookK : KV → Int → Option Int
  | [], _ => none
  | (m, w) :: r, n => if n = m then some w else lookK r n
def putK : KV → Int → Int → KV
  | [], n, w => [(n, w)]
  | (m, v) :: r, n, w => if n = m then (n, w) :: r else (m, v) :: putK r n w
def kmap (s : KV) : List (PV × DV) := s.map fun x => (.int .u8 x.1, .pv (.int .i64 x.2))
@[simp] theorem mlook_kmap {n : Int} : ∀ {s : KV}, mlook (kmap s) (.int .u8 n) = (lookK s n).map fun w => .pv (.int .i64 w)
  | [] => rfl
  | (m, w) :: r => by
    have := mlook_kmap (n := n) (s := r)
    simp only [kmap, List.map_cons] at this ⊢
    rw [mlook_cons, lookK, this]; simp; split <;> rfl
@[simp] theorem mput_kmap {n w : Int} : ∀ {s : KV}, mput (kmap s) (.int .u8 n) (.pv (.int .i64 w)) = kmap (putK s n w)
  | [] => rfl
  | (m, v) :: r => by
    have := mput_kmap (n := n) (w := w) (s := r)
    simp only [kmap, List.map_cons] at this ⊢
    rw [mput_cons, putK, this]; simp; split <;> rfl
theorem keysOk_kmap {n : Int} {s : KV} : keysOk 1 (.int .u8 n) (kmap s) := by
  refine ⟨rfl, by omega, fun x hx => ?_⟩
  simp only [kmap, List.mem_map] at hx
  obtain ⟨y, -, rfl⟩ := hx
  rfl
theorem lookK_putK {n m w : Int} : ∀ {s : KV}, lookK (putK s n w) m = if m = n then some w else lookK s m
  | [] => by simp [putK, lookK]
  | (a, v) :: r => by
    rw [putK]
    by_cases h : n = a
    · subst h; simp only [if_true, lookK]; split <;> rfl
    · simp only [h, if_false, lookK, lookK_putK (s := r)]
      by_cases h1 : m = a
      · subst h1; simp [Ne.symm h]
      · simp [h1]
@[simp] theorem nm_kmap {s : KV} {p : Nat → Prop} : (∀ (a : PV) (b : DV), (a, b) ∈ kmap s → DV.nm p b) ↔ True := ⟨fun _ => trivial, fun _ a b h => by simp only [kmap, List.mem_map, Prod.mk.injEq] at h; obtain ⟨y, -, -, rfl⟩ := h; simp⟩
@[simp] theorem ren_kmap {s : KV} {f : Nat → Nat} : (kmap s).map (fun x => (x.fst, DV.ren f x.snd)) = kmap s := by simp [kmap, DV.ren]
def kindsN (s : Ins_) : Nat → KV
  | 0 => []
  | i + 1 => putK (kindsN s i) (gt s.effects (i : Nat)).kind ((lookK (kindsN s i) (gt s.effects (i : Nat)).kind).getD 0 + 1)
theorem kindsN_count (s : Ins_) (k : Int) : ∀ i, i ≤ s.effects.length → (lookK (kindsN s i) k).getD 0 = (((s.effects.take i).filter fun x => decide (x.kind = k)).length : Int)
  | 0, _ => by simp [kindsN, lookK]
  | i + 1, h => by
    have hi : i < s.effects.length := by omega
    have ih := kindsN_count s k i (by omega)
    rw [kindsN, lookK_putK, List.take_succ_eq_append_getElem hi, List.filter_append, List.length_append]
    rw [gt_nat hi]
    by_cases he : k = s.effects[i].kind
    · rw [if_pos he, Option.getD_some, ← he, ih]; simp [he]
    · rw [if_neg he, ih]; simp [Ne.symm he]
theorem kindsN_le (s : Ins_) (k : Int) (i : Nat) (h : i ≤ s.effects.length) : 0 ≤ (lookK (kindsN s i) k).getD 0 ∧ (lookK (kindsN s i) k).getD 0 ≤ i := by
  rw [kindsN_count s k i h]
  have h1 := List.length_filter_le (fun x : Eff => decide (x.kind = k)) (s.effects.take i)
  have h2 := List.length_take_le i s.effects
  omega
def insSt (m : Mach) (s : Ins_) (c : Bool) : Nat → Bool × Nat
  | 0 => (c, s.mask.toNat)
  | i + 1 =>
    let b := (insSt m s c i).1 && freshB (pc :: (s.operands.map (·.name)).take i) (gt s.operands (i : Nat)).name
    let f := opTaken m b s i
    (b && opOk m s i && decide ((insSt m s c i).2 &&& f = 0), (insSt m s c i).2 ||| f)
def insMasks (m : Mach) (s : Ins_) : Bool := decide (bandNotI .u64 s.mask (maskI (IntKind.i64.wrap (8 * m.word))) = 0) && decide (bandNotI .u64 s.mtch s.mask = 0)
def insTail (m : Mach) (s : Ins_) : Bool :=
  decide (countK s 3 ≤ 1) && (decide (countK s 4 = 0) || decide (s.effects.length = 1)) && inR s.unit 0 (m.units.length - 1) && inR s.busy 1 15 && inR s.latency 1 15 && inR s.slots 0 2 && (decide (s.slots = 0) || decide (countK s 3 = 1))
def insB (m : Mach) (s : Ins_) : Bool := (insSt m s (insMasks m s) s.operands.length).1 && s.effects.all (effB m s (insVars m s)) && insTail m s
theorem insSt_mono {m : Mach} {s : Ins_} {c : Bool} : ∀ {i : Nat}, (insSt m s c i).1 = true → c = true
  | 0, h => h
  | i + 1, h => by simp only [insSt, Bool.and_eq_true] at h; exact insSt_mono h.1.1.1
theorem insSt_ops {m : Mach} {s : Ins_} {c : Bool} : ∀ {i : Nat}, (insSt m s c i).1 = true → ∀ j, j < i → opOk m s j = true
  | 0, _, j, hj => by omega
  | i + 1, h, j, hj => by
    simp only [insSt, Bool.and_eq_true] at h
    rcases Nat.lt_or_eq_of_le (Nat.le_of_lt_succ hj) with hj | rfl
    · exact insSt_ops h.1.1.1 j hj
    · exact h.1.2
theorem insSt_lt {m : Mach} {s : Ins_} {c : Bool} (hw : c = true → 1 ≤ m.word ∧ m.word ≤ 4) (hm : s.mask ≤ 18446744073709551615) : ∀ i, (insSt m s c i).2 < 2 ^ 64
  | 0 => by simp only [insSt]; omega
  | i + 1 => by
    simp only [insSt]
    refine Nat.or_lt_two_pow (insSt_lt hw hm i) (Nat.lt_trans (opTaken_lt fun h => ?_) (by decide))
    simp only [Bool.and_eq_true] at h
    exact hw (insSt_mono h.1)
theorem wide_of {m : Mach} {s : Ins_} (hb : okBanks m = true) (h : ∀ j, j < s.operands.length → opOk m s j = true) : ∀ o ∈ s.operands, wideOk m o := by
  intro o ho hk
  obtain ⟨j, hj, rfl⟩ := List.getElem_of_mem ho
  have h1 := h j hj
  simp only [opOk, Bool.and_eq_true, kindOk] at h1
  rw [gt_nat hj] at h1
  have h2 := h1.2
  simp only [hk, if_true, Bool.and_eq_true] at h2
  have h3 : 0 ≤ s.operands[j].bank ∧ s.operands[j].bank ≤ (m.banks.length : Int) - 1 := by simpa [inR] using h2.1.1
  have h4 := allB_true.1 hb s.operands[j].bank.toNat (by omega)
  simp only [bankOk, Bool.and_eq_true] at h4
  rw [Int.toNat_of_nonneg h3.1] at h4
  have h5 := h4.1.1.2
  simp only [decide_eq_true_eq] at h5
  have h6 := allB_true.1 h4.2 0 h5
  simp only [Bool.and_eq_true] at h6
  have h7 : 0 ≤ gt (gt m.banks s.operands[j].bank).regs 0 ∧ gt (gt m.banks s.operands[j].bank).regs 0 ≤ (m.regs.length : Int) - 1 := by simpa [inR] using h6.1.1
  exact ⟨⟨h3.1, by omega⟩, by intro hn; simp [hn] at h5, h7.1, by omega⟩
theorem names_of {m : Mach} (hr : okRegs m = true) : ∀ r ∈ m.regs, r.name.size ≤ 1000 := by
  intro r hr'
  obtain ⟨j, hj, rfl⟩ := List.getElem_of_mem hr'
  simp only [okRegs, Bool.and_eq_true] at hr
  have h1 := allB_true.1 hr.1 j hj
  simp only [rgOk, Bool.and_eq_true] at h1
  have h2 := h1.1.1.1
  rw [gt_nat hj] at h2
  simp only [isName, Bool.and_eq_true, decide_eq_true_eq] at h2
  omega
def insBd (m : Mach) (s : Ins_) : Prop := m.regs.length ≤ 500 ∧ m.banks.length ≤ 500 ∧ m.units.length ≤ 500 ∧ s.operands.length ≤ 500 ∧ s.effects.length ≤ 500 ∧ (∀ o ∈ s.operands, o.pieces.length ≤ 500) ∧ ∀ x ∈ s.effects, ∀ t ∈ [x.addr, x.value, x.cond], t.nodes < 2 ^ 40 ∧ t.depth < 2 ^ 40
theorem p_checker_instr (m : Mach) (ok : Bool) (s : Ins_) (hok : ok = true → (1 ≤ m.word ∧ m.word ≤ 4) ∧ okRegs m = true ∧ okBanks m = true) (hbd : insBd m s) :
    ACall Tryd.prog glob (.func 41) 1 [.ptr 0 0, .pv s.pv] [(0, cbox m ok)] (.tup []) [(0, cbox m (ok && insB m s))] 1 := by
  obtain ⟨hb1, hb2, hb3, hb4, hb5, hb6, hb7⟩ := hbd
  refine k_machine_checker_instr.acall (by simp) (by simp) (by simp) (by simp [cbox]) (by simp) (by simp [cbox]) fun hwf => ?_
  have hmask : 0 ≤ s.mask ∧ s.mask ≤ 18446744073709551615 := by
    have := hwf (.pv s.pv) (by simp)
    simp only [DV.wf] at this; rw [Ins_.wf_pv] at this; simp [-Ins_.fold, maxLen, IntKind.min, IntKind.max, IntKind.signed, IntKind.bits] at this
    exact this.2.1
  have hc : ∀ i, (insSt m s (ok && insMasks m s) i).1 = (ok && (insSt m s (insMasks m s) i).1) := by
    intro i
    cases ok
    · simp only [Bool.false_and]
      rw [Bool.eq_false_iff]; intro h; exact absurd (insSt_mono h) (by simp)
    · simp
  simp [c_machine_checker_instr, cbox]
  refine DCallNext.pure (p_bits_Mask glob _) ?_
  simp
  refine DCallNext.obs' [0] (p_checker_must glob m _ [_, _]) rfl (by simp) (by simp) (by simp [bools]; exact ⟨rfl, rfl⟩) (by simp) (by simp [cbox]; rfl) ?_
  simp [cbox]
  have hu : ∀ i, (pc :: (s.operands.map (·.name)).take i).length ≤ i + 1 := fun i => by simp; omega
  generalize hcd : (ok && insMasks m s) = c at *
  have hw : c = true → 1 ≤ m.word ∧ m.word ≤ 4 := fun h => by rw [← hcd] at h; simp only [Bool.and_eq_true] at h; exact (hok h.1).1
  have htk := insSt_lt hw hmask.2
  have hi0 : (ok && (decide (bandNotI .u64 s.mask (maskI (IntKind.i64.wrap (8 * m.word))) = 0) && decide (bandNotI .u64 s.mtch s.mask = 0))) = c := hcd
  rw [hi0]
  refine Loop.nat (fun i => { e := [(0, .ptr 0 0), (3, .ptr 1 0), (4, .ptr 22 0), (5, .pv (.int .u64 ((insSt m s c i).2 : Nat))), (39, .pv (.lst 6 (s.operands.map Opnd.pv))), (40, .pv (.int .i64 s.operands.length)), (41, .pv (.int .i64 i))], h := [(0, cbox m (insSt m s c i).1), (1, s.bx), (22, nbox 23 (pc :: (s.operands.map (·.name)).take i)), (23, .tip 1 (i + 1))], nx := 24 }) s.operands.length (fun _ => True) (by simp [cbox]) (by simp) (by simp [cbox, nbox, strs, insSt, Ins_.bx, pc, Int.toNat_of_nonneg hmask.1]) fun i hi hinv => ?_
  by_cases hlt : i < s.operands.length
  · have hlen : (pc :: (s.operands.map (·.name)).take i).length = i + 1 := by simp; omega
    have hm := gt_mem (l := s.operands) (i := (i : Nat)) (by omega) (by omega)
    simp [hlt, cbox, Ins_.bx]
    refine CallNext.obs [22, 23] (p_names_fresh glob (pc :: (s.operands.map (·.name)).take i) (gt s.operands (i : Nat)).name (by rw [hlen]; omega)) (by simp) (by simp) (by simp) (by simp [nbox, hlen]) fun _ => ?_
    simp [nbox, cbox]
    refine CallNext.obs [0] (p_checker_must glob m _ [_]) (by simp) (by simp) (by simp [bools]; rfl) (by simp [cbox]; rfl) fun _ => ?_
    simp [cbox]
    let b := (insSt m s c i).1 && freshB (pc :: (s.operands.map (·.name)).take i) (gt s.operands (i : Nat)).name
    have hwb : b = true → 1 ≤ m.word ∧ m.word ≤ 4 := fun h => by simp only [b, Bool.and_eq_true] at h; exact hw (insSt_mono h.1)
    refine CallNext.obs [0] (p_checker_operand glob m b s i hlt hwb hb4 hb2 (hb6 _ hm)) (by simp) (by simp) (by simp) (by simp [cbox, b]) fun _ => ?_
    have hot := opTaken_lt (s := s) (i := i) hwb
    simp [cbox]
    rw [and_u64 (htk i) (by omega)]
    refine CallNext.obs [0] (p_checker_must glob m _ [_]) (by simp) (by simp) (by simp [bools]; rfl) (by simp [cbox]; rfl) fun _ => ?_
    simp [cbox, hlt, wrap_nat (show (0:Int) ≤ i + 1 by omega) (by omega)]
    rw [or_u64 (htk i) (by omega)]
    refine ⟨rfl, rfl, ?_, by omega⟩
    rw [take_names _ hlt]
  obtain rfl : i = s.operands.length := by omega
  simp [cbox, nbox, Ins_.bx]
  have hops : (insSt m s c s.operands.length).1 = true → ok = true ∧ (insSt m s (insMasks m s) s.operands.length).1 = true := fun h => by rw [hc] at h; simpa using h
  refine ⟨fun h => ?_, fun h => ?_⟩
  · refine ⟨[0], ?_⟩
    have h2 := hc s.operands.length
    rw [h] at h2
    simp [h]
    intro ho
    rw [ho, Bool.true_and] at h2
    rw [insB, ← h2]
    simp
  obtain ⟨hok1, hst⟩ := hops h
  obtain ⟨hww, hrg, hbk⟩ := hok hok1
  have hwide := wide_of hbk (insSt_ops h)
  refine CallNext.obs [0] (p_checker_variables glob m _ s hb1 (names_of hrg) hb4 hwide) (by simp) (by simp) (by simp) (by simp [cbox]; rfl) fun _ => ?_
  simp [cbox]
  refine Loop.nat (fun i => { e := [(0, .ptr 0 0), (3, .ptr 1 0), (9, .mref 25), (10, .mref 26), (77, .pv (.lst 21 (s.effects.map Eff.pv))), (78, .pv (.int .i64 s.effects.length)), (79, .pv (.int .i64 i))], h := [(0, cbox m ((s.effects.take i).all (effB m s (insVars m s)))), (1, s.bx), (22, nbox 23 (pc :: s.operands.map (·.name))), (23, .tip 1 (s.operands.length + 1)), (25, .mp (vmap (insVars m s))), (26, .mp (kmap (kindsN s i)))], nx := 27 }) s.effects.length (fun _ => True) (by simp [cbox]) (by simp) (by simp [cbox, nbox, Ins_.bx, h, kindsN, kmap, List.take_of_length_le (show (s.operands.map (·.name)).length ≤ s.operands.length by simp)]) fun i hi hinv => ?_
  by_cases hlt : i < s.effects.length
  · have hm := gt_mem (l := s.effects) (i := (i : Nat)) (by omega) (by omega)
    have hkl := kindsN_le s (gt s.effects (i : Nat)).kind i (by omega)
    have hkk : ∀ (n : Int) (s : KV), keysOk 1 (.int .u8 n) (kmap s) := fun n s => keysOk_kmap
    simp [hlt, cbox, Ins_.bx]
    refine CallNext.obs [0, 25] (p_checker_effect m (insVars m s) _ s (gt s.effects (i : Nat)) (hb7 _ hm) hb1 hb4 hwide) (by simp) (by simp) (by simp) (by simp [cbox]; rfl) fun _ => ?_
    simp [hlt, cbox, Eff.bx, hkk, wrap_nat (show (0:Int) ≤ i + 1 by omega) (by omega), all_take1 hlt, kindsN, wrap_nat (show (0:Int) ≤ (lookK (kindsN s i) (gt s.effects (i : Nat)).kind).getD 0 + 1 by omega) (by omega)]
    simp [nbox]
  obtain rfl : i = s.effects.length := by omega
  have hcnt : ∀ k : Int, (lookK (kindsN s s.effects.length) k).getD 0 = countK s k := fun k => by rw [kindsN_count s k _ (Nat.le_refl _), List.take_length]; rfl
  have hkk : ∀ (n : Int) (s : KV), keysOk 1 (.int .u8 n) (kmap s) := fun n s => keysOk_kmap
  simp [cbox, Ins_.bx, hkk, hcnt]
  refine DCallNext.pure (p_machine_within glob _ _ _) ?_
  simp
  refine DCallNext.pure (p_machine_within glob _ _ _) ?_
  simp
  refine DCallNext.pure (p_machine_within glob _ _ _) ?_
  simp
  refine DCallNext.pure (p_machine_within glob _ _ _) ?_
  simp
  rw [wrap_i64 (by omega) (by omega)]
  refine DCallNext.obs' [0] (p_checker_must glob m _ [_, _, _, _, _, _, _]) rfl (by simp) (by simp) (by simp [bools]; exact ⟨rfl, rfl, rfl, rfl, rfl, rfl, rfl⟩) (by simp) (by simp [cbox]; rfl) ?_
  simp [cbox]
  refine ⟨[0], ?_⟩
  simp [hok1, insB, hst, insTail]
  simp only [show ((s.effects.length : Int) = 1) = (s.effects.length = 1) from propext (by omega), Bool.and_assoc]
end Go.Proofs.YthocoandbiaoiaaDoorV
