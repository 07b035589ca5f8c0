/- Packed: Me -/
import Derived.Test.YtbghfliffomfdaaGreatDoorChk4
import Derived.Test.YtbghfliffomfdaaGreatDoorTie
import Derived.Test.YtbghfliffomfdaaGreatDoorCards
import Derived.Lay
import Derived.Carry
import Derived.SevenTiedAt
set_option linter.all false
/- What the claims of this seat share. -/
namespace Go.Proofs.YtbghfliffomfdaaGreatDoorV
open Go

/-- The types of the arguments, and of their parts. -/
def tysL : List TypeId := [27, 9, 3, 22, 133, 23, 65, 35, 24, 135, 25, 69, 28, 66, 72, 5, 70, 104, 67, 78, 76, 74]
theorem tysL_ok : tysOk Tryz.prog tysL = true := by kernel_rfl
def tysF : List TypeId := [181, 177, 9, 3]
theorem tysF_ok : tysF.all (flatOk Tryz.prog tysF) = true := by kernel_rfl
theorem row_Mach : rowT Tryz.prog 27 = some true := by simp [rowT, Tryz.underlying27, TypeDesc.isRow]
theorem row_int : ¬ rowT Tryz.prog 3 = some true := by simp [rowT, Tryz.underlying3, TypeDesc.isRow]
theorem row_string : ¬ rowT Tryz.prog 9 = some true := by simp [rowT, Tryz.underlying9, TypeDesc.isRow]
theorem arg_Mach {cs : List PV} {n : Nat} (h : PTy Tryz.prog n 27 cs) : ∃ m : Mach, aPV Tryz.prog 27 cs = m.pv := by
  obtain ⟨m, hm⟩ := dec_Mach n cs h
  exact ⟨m, by rw [aPV, if_pos row_Mach, hm]⟩
theorem arg_int {cs : List PV} {n : Nat} (h : PTy Tryz.prog n 3 cs) : ∃ x : Int, aPV Tryz.prog 3 cs = .int .i64 x := by
  obtain ⟨x, rfl⟩ := PTy.int Tryz.underlying3 h
  exact ⟨x, by rw [aPV, if_neg row_int]; rfl⟩
theorem arg_str {cs : List PV} {n : Nat} (h : PTy Tryz.prog n 9 cs) : ∃ x : ByteArray, aPV Tryz.prog 9 cs = .str x := by
  obtain ⟨x, rfl⟩ := PTy.str Tryz.underlying9 h
  exact ⟨x, by rw [aPV, if_neg row_string]; rfl⟩
theorem row_u64 : ¬ rowT Tryz.prog 28 = some true := by simp [rowT, Tryz.underlying28, TypeDesc.isRow]
theorem arg_u64 {cs : List PV} {n : Nat} (h : PTy Tryz.prog n 28 cs) : ∃ x : Int, aPV Tryz.prog 28 cs = .int .u64 x := by
  obtain ⟨x, rfl⟩ := PTy.int Tryz.underlying28 h
  exact ⟨x, by rw [aPV, if_neg row_u64]; rfl⟩
theorem len_cons {α : Type} {l : List α} {n : Nat} (h : l.length = n + 1) : ∃ a r, l = a :: r ∧ r.length = n := by
  cases l with
  | nil => simp at h
  | cons a r => exact ⟨a, r, rfl, by simpa using h⟩
theorem trodAll_len {H : Type} {enc : TypeId × Value → H} {P : Program} {w : World} {base : Nat} {sp : Nat → Bool} {held : Bool} : ∀ {ts : List TypeId} {vs : List Value} {ds : List (DataW H)} {ps : List MemPlace}, DataW.TrodAll enc P w base sp held ts vs ds ps → ds.length = ts.length
  | [], [], [], _, _ => rfl
  | _ :: _, _ :: _, _ :: _, _, ⟨_, _, _, h, _⟩ => by rw [List.length_cons, List.length_cons, trodAll_len h]
  | [], [], _ :: _, _, h => h.elim
  | [], _ :: _, _, _, h => h.elim
  | _ :: _, [], _, _, h => h.elim
  | _ :: _, _ :: _, [], _, h => h.elim
/-- What the laid table gives. -/
theorem glob_of_laid {W : World} (h : laidMet Tryz.prog [("retarget/term.shapes", Go.Proofs.YtbghfliffomfdaaGreatDoor.Rows.laid_retarget_term_shapes)] W) :
    ∀ b cs, (b, cs) ∈ glob → ∀ (j : Nat) (c : PV), cs[j]? = some c → c.one = true ∧ ∃ v, memOf W b j = some v ∧ PRep (memOf W) c v := by
  intro b cs hb
  simp only [glob, List.mem_singleton, Prod.mk.injEq] at hb
  obtain ⟨rfl, rfl⟩ := hb
  exact laid_one tysF_ok (by kernel_rfl) (by kernel_rfl) (.head _) (by kernel_rfl) h
theorem TyAll.cons {P : Program} {t : TypeId} {ts : List TypeId} : ∀ {qs : List PV}, TyAll P (t :: ts) qs → ∃ q r, qs = q :: r ∧ (∃ n cs, q = aPV P t cs ∧ PTy P n t cs) ∧ TyAll P ts r
  | [], h => h.elim
  | q :: r, h => ⟨q, r, rfl, h.1, h.2⟩
theorem TyAll.nil {P : Program} : ∀ {qs : List PV}, TyAll P [] qs → qs = []
  | [], _ => rfl
  | _ :: _, h => h.elim
end Go.Proofs.YtbghfliffomfdaaGreatDoorV
namespace Go.Proofs.YtbghfliffomfdaaGreatDoor
open Go
theorem Tryz.own : ownKnob Tryz.prog.godebug = none := by kernel_rfl
theorem Tryz.laidOut : laidOutB Tryz.prog = true := by kernel_rfl
end Go.Proofs.YtbghfliffomfdaaGreatDoor
