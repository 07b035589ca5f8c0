/- Packed: Eb Ed Me -/
import Derived.Test.YtbghfliffomfdaaGreatDoorChk4
import Derived.OpenVars
import Derived.JoinedOf
import Derived.RowKit
import Derived.RowKitTokens
import Derived.LaidLaws
import Derived.FnData
import Derived.Test.YtbghfliffomfdaaGreatDoorTie
import Derived.Test.YtbghfliffomfdaaGreatDoorCards
import Derived.Lay
import Derived.Carry
import Derived.SevenTiedAt
set_option linter.all false
/- From a law's run to what its row says. -/
namespace Go.Proofs.YtbghfliffomfdaaGreatDoorV
open Go Go.RowKit

section
variable {H : Type} {enc : TypeId × Value → H} {P : Program} {W W' : World}
/-- Arguments read behind the call as they did before. -/
theorem trodAll_below (hl : laidOutB P = true) (hb : Below W.heap.size W W') : ∀ {ts : List TypeId} {vs : List Value} {ds : List (DataW H)} {ps : List MemPlace},
    (ts.all fun t => P.readableRec t && decide (t < P.types.size)) = true → DataW.TrodAll enc P W 0 (fun _ => true) true ts vs ds ps → DataW.TrodAll enc P W' 0 (fun b => decide (b < W.heap.size)) true ts vs ds ps
  | [], [], [], _, _, h => h
  | t :: ts, v :: vs, d :: ds, ps, hr, h => by
    have hlt := h.lt
    obtain ⟨p, q, h1, h2, e⟩ := h
    simp only [List.all_cons, Bool.and_eq_true, decide_eq_true_eq] at hr
    exact ⟨p, q, Below.trod hl hr.1.1 hr.1.2 h1 hb (fun x hx => hlt x (by rw [e]; simp [hx])), trodAll_below hl hb (by simpa using hr.2) h2, e⟩
  | [], [], _ :: _, _, _, h => h.elim
  | [], _ :: _, _, _, _, h => h.elim
  | _ :: _, [], _, _, _, h => h.elim
  | _ :: _, _ :: _, [], _, _, h => h.elim
theorem trod_bool {t : TypeId} (ht : P.underlying t = some .bool) {base : Nat} {sp : Nat → Bool} {held b : Bool} : DataW.Trod enc P W base sp held t (.bool b) (.lit (.bool b)) [] := ⟨1, by simp [DataW.trod, Value.cells, ht]⟩

/-- A law that gives true and changes nothing below. -/
theorem law_post {fn : Func} {s : ChangeSpec} {apart fresh : Bool} {tb : TypeId} (hl : laidOutB P = true) (hr : (fn.params.toList.all fun t => P.readableRec t && decide (t < P.types.size)) = true) (hv : varsRowed P s.vars = true)
    (hres : fn.resultTypes = #[tb]) (htb : P.underlying tb = some .bool) {args : Array Value} {ds gs : List (DataW H)} {before : List MemPlace}
    (hfn : s.fn H (ds ++ gs) = { results := [.lit (.bool true)], args := ds, vars := gs })
    (hW : DataW.Whole enc P fn.params.toList s.vars apart W args.toList ds gs before) (hb : Below W.heap.size W W') : s.post enc P fn apart fresh false false W args (.bool true) W' := by
  have hW' := hW
  obtain ⟨p, q, hA, hV, rfl, hfz, hnd⟩ := hW
  refine ⟨ds, gs, _, [], p, q, hW', ?_, ?_, ?_, Below.frame hb _, fun h => by cases h⟩
  · rw [hfn, hres]; exact ⟨[], [], trod_bool htb, rfl, rfl⟩
  · rw [hfn]; exact trodAll_below hl hb hr hA
  · rw [hfn]; exact Below.trodVars hl hb hv hV
end
end Go.Proofs.YtbghfliffomfdaaGreatDoorV

/- A package-level variable whose datum is written out reads as its cells. -/
namespace Go.Proofs.YtbghfliffomfdaaGreatDoorV
open Go

section
variable {H : Type}
mutual
/-- The cells of a datum of numbers and strings. -/
def flatD : DataW H → Option (List PV)
  | .lit (.int k x) => some [.int k x]
  | .lit (.string s) => some [.str ⟨s.toArray⟩]
  | .agg ds => flatDs ds
  | _ => none
def flatDs : List (DataW H) → Option (List PV)
  | [] => some []
  | d :: r => (flatD d).bind fun a => (flatDs r).map fun b => a ++ b
end
def flatOk (P : Program) (S : List TypeId) (t : TypeId) : Bool :=
  match P.underlying t with
  | some (.int _) | some .string => P.cellsOf t == 1
  | some (.struct fs) => fs.toList.all (fun f => S.contains f.type) && contig P 0 fs.toList == some (P.cellsOf t)
  | some (.array n e) => S.contains e && P.cellsOf t == n * P.cellsOf e
  | _ => false
variable {enc : TypeId × Value → H} {P : Program} {S : List TypeId} {W : World} {sp : Nat → Bool} {hd : Bool}

theorem flat_fields {n : Nat} (ih : ∀ t ∈ S, ∀ (cs : List Value) (d : DataW H) (ps : List MemPlace), DataW.trod enc P W 0 sp hd n t cs = some (d, ps) → ∃ qs, flatD d = some qs ∧ CRep (memOf W) qs cs) (cs : List Value) :
    ∀ (fs : List Field) (o T : Nat) (xs : List (DataW H × List MemPlace)), contig P o fs = some T → (∀ f ∈ fs, f.type ∈ S) → fs.mapM (fun f => DataW.trod enc P W 0 sp hd n f.type ((cs.drop f.offset).take (P.cellsOf f.type))) = some xs → T ≤ cs.length →
    o ≤ T ∧ ∃ qs, flatDs (xs.map (·.1)) = some qs ∧ CRep (memOf W) qs ((cs.drop o).take (T - o))
  | [], o, T, xs, h, _, hx, _ => by
    simp only [contig, Option.some.injEq] at h; subst h
    simp at hx; subst hx
    exact ⟨Nat.le_refl _, [], rfl, by simp [CRep]⟩
  | f :: r, o, T, xs, h, hs, hx, hT => by
    simp only [contig] at h
    split at h
    · rename_i ho
      simp only [List.mapM_cons, Option.pure_def, Option.bind_eq_bind, Option.bind_eq_some_iff, Option.some.injEq] at hx
      obtain ⟨⟨d, p⟩, hd1, ys, hys, rfl⟩ := hx
      obtain ⟨h1, qs, h2, h3⟩ := flat_fields ih cs r _ T ys h (fun g hg => hs g (.tail _ hg)) hys hT
      obtain ⟨q, hq1, hq2⟩ := ih f.type (hs f (.head _)) _ d p hd1
      rw [ho] at hq2
      refine ⟨by omega, q ++ qs, by simp [flatDs, hq1, h2], ?_⟩
      have e1 : T - o = P.cellsOf f.type + (T - (o + P.cellsOf f.type)) := by omega
      rw [e1, List.take_add, List.drop_drop]
      exact hq2.app h3
    · simp at h
theorem flat_array {n : Nat} {e : TypeId} (ih : ∀ (cs : List Value) (d : DataW H) (ps : List MemPlace), DataW.trod enc P W 0 sp hd n e cs = some (d, ps) → ∃ qs, flatD d = some qs ∧ CRep (memOf W) qs cs) (cs : List Value) :
    ∀ (k o : Nat) (xs : List (DataW H × List MemPlace)), (List.range' o k).mapM (fun i => DataW.trod enc P W 0 sp hd n e ((cs.drop (i * P.cellsOf e)).take (P.cellsOf e))) = some xs → (o + k) * P.cellsOf e ≤ cs.length →
    ∃ qs, flatDs (xs.map (·.1)) = some qs ∧ CRep (memOf W) qs ((cs.drop (o * P.cellsOf e)).take (k * P.cellsOf e))
  | 0, o, xs, hx, _ => by
    simp at hx; subst hx
    exact ⟨[], rfl, by simp [CRep]⟩
  | k + 1, o, xs, hx, hT => by
    simp only [List.range'_succ, List.mapM_cons, Option.pure_def, Option.bind_eq_bind, Option.bind_eq_some_iff, Option.some.injEq] at hx
    obtain ⟨⟨d, p⟩, hd1, ys, hys, rfl⟩ := hx
    obtain ⟨qs, h2, h3⟩ := flat_array ih cs k (o + 1) ys hys (by rw [show o + 1 + k = o + (k + 1) by omega]; exact hT)
    obtain ⟨q, hq1, hq2⟩ := ih _ d p hd1
    refine ⟨q ++ qs, by simp [flatDs, hq1, h2], ?_⟩
    have e1 : (k + 1) * P.cellsOf e = P.cellsOf e + k * P.cellsOf e := by rw [Nat.add_mul]; omega
    rw [e1, List.take_add, List.drop_drop, show o * P.cellsOf e + P.cellsOf e = (o + 1) * P.cellsOf e by rw [Nat.add_mul]; omega]
    exact hq2.app h3
theorem trod_flat (hS : S.all (flatOk P S) = true) : ∀ (fuel : Nat) (t : TypeId), t ∈ S → ∀ (cs : List Value) (d : DataW H) (ps : List MemPlace), DataW.trod enc P W 0 sp hd fuel t cs = some (d, ps) → ∃ qs, flatD d = some qs ∧ CRep (memOf W) qs cs := by
  intro fuel
  induction fuel with
  | zero => intro t _ cs d ps h; simp [DataW.trod] at h
  | succ n ih =>
    intro t ht cs d ps h
    have hok : flatOk P S t = true := List.all_eq_true.1 hS t ht
    unfold DataW.trod at h
    unfold flatOk at hok
    cases hu : P.underlying t with
    | none => rw [hu] at hok; simp at hok
    | some td =>
    rw [hu] at hok h
    cases td <;> simp only [Bool.false_eq_true] at hok
    case int k =>
      split at h <;> first | (simp at h; done) | (rename_i hh; cases hh) | (exfalso; simp_all; done)
      rename_i k' x
      split at h
      · rename_i hk
        obtain ⟨rfl, hw⟩ := hk
        have hb : k'.min ≤ x ∧ x ≤ k'.max := by
          simp only [Lit.wf, Bool.and_eq_true, decide_eq_true_eq] at hw
          exact hw
        simp only [Option.some.injEq, Prod.mk.injEq] at h
        obtain ⟨rfl, rfl⟩ := h
        exact ⟨[.int k' x], by simp [flatD], .one (.int hb.1 hb.2) rfl⟩
      · simp at h
    case string =>
      split at h <;> first | (simp at h; done) | (rename_i hh; cases hh) | (exfalso; simp_all; done)
      rename_i s
      split at h
      · rename_i hs
        simp only [Option.some.injEq, Prod.mk.injEq] at h
        obtain ⟨rfl, rfl⟩ := h
        exact ⟨[.str s], by simp [flatD], .one (.str hs) rfl⟩
      · simp at h
    case struct fs =>
      simp only [Bool.and_eq_true, beq_iff_eq, List.all_eq_true, List.contains_iff_mem] at hok
      split at h <;> first | (simp at h; done) | (rename_i hh; cases hh) | (exfalso; simp_all; done)
      split at h
      · rename_i hlen
        simp only [Option.map_eq_some_iff, Prod.mk.injEq] at h
        obtain ⟨xs, hxs, rfl, -⟩ := h
        obtain ⟨-, qs, h2, h3⟩ := flat_fields (fun t ht cs d ps h => ih t ht cs d ps h) _ fs.toList 0 _ xs hok.2 hok.1 hxs (by omega)
        rw [List.drop_zero, Nat.sub_zero, List.take_of_length_le (by omega)] at h3
        exact ⟨qs, by rw [flatD]; exact h2, h3⟩
      · simp at h
    case array k e =>
      simp only [Bool.and_eq_true, beq_iff_eq, List.contains_iff_mem] at hok
      split at h <;> first | (simp at h; done) | (rename_i hh; cases hh) | (exfalso; simp_all; done)
      split at h
      · rename_i hlen
        simp only [Option.map_eq_some_iff, Prod.mk.injEq] at h
        obtain ⟨xs, hxs, rfl, -⟩ := h
        rw [List.range_eq_range'] at hxs
        obtain ⟨qs, h2, h3⟩ := flat_array (fun cs d ps h => ih e hok.1 cs d ps h) _ k 0 xs hxs (by rw [hlen, hok.2, Nat.zero_add]; exact Nat.le_refl _)
        rw [Nat.zero_mul, List.drop_zero, List.take_of_length_le (by rw [hlen, hok.2]; exact Nat.le_refl _)] at h3
        exact ⟨qs, by rw [flatD]; exact h2, h3⟩
      · simp at h
end
/-- One variable, of which a condition says what it holds. -/
theorem laid_one {P : Program} {S : List TypeId} {W : World} {x : String} {g : Nat} {t : TypeId} {D : DataW Unit} {qs : List PV} (hS : S.all (flatOk P S) = true) (hg : P.globalNamed x = some g) (ht : (P.globals[g]?).map (·.type) = some t) (hm : t ∈ S) (hD : flatD D = some qs)
    (h : laidMet P [(x, D)] W) : ∀ (j : Nat) (c : PV), qs[j]? = some c → c.one = true ∧ ∃ v, memOf W g j = some v ∧ PRep (memOf W) c v := by
  obtain ⟨ps, ⟨g', t', cs, fuel, p, q, hg', ht', hvar, hd, _, _⟩, _⟩ := h
  obtain rfl := Option.some.inj (hg.symm.trans hg')
  obtain rfl := Option.some.inj (ht.symm.trans ht')
  obtain ⟨qs', h1, h2⟩ := trod_flat hS fuel t hm _ _ _ hd
  obtain rfl := Option.some.inj (hD.symm.trans h1)
  intro j c hc
  refine ⟨h2.2.1 c (List.mem_of_getElem? hc), ?_⟩
  have hj : j < qs.length := (List.getElem?_eq_some_iff.1 hc).1
  have hjc : j < cs.toList.length := by rw [← h2.1]; exact hj
  refine ⟨cs.toList[j], ?_, h2.2.2 j c _ hc (List.getElem?_eq_getElem hjc)⟩
  unfold memOf
  rw [World.var?_cell hg hvar j]
  simp at hjc
  simp [hjc]
end Go.Proofs.YtbghfliffomfdaaGreatDoorV

/- What the claims of this seat share. -/
namespace Go.Proofs.YtbghfliffomfdaaGreatDoorV
open Go

/-- The types of the arguments, and of their parts. -/
def tysL : List TypeId := [27, 9, 3, 22, 133, 23, 65, 35, 24, 135, 25, 69, 28, 66, 72, 5, 70, 104, 67, 78, 76, 74]
theorem tysL_ok : tysOk Tryz.prog tysL = true := by kernel_rfl
def tysF : List TypeId := [181, 177, 9, 3]
theorem tysF_ok : tysF.all (flatOk Tryz.prog tysF) = true := by kernel_rfl
theorem row_Mach : rowT Tryz.prog 27 = some true := by simp [rowT, Tryz.underlying27, TypeDesc.isRow]
theorem row_int : ¬ rowT Tryz.prog 3 = some true := by simp [rowT, Tryz.underlying3, TypeDesc.isRow]
theorem row_string : ¬ rowT Tryz.prog 9 = some true := by simp [rowT, Tryz.underlying9, TypeDesc.isRow]
theorem arg_Mach {cs : List PV} {n : Nat} (h : PTy Tryz.prog n 27 cs) : ∃ m : Mach, aPV Tryz.prog 27 cs = m.pv := by
  obtain ⟨m, hm⟩ := dec_Mach n cs h
  exact ⟨m, by rw [aPV, if_pos row_Mach, hm]⟩
theorem arg_int {cs : List PV} {n : Nat} (h : PTy Tryz.prog n 3 cs) : ∃ x : Int, aPV Tryz.prog 3 cs = .int .i64 x := by
  obtain ⟨x, rfl⟩ := PTy.int Tryz.underlying3 h
  exact ⟨x, by rw [aPV, if_neg row_int]; rfl⟩
theorem arg_str {cs : List PV} {n : Nat} (h : PTy Tryz.prog n 9 cs) : ∃ x : ByteArray, aPV Tryz.prog 9 cs = .str x := by
  obtain ⟨x, rfl⟩ := PTy.str Tryz.underlying9 h
  exact ⟨x, by rw [aPV, if_neg row_string]; rfl⟩
theorem row_u64 : ¬ rowT Tryz.prog 28 = some true := by simp [rowT, Tryz.underlying28, TypeDesc.isRow]
theorem arg_u64 {cs : List PV} {n : Nat} (h : PTy Tryz.prog n 28 cs) : ∃ x : Int, aPV Tryz.prog 28 cs = .int .u64 x := by
  obtain ⟨x, rfl⟩ := PTy.int Tryz.underlying28 h
  exact ⟨x, by rw [aPV, if_neg row_u64]; rfl⟩
theorem len_cons {α : Type} {l : List α} {n : Nat} (h : l.length = n + 1) : ∃ a r, l = a :: r ∧ r.length = n := by
  cases l with
  | nil => simp at h
  | cons a r => exact ⟨a, r, rfl, by simpa using h⟩
theorem trodAll_len {H : Type} {enc : TypeId × Value → H} {P : Program} {w : World} {base : Nat} {sp : Nat → Bool} {held : Bool} : ∀ {ts : List TypeId} {vs : List Value} {ds : List (DataW H)} {ps : List MemPlace}, DataW.TrodAll enc P w base sp held ts vs ds ps → ds.length = ts.length
  | [], [], [], _, _ => rfl
  | _ :: _, _ :: _, _ :: _, _, ⟨_, _, _, h, _⟩ => by rw [List.length_cons, List.length_cons, trodAll_len h]
  | [], [], _ :: _, _, h => h.elim
  | [], _ :: _, _, _, h => h.elim
  | _ :: _, [], _, _, h => h.elim
  | _ :: _, _ :: _, [], _, h => h.elim
/-- What the laid table gives. -/
theorem glob_of_laid {W : World} (h : laidMet Tryz.prog [("retarget/term.shapes", Go.Proofs.YtbghfliffomfdaaGreatDoor.Rows.laid_retarget_term_shapes)] W) :
    ∀ b cs, (b, cs) ∈ glob → ∀ (j : Nat) (c : PV), cs[j]? = some c → c.one = true ∧ ∃ v, memOf W b j = some v ∧ PRep (memOf W) c v := by
  intro b cs hb
  simp only [glob, List.mem_singleton, Prod.mk.injEq] at hb
  obtain ⟨rfl, rfl⟩ := hb
  exact laid_one tysF_ok (by kernel_rfl) (by kernel_rfl) (.head _) (by kernel_rfl) h
theorem TyAll.cons {P : Program} {t : TypeId} {ts : List TypeId} : ∀ {qs : List PV}, TyAll P (t :: ts) qs → ∃ q r, qs = q :: r ∧ (∃ n cs, q = aPV P t cs ∧ PTy P n t cs) ∧ TyAll P ts r
  | [], h => h.elim
  | q :: r, h => ⟨q, r, rfl, h.1, h.2⟩
theorem TyAll.nil {P : Program} : ∀ {qs : List PV}, TyAll P [] qs → qs = []
  | [], _ => rfl
  | _ :: _, h => h.elim
end Go.Proofs.YtbghfliffomfdaaGreatDoorV
namespace Go.Proofs.YtbghfliffomfdaaGreatDoor
open Go
theorem Tryz.own : ownKnob Tryz.prog.godebug = none := by kernel_rfl
theorem Tryz.laidOut : laidOutB Tryz.prog = true := by kernel_rfl
end Go.Proofs.YtbghfliffomfdaaGreatDoor
