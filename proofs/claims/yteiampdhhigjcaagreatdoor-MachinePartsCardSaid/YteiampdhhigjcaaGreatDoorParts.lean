/-
  The law MachineParts of retargetlaw08 gives true for every input, and its arguments read behind the call as before: the card of the seat, where the program's table of term shapes starts as the program's text lays it.
-/
import Derived.Test.YteiampdhhigjcaaGreatDoorParts4
import Derived.Test.YteiampdhhigjcaaGreatDoorTie
import Derived.Test.YteiampdhhigjcaaGreatDoorCards
import Derived.Lay
import Derived.Carry
import Derived.SevenTiedAt
set_option linter.all false
namespace Go.Proofs.YteiampdhhigjcaaGreatDoorV
open Go

/-- The types of the arguments, and of their parts. -/
def tysL : List TypeId := [27, 9, 3, 22, 35, 23, 96, 53, 24, 102, 25, 40, 36, 37, 43, 5, 41, 80, 38, 48, 46, 44]
theorem tysL_ok : tysOk Tryz.prog tysL = true := by kernel_rfl
def tysF : List TypeId := [215, 211, 9, 3]
theorem tysF_ok : tysF.all (flatOk Tryz.prog tysF) = true := by kernel_rfl
theorem row_Mach : rowT Tryz.prog 27 = some true := by simp [rowT, Tryz.underlying27, TypeDesc.isRow]
theorem row_int : ¬ rowT Tryz.prog 3 = some true := by simp [rowT, Tryz.underlying3, TypeDesc.isRow]
theorem row_string : ¬ rowT Tryz.prog 9 = some true := by simp [rowT, Tryz.underlying9, TypeDesc.isRow]
theorem arg_Mach {cs : List PV} {n : Nat} (h : PTy Tryz.prog n 27 cs) : ∃ m : Mach, aPV Tryz.prog 27 cs = m.pv := by
  obtain ⟨m, hm⟩ := dec_Mach n cs h
  exact ⟨m, by rw [aPV, if_pos row_Mach, hm]⟩
theorem arg_int {cs : List PV} {n : Nat} (h : PTy Tryz.prog n 3 cs) : ∃ x : Int, aPV Tryz.prog 3 cs = .int .i64 x := by
  obtain ⟨x, rfl⟩ := PTy.int Tryz.underlying3 h
  exact ⟨x, by rw [aPV, if_neg row_int]; rfl⟩
theorem arg_str {cs : List PV} {n : Nat} (h : PTy Tryz.prog n 9 cs) : ∃ x : ByteArray, aPV Tryz.prog 9 cs = .str x := by
  obtain ⟨x, rfl⟩ := PTy.str Tryz.underlying9 h
  exact ⟨x, by rw [aPV, if_neg row_string]; rfl⟩
/-- What the laid table gives. -/
theorem glob_of_laid {W : World} (h : laidMet Tryz.prog [("retarget/term.shapes", Go.Proofs.YteiampdhhigjcaaGreatDoor.Rows.laid_retarget_term_shapes)] W) :
    ∀ b cs, (b, cs) ∈ glob → ∀ (j : Nat) (c : PV), cs[j]? = some c → c.one = true ∧ ∃ v, memOf W b j = some v ∧ PRep (memOf W) c v := by
  intro b cs hb
  simp only [glob, List.mem_singleton, Prod.mk.injEq] at hb
  obtain ⟨rfl, rfl⟩ := hb
  exact laid_one tysF_ok (by kernel_rfl) (by kernel_rfl) (.head _) (by kernel_rfl) h
theorem TyAll.cons {P : Program} {t : TypeId} {ts : List TypeId} : ∀ {qs : List PV}, TyAll P (t :: ts) qs → ∃ q r, qs = q :: r ∧ (∃ n cs, q = aPV P t cs ∧ PTy P n t cs) ∧ TyAll P ts r
  | [], h => h.elim
  | q :: r, h => ⟨q, r, rfl, h.1, h.2⟩
theorem TyAll.nil {P : Program} : ∀ {qs : List PV}, TyAll P [] qs → qs = []
  | [], _ => rfl
  | _ :: _, h => h.elim
theorem parts_args : ∀ qs, TyAll Tryz.prog [27, 3, 3, 9] qs → (∀ q ∈ qs, q.wf) → PCall Tryz.prog glob 4 (qs.map .pv) (.pv (.bool true)) := by
  intro qs h _
  obtain ⟨q0, r0, rfl, ⟨n0, c0, e0, h0⟩, k0⟩ := TyAll.cons h
  obtain ⟨q1, r1, rfl, ⟨n1, c1, e1, h1⟩, k1⟩ := TyAll.cons k0
  obtain ⟨q2, r2, rfl, ⟨n2, c2, e2, h2⟩, k2⟩ := TyAll.cons k1
  obtain ⟨q3, r3, rfl, ⟨n3, c3, e3, h3⟩, k3⟩ := TyAll.cons k2
  obtain rfl := TyAll.nil k3
  obtain ⟨m, hm⟩ := arg_Mach h0
  obtain ⟨a, ha⟩ := arg_int h1
  obtain ⟨b, hb⟩ := arg_int h2
  obtain ⟨s, hs⟩ := arg_str h3
  rw [e0, e1, e2, e3, hm, ha, hb, hs]
  exact p_MachineParts m a b s
end Go.Proofs.YteiampdhhigjcaaGreatDoorV
namespace Go.Proofs.YteiampdhhigjcaaGreatDoor
open Go Go.RowKit Go.Proofs.YteiampdhhigjcaaGreatDoorV

theorem Tryz.own : ownKnob Tryz.prog.godebug = none := by kernel_rfl
theorem Tryz.laidOut : laidOutB Tryz.prog = true := by kernel_rfl

set_option maxRecDepth 100000 in
theorem parts_lifted (os : Os) (started : os.Started) (H : Type) (enc : TypeId × Value → H) :
    ReturnsInHanded {} Tryz.checked os 4 .any (fun w args => (Rows.machinePartsSpec.pre enc Tryz.prog Tryz.f4 [] false w args ∧ laidMetH Tryz.prog Rows.machinePartsRow.laid w) ∧ sizedMet enc Tryz.prog Tryz.f4 (OpenSpec.ofChange Rows.machinePartsSpec) false w args)
      (Rows.machinePartsSpec.post enc Tryz.prog Tryz.f4 false true false false) := by
  refine returnsInHanded_of_change_and (C := Tryz.checked) (X := fun w _ => laidMetH Tryz.prog Rows.machinePartsRow.laid w) (fun _ _ _ hh h => h.of_heap hh) Tryz.own started (by kernel_rfl) Tryz.func4
    (ChangeSpec.witness_at (enc := enc) (C := Tryz.checked) (os := os) (X := fun w _ => laidMetH Tryz.prog Rows.machinePartsRow.laid w) false (World.laidAll Tryz.prog os Rows.machinePartsRow.laid)
      #[.agg #[.string ⟨#[]⟩, .int .i64 0, .int .i64 0, .slice none 0 0, .slice none 0 0, .slice none 0 0, .slice none 0 0], .int .i64 0, .int .i64 0, .string ⟨#[]⟩] 8
      (World.laidAll_os _ _ _) (by kernel_rfl) (by kernel_rfl) (by kernel_rfl) (by kernel_rfl) (by kernel_rfl) (laidMet_laidAll _ (by kernel_rfl) (by kernel_rfl))) ?_
  intro W base args ds gs before hval0 hW _ _ hL _
  have hval : ∀ (j : Nat) t v, Tryz.f4.params[j]? = some t → args[j]? = some v → Value.okWide Tryz.prog W .any base t v := hval0
  have hW' := hW
  obtain ⟨p, q, hA0, hV, rfl, hfz, hnd⟩ := hW
  have hA : DataW.TrodAll enc Tryz.prog W 0 (fun _ => true) true Tryz.f4.params.toList args.toList ds p := hA0
  rw [Tryz.params4] at hA hval
  have hA1 := hA
  obtain ⟨v0, v1, v2, v3, d0, d1, d2, d3, p0, p1, p2, p3, rfl, rfl, rfl, -⟩ := trodAll_four hA1
  obtain ⟨rfl, rfl⟩ : gs = [] ∧ q = [] := by
    cases gs with
    | nil => exact ⟨rfl, hV⟩
    | cons g r => exact absurd hV (by intro h; cases h)
  refine (law_calls tysL_ok (by decide) parts_args (glob_of_laid hL) hA (fun j t v h1 h2 => hval j t v (by simpa using h1) h2)).mono fun e W' ⟨he, hb⟩ => ?_
  exact ⟨_, he, law_post (tb := 4) Tryz.laidOut (by kernel_rfl) (by kernel_rfl) (by kernel_rfl) Tryz.underlying4 rfl hW' hb⟩

theorem parts_holds : Rows.MachinePartsSaid :=
  OpenClaim.holds_of_wide 4 Tryz.f4 rfl rfl rfl rfl rfl rfl rfl ⟨rfl, rfl, rfl, rfl, rfl⟩ rfl rfl rfl rfl rfl (by kernel_rfl) Tryz.func4 (by kernel_rfl)
    (of_decide_eq_true (by kernel_rfl)) (by unfold Func.isWrapper; rw [if_neg (of_decide_eq_false (by kernel_rfl))]; exact ⟨rfl, rfl⟩)
    (fun os started H enc _ => parts_lifted os started H enc)

theorem machineParts : Rows.MachinePartsCardSaid :=
  Claim7.holds_tied_plain_at .later [] [.data] true (true, "ecb66394fd0c6e9a9a5dd49eb74493de2ac36e01d9ecfa3f5927726cebdaaa5a") false
    parts_holds (fun _ h => by cases h) (by kernel_rfl) (fun _ h => by cases h) machineParts_row_tie rfl ⟨rfl, rfl⟩ (by kernel_rfl) rfl
    (fun f fn hf hfn => by
      obtain rfl : f = 4 := Option.some.inj ((show Tryz.prog.funcNamed "retarget/retargetlaw08.MachineParts" = some 4 by kernel_rfl).symm.trans hf) |>.symm
      obtain rfl : fn = Tryz.f4 := (Option.some.inj (Tryz.func4.symm.trans hfn)).symm
      exact ⟨by kernel_rfl, fun j t ht => by
        rw [Tryz.params4] at ht
        have h3 : t = 27 ∨ t = 3 ∨ t = 9 := by
          rcases j with _ | _ | _ | _ | j <;> simp at ht <;> subst ht <;> simp
        rcases h3 with rfl | rfl | rfl
        · exact (show Tryz.prog.wantsStandIn 27 = false by kernel_rfl)
        · exact (show Tryz.prog.wantsStandIn 3 = false by kernel_rfl)
        · exact (show Tryz.prog.wantsStandIn 9 = false by kernel_rfl)⟩)
    (by kernel_rfl)
#print axioms machineParts
end Go.Proofs.YteiampdhhigjcaaGreatDoor
