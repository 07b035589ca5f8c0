/-
  The law AmbiguousAll of retargetlaw11 gives true for every input, and its arguments read behind the call as before: the card of the seat, where the program's table of term shapes starts as the program's text lays it.
-/
import Derived.Test.YthocoandbiaoiaaDoorAll1
set_option linter.all false
namespace Go.Proofs.YthocoandbiaoiaaDoorV
open Go
theorem args_AmbiguousAll : ∀ qs, TyAll Tryd.prog [27] qs → (∀ q ∈ qs, q.wf) → PCall Tryd.prog glob 3 (qs.map .pv) (.pv (.bool true)) := by
  intro qs k _
  obtain ⟨q0, r0, rfl, ⟨n0, c0, e0, h0⟩, k⟩ := TyAll.cons k
  obtain rfl := TyAll.nil k
  obtain ⟨x0, y0⟩ := arg_Mach h0
  rw [e0, y0]
  exact p_AmbiguousAll x0
end Go.Proofs.YthocoandbiaoiaaDoorV
namespace Go.Proofs.YthocoandbiaoiaaDoor
open Go Go.RowKit Go.Proofs.YthocoandbiaoiaaDoorV

set_option maxRecDepth 100000 in
theorem ambiguousAll_lifted (os : Os) (started : os.Started) (H : Type) (enc : TypeId × Value → H) :
    ReturnsInHanded {} Tryd.checked os 3 .any (fun w args => (Rows.ambiguousAllSpec.pre enc Tryd.prog Tryd.f3 [] false w args ∧ laidMetH Tryd.prog Rows.ambiguousAllRow.laid w) ∧ sizedMet enc Tryd.prog Tryd.f3 (OpenSpec.ofChange Rows.ambiguousAllSpec) false w args)
      (Rows.ambiguousAllSpec.post enc Tryd.prog Tryd.f3 false true false false) := by
  refine returnsInHanded_of_change_and (C := Tryd.checked) (X := fun w _ => laidMetH Tryd.prog Rows.ambiguousAllRow.laid w) (fun _ _ _ hh h => h.of_heap hh) Tryd.own started (by kernel_rfl) Tryd.func3
    (ChangeSpec.witness_at (enc := enc) (C := Tryd.checked) (os := os) (X := fun w _ => laidMetH Tryd.prog Rows.ambiguousAllRow.laid w) false (World.laidAll Tryd.prog os Rows.ambiguousAllRow.laid)
      #[.agg #[.string ⟨#[]⟩, .int .i64 0, .int .i64 0, .slice none 0 0, .slice none 0 0, .slice none 0 0, .slice none 0 0]] 8
      (World.laidAll_os _ _ _) (by kernel_rfl) (by kernel_rfl) (by kernel_rfl) (by kernel_rfl) (by kernel_rfl) (laidMet_laidAll _ (by kernel_rfl) (by kernel_rfl))) ?_
  intro W base args ds gs before hval0 hW _ _ hL _
  have hval : ∀ (j : Nat) t v, Tryd.f3.params[j]? = some t → args[j]? = some v → Value.okWide Tryd.prog W .any base t v := hval0
  have hW' := hW
  obtain ⟨p, q, hA0, hV, rfl, hfz, hnd⟩ := hW
  have hA : DataW.TrodAll enc Tryd.prog W 0 (fun _ => true) true Tryd.f3.params.toList args.toList ds p := hA0
  rw [Tryd.params3] at hA hval
  have hl0 := trodAll_len hA
  obtain ⟨d0, s0, rfl, hl1⟩ := len_cons hl0
  obtain rfl := List.length_eq_zero_iff.1 hl1
  obtain ⟨rfl, rfl⟩ : gs = [] ∧ q = [] := by
    cases gs with
    | nil => exact ⟨rfl, hV⟩
    | cons g r => exact absurd hV (by intro h; cases h)
  refine (law_calls tysL_ok (by decide) args_AmbiguousAll (glob_of_laid hL) hA (fun j t v h1 h2 => hval j t v (by simpa using h1) h2)).mono fun e W' ⟨he, hb⟩ => ?_
  exact ⟨_, he, law_post (tb := 4) Tryd.laidOut (by kernel_rfl) (by kernel_rfl) (by kernel_rfl) Tryd.underlying4 rfl hW' hb⟩

theorem ambiguousAll_holds : Rows.AmbiguousAllSaid :=
  OpenClaim.holds_of_wide 3 Tryd.f3 rfl rfl rfl rfl rfl rfl rfl ⟨rfl, rfl, rfl, rfl, rfl⟩ rfl rfl rfl rfl rfl (by kernel_rfl) Tryd.func3 (by kernel_rfl)
    (of_decide_eq_true (by kernel_rfl)) (by unfold Func.isWrapper; rw [if_neg (of_decide_eq_false (by kernel_rfl))]; exact ⟨rfl, rfl⟩)
    (fun os started H enc _ => ambiguousAll_lifted os started H enc)

theorem ambiguousAll : Rows.AmbiguousAllCardSaid :=
  Claim7.holds_tied_plain_at .later [] [.data] true Rows.ambiguousAllCard.stood.harness Rows.ambiguousAllCard.stood.looks
    ambiguousAll_holds (fun _ h => by cases h) (by kernel_rfl) (fun _ h => by cases h) ambiguousAll_row_tie rfl ⟨rfl, rfl⟩ (by kernel_rfl) rfl
    (fun f fn hf hfn => by
      obtain rfl : f = 3 := Option.some.inj ((show Tryd.prog.funcNamed "retarget/retargetlaw11.AmbiguousAll" = some 3 by kernel_rfl).symm.trans hf) |>.symm
      obtain rfl : fn = Tryd.f3 := (Option.some.inj (Tryd.func3.symm.trans hfn)).symm
      exact ⟨by kernel_rfl, fun j t ht => by
        rw [Tryd.params3] at ht
        have h3 : t = 27 := by
          rcases j with _ | j <;> simp at ht <;> subst ht <;> simp
        subst h3
        · exact (show Tryd.prog.wantsStandIn 27 = false by kernel_rfl)
        ⟩)
    (by kernel_rfl)
#print axioms ambiguousAll
end Go.Proofs.YthocoandbiaoiaaDoor
