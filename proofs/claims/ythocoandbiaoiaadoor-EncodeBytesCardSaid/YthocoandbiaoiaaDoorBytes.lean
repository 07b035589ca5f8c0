/-
  The law EncodeBytes of retargetlaw12 gives true for every input, and its arguments read behind the call as before: the card of the seat, where the program's table of term shapes starts as the program's text lays it.
-/
import Derived.Test.YthocoandbiaoiaaDoorBytes4
set_option linter.all false
namespace Go.Proofs.YthocoandbiaoiaaDoorV
open Go
theorem args_EncodeBytes : ∀ qs, TyAll Tryd.prog [27, 34, 56] qs → (∀ q ∈ qs, q.wf) → PCall Tryd.prog glob 7 (qs.map .pv) (.pv (.bool true)) := by
  intro qs k _
  obtain ⟨q0, r0, rfl, ⟨n0, c0, e0, h0⟩, k⟩ := TyAll.cons k
  obtain ⟨q1, r1, rfl, ⟨n1, c1, e1, h1⟩, k⟩ := TyAll.cons k
  obtain ⟨q2, r2, rfl, ⟨n2, c2, e2, h2⟩, k⟩ := TyAll.cons k
  obtain rfl := TyAll.nil k
  obtain ⟨x0, y0⟩ := arg_Mach h0
  obtain ⟨x1, y1⟩ := arg_words h1
  obtain ⟨x2, y2⟩ := arg_bytes h2
  rw [e0, e1, e2, y0, y1, y2]
  exact p_EncodeBytes x0 x1 x2
end Go.Proofs.YthocoandbiaoiaaDoorV
namespace Go.Proofs.YthocoandbiaoiaaDoor
open Go Go.RowKit Go.Proofs.YthocoandbiaoiaaDoorV

set_option maxRecDepth 100000 in
theorem encodeBytes_lifted (os : Os) (started : os.Started) (H : Type) (enc : TypeId × Value → H) :
    ReturnsInHanded {} Tryd.checked os 7 .any (fun w args => (Rows.encodeBytesSpec.pre enc Tryd.prog Tryd.f7 [] false w args ∧ laidMetH Tryd.prog Rows.encodeBytesRow.laid w) ∧ sizedMet enc Tryd.prog Tryd.f7 (OpenSpec.ofChange Rows.encodeBytesSpec) false w args)
      (Rows.encodeBytesSpec.post enc Tryd.prog Tryd.f7 false true false false) := by
  refine returnsInHanded_of_change_and (C := Tryd.checked) (X := fun w _ => laidMetH Tryd.prog Rows.encodeBytesRow.laid w) (fun _ _ _ hh h => h.of_heap hh) Tryd.own started (by kernel_rfl) Tryd.func7
    (ChangeSpec.witness_at (enc := enc) (C := Tryd.checked) (os := os) (X := fun w _ => laidMetH Tryd.prog Rows.encodeBytesRow.laid w) false (World.laidAll Tryd.prog os Rows.encodeBytesRow.laid)
      #[.agg #[.string ⟨#[]⟩, .int .i64 0, .int .i64 0, .slice none 0 0, .slice none 0 0, .slice none 0 0, .slice none 0 0], .slice none 0 0, .slice none 0 0] 8
      (World.laidAll_os _ _ _) (by kernel_rfl) (by kernel_rfl) (by kernel_rfl) (by kernel_rfl) (by kernel_rfl) (laidMet_laidAll _ (by kernel_rfl) (by kernel_rfl))) ?_
  intro W base args ds gs before hval0 hW _ _ hL _
  have hval : ∀ (j : Nat) t v, Tryd.f7.params[j]? = some t → args[j]? = some v → Value.okWide Tryd.prog W .any base t v := hval0
  have hW' := hW
  obtain ⟨p, q, hA0, hV, rfl, hfz, hnd⟩ := hW
  have hA : DataW.TrodAll enc Tryd.prog W 0 (fun _ => true) true Tryd.f7.params.toList args.toList ds p := hA0
  rw [Tryd.params7] at hA hval
  have hl0 := trodAll_len hA
  obtain ⟨d0, s0, rfl, hl1⟩ := len_cons hl0
  obtain ⟨d1, s1, rfl, hl2⟩ := len_cons hl1
  obtain ⟨d2, s2, rfl, hl3⟩ := len_cons hl2
  obtain rfl := List.length_eq_zero_iff.1 hl3
  obtain ⟨rfl, rfl⟩ : gs = [] ∧ q = [] := by
    cases gs with
    | nil => exact ⟨rfl, hV⟩
    | cons g r => exact absurd hV (by intro h; cases h)
  refine (law_calls tysB_ok (by decide) args_EncodeBytes (glob_of_laid hL) hA (fun j t v h1 h2 => hval j t v (by simpa using h1) h2)).mono fun e W' ⟨he, hb⟩ => ?_
  exact ⟨_, he, law_post (tb := 4) Tryd.laidOut (by kernel_rfl) (by kernel_rfl) (by kernel_rfl) Tryd.underlying4 rfl hW' hb⟩

theorem encodeBytes_holds : Rows.EncodeBytesSaid :=
  OpenClaim.holds_of_wide 7 Tryd.f7 rfl rfl rfl rfl rfl rfl rfl ⟨rfl, rfl, rfl, rfl, rfl⟩ rfl rfl rfl rfl rfl (by kernel_rfl) Tryd.func7 (by kernel_rfl)
    (of_decide_eq_true (by kernel_rfl)) (by unfold Func.isWrapper; rw [if_neg (of_decide_eq_false (by kernel_rfl))]; exact ⟨rfl, rfl⟩)
    (fun os started H enc _ => encodeBytes_lifted os started H enc)

theorem encodeBytes : Rows.EncodeBytesCardSaid :=
  Claim7.holds_tied_plain_at .later [] [.data] true Rows.encodeBytesCard.stood.harness Rows.encodeBytesCard.stood.looks
    encodeBytes_holds (fun _ h => by cases h) (by kernel_rfl) (fun _ h => by cases h) encodeBytes_row_tie rfl ⟨rfl, rfl⟩ (by kernel_rfl) rfl
    (fun f fn hf hfn => by
      obtain rfl : f = 7 := Option.some.inj ((show Tryd.prog.funcNamed "retarget/retargetlaw12.EncodeBytes" = some 7 by kernel_rfl).symm.trans hf) |>.symm
      obtain rfl : fn = Tryd.f7 := (Option.some.inj (Tryd.func7.symm.trans hfn)).symm
      exact ⟨by kernel_rfl, fun j t ht => by
        rw [Tryd.params7] at ht
        have h3 : t = 27 ∨ t = 34 ∨ t = 56 := by
          rcases j with _ | _ | _ | j <;> simp at ht <;> subst ht <;> simp
        rcases h3 with rfl | rfl | rfl
        · exact (show Tryd.prog.wantsStandIn 27 = false by kernel_rfl)
        · exact (show Tryd.prog.wantsStandIn 34 = false by kernel_rfl)
        · exact (show Tryd.prog.wantsStandIn 56 = false by kernel_rfl)
        ⟩)
    (by kernel_rfl)
#print axioms encodeBytes
end Go.Proofs.YthocoandbiaoiaaDoor
