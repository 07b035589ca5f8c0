/- Packed: Voa Vp Vz Wa Vq Vr Vs Vt Vu Vv -/
import Derived.Test.YthocoandbiaoiaaDoorCore1
import Derived.MapKept
import Derived.Laws.StructEq
import Derived.RangeFuncLeaves
import Derived.RangeFuncRecord
import Derived.OrdersIn
set_option linter.all false
namespace Go.Proofs.YthocoandbiaoiaaDoorV
open Go Go.MapKept
section
variable {P : Program} {gl : Glob} {K : Nat → Prop} {w0 : World} {hl : Nat → Option Ob} {fr : Nat → Prop} {g : Gh} {w : World} {n : NT} {e : Env} {a : Act} {nid : Nat}
theorem mapOk_some {t : TypeId} {kd : Nat} {z : Option DV} (h : mapOk P t kd z = true) : ∃ k et, P.underlying t = some (.map k et) ∧ kdT P k = kd ∧ ∀ z', z = some z' → zOk P et z' = true := by
  unfold mapOk at h
  split at h
  · rename_i k et hm
    simp only [Bool.and_eq_true, beq_iff_eq] at h
    refine ⟨k, et, ?_, h.1, fun z' hz => ?_⟩
    · unfold mpT at hm; split at hm <;> simp_all
    · subst hz; exact h.2
  · simp at h
def Fit (d : TypeDesc) (k : PV) : Prop := match d, k with
  | .bool, .bool _ => True
  | .int _, .int _ _ => True
  | .string, .str _ => True
  | _, _ => False
theorem fit_of {t : TypeId} {kd : Nat} {k : PV} (h1 : kdT P t = kd) (h2 : k.kd = kd) (h3 : kd ≤ 2) : ∃ d, P.underlying t = some d ∧ Fit d k := by
  unfold kdT at h1
  split at h1
  · exact ⟨_, by assumption, by cases k <;> simp_all [PV.kd, Fit] <;> omega⟩
  · exact ⟨_, by assumption, by cases k <;> simp_all [PV.kd, Fit] <;> omega⟩
  · exact ⟨_, by assumption, by cases k <;> simp_all [PV.kd, Fit] <;> omega⟩
  · omega
theorem zOk_sound {t : TypeId} {z : DV} (h : zOk P t z = true) : ∃ v, (∀ w, (zeroValue t).run P w = .ok v w) ∧ (∀ g, DRep g z v) ∧ ∀ p, z.nm p := by
  unfold zOk at h
  split at h
  · rename_i i hi
    split at h
    · rename_i v hv
      refine ⟨v, fun w => by simp [zeroValue, typeInfo, hi, hv], ?_⟩
      simp only [Bool.or_eq_true] at h
      rcases h with h | h
      · exact ⟨fun g => (vOk_rep h).1, (vOk_rep (g := ⟨fun _ _ => none, fun _ => none, fun _ _ => none⟩) h).2⟩
      · exact ⟨fun g => (vOkA_rep h).1, (vOkA_rep (g := ⟨fun _ _ => none, fun _ => none, fun _ _ => none⟩) h).2⟩
    · simp at h
  · simp at h
theorem bytes_beq' (a b : ByteArray) : (a == b) = decide (a = b) := by
  rw [Bool.eq_iff_iff, bytes_beq]; simp
theorem int_beq (a b : Int) : (a == b) = decide (a = b) := by rw [Bool.eq_iff_iff]; simp
theorem ceq1_eq {m : Mem} {p q : PV} {v u : Value} (hp : PRep m p v) (hq : PRep m q u) {b : Bool} (h : ceq1 p q = some b) {t : TypeId} {d : TypeDesc} (hd : P.underlying t = some d) (hfit : Fit d p) (j : Nat) : (Op.equalIn (j + 1) t v u).run P w = .ok b w := by
  rw [Op.equalIn, Sem.run_bind, run_underlying hd]
  cases hp <;> cases hq <;> simp only [ceq1, reduceCtorEq, Option.some.injEq] at h
  · rename_i k x _ _ k' y _ _
    split at h
    · rename_i hk; subst hk
      obtain rfl := Option.some.inj h
      cases d <;> simp [Fit] at hfit
      simp [int_beq]
    · simp at h
  · subst h
    cases d <;> simp [Fit] at hfit
    simp
  · subst h
    cases d <;> simp [Fit] at hfit
    simp [bytes_beq']
theorem sameNow_rep {m : Mem} {p q : PV} {v u : Value} (hp : PRep m p v) (hq : PRep m q u) (h : (ceq1 p q).isSome = true) {d : TypeDesc} (hfit : Fit d p) : Instr.sameNow d v u = some (keq p q) := by
  unfold keq
  cases hp <;> cases hq <;> simp only [ceq1, Option.isSome_none, Bool.false_eq_true] at h
  · split at h
    · rename_i hk; subst hk
      cases d <;> simp [Fit] at hfit
      simp [Instr.sameNow, ceq1, int_beq]
    · simp at h
  · cases d <;> simp [Fit] at hfit
    simp [Instr.sameNow, ceq1]
  · cases d <;> simp [Fit] at hfit
    simp [Instr.sameNow, ceq1, bytes_beq']
theorem findNow_rep {g : Gh} {k : PV} {kv : Value} {d : TypeDesc} (hk : PRep g.m k kv) (hfit : Fit d k) : ∀ (es : List (PV × DV)) (en : List MapEntry) (i : Nat), es.length = en.length → (∀ x ∈ es, (ceq1 k x.1).isSome = true) →
    (∀ (j : Nat) (x : PV × DV) (y : MapEntry), es[j]? = some x → en[j]? = some y → PRep g.m x.1 y.key ∧ DRep g x.2 y.val) →
    (mfind k es i = none ∧ Instr.findNow d kv en i = some none) ∨ ∃ j q dv y, mfind k es i = some (i + j, dv) ∧ es[j]? = some (q, dv) ∧ en[j]? = some y ∧ keq k q = true ∧ Instr.findNow d kv en i = some (some (i + j, y.val))
  | [], [], i, _, _, _ => .inl ⟨rfl, rfl⟩
  | (q, dv) :: es, y :: en, i, hl, hok, hr => by
    have h0 := hr 0 (q, dv) y rfl rfl
    have hs := sameNow_rep hk h0.1 (hok (q, dv) (.head _)) hfit
    cases hkq : keq k q with
    | true => exact .inr ⟨0, q, dv, y, by simp [mfind, hkq], rfl, rfl, hkq, by simp [Instr.findNow, hs, hkq]⟩
    | false =>
      rcases findNow_rep hk hfit es en (i + 1) (by simpa using hl) (fun x hx => hok x (.tail _ hx)) (fun j x y hx hy => hr (j + 1) x y (by simpa using hx) (by simpa using hy)) with ⟨h1, h2⟩ | ⟨j, q', dv', y', h1, h2, h3, h4, h5⟩
      · exact .inl ⟨by simp [mfind, hkq, h1], by simp [Instr.findNow, hs, hkq, h2]⟩
      · exact .inr ⟨j + 1, q', dv', y', by simp [mfind, hkq, h1]; omega, by simpa using h2, by simpa using h3, h4, by simp [Instr.findNow, hs, hkq, h5]; omega⟩
  | [], _ :: _, _, hl, _, _ => by simp at hl
  | _ :: _, [], _, hl, _, _ => by simp at hl
theorem key_eq {m : Mem} {p q : PV} {v u : Value} (hp : PRep m p v) (hq : PRep m q u) (h : keq p q = true) : p = q ∧ v = u := by
  unfold keq at h
  cases hp <;> cases hq <;> simp [ceq1] at h
  · obtain ⟨rfl, rfl⟩ := h; exact ⟨rfl, rfl⟩
  · subst h; exact ⟨rfl, rfl⟩
  · subst h; exact ⟨rfl, rfl⟩
theorem sameBits_of {d : TypeDesc} {m : Mem} {k : PV} {v : Value} (hk : PRep m k v) (hf : Fit d k) (n : Nat) : Instr.sameBits n v v = true := by
  cases hk <;> cases d <;> simp [Fit] at hf <;> simp [Instr.sameBits, bytes_beq']
theorem run_keyStays {d : TypeDesc} {m : Mem} {k : PV} {v : Value} (hk : PRep m k v) (hf : Fit d k) : (Instr.keyThatStays v v).run P w = .ok v w := by
  simp [Instr.keyThatStays, sameBits_of hk hf]
theorem run_checkKey' {kt : TypeId} {d : TypeDesc} (hd : P.underlying kt = some d) {m : Mem} {k : PV} {v : Value} (hk : PRep m k v) (hf : Fit d k) (b : Bool) (n : Nat) : (Instr.checkKey b (n + 1) kt v).run P w = .ok () w := by
  unfold Instr.checkKey
  simp only [Sem.run_bind, run_underlying hd, Result.andThen]
  cases hk <;> cases d <;> simp [Fit] at hf <;> rfl
theorem mapUp (hH : SimH gl K w0 hl fr g w) {id : Nat} {es es' : List (PV × DV)} (hid : hl id = some (.mp es)) {B : Nat} (hB : g.μ id = some B) {en : Array MapEntry} {clock : Nat} (hb : w.heap[B]? = some (.map en clock)) (o' : Obj) (τ' : Nat → Option Value)
    (hτ : ∀ k v, g.τ id k = some v → τ' k = some v) (hr : ∀ g' : Gh, g'.m = g.m → g'.μ = g.μ → g'.τ id = τ' → GLe K (fun i => ¬ fr i) g g' → ORep g' { w with heap := w.heap.setIfInBounds B o' } id (.mp es')) (hn : ∀ x ∈ es', x.2.nm fun i => ¬ fr i) :
    ∃ g', SimH gl K w0 (fupd hl id (.mp es')) fr g' { w with heap := w.heap.setIfInBounds B o' } ∧ GLe K (fun i => ¬ fr i) g g' ∧ g'.m = g.m ∧ g'.τ id = τ' := by
  have hnf := hH.ids _ _ hid
  let g' : Gh := { m := g.m, μ := g.μ, τ := fun i => if i = id then τ' else g.τ i }
  have hg : GLe K (fun i => ¬ fr i) g g' := ⟨.refl _, fun _ _ _ => rfl, fun _ _ => rfl, fun i _ k v h => by
    simp only [g']; split
    · rename_i he; subst he; exact hτ k v h
    · exact h⟩
  have hmB : ∀ o, g.m B o = none := by
    obtain ⟨B', en', cl', h1, _, _, _, _, _, _, _, h5⟩ := hH.obj _ _ hid
    rw [hB] at h1; obtain rfl := Option.some.inj h1; exact h5
  have hh : ∀ b, b ≠ B → (w.heap.setIfInBounds B o')[b]? = w.heap[b]? := (MapKept.heap_set hb).2
  have hne : ∀ i oi B', i ≠ id → hl i = some oi → Owns g i B' oi → B' ≠ B := fun i oi B' hi h1 h2 he => hi (hH.inj i id oi (.mp es) B' h1 hid h2 (he ▸ hB))
  have hOw : ∀ {i : Nat} {o : Ob} {B' : Nat}, i ≠ id → (Owns g' i B' o ↔ Owns g i B' o) := fun {i o B'} hi => by cases o <;> simp [Owns, g', hi]
  refine ⟨g', ?_, hg, rfl, by simp [g']⟩
  exact {
    os := hH.os, tape := hH.tape, output := hH.output, size := by simpa using hH.size
    kept := fun b hb' => (hh b (fun he => hH.off id _ B hid hB (he ▸ hb'))).trans (hH.kept b hb')
    old := hH.old
    mem := fun b x v h => by
      have hbB : b ≠ B := fun he => by subst he; have := hmB x; simp only [g'] at h; rw [this] at h; simp at h
      have := hH.mem b x v h
      simp only [World.cell?, hh b hbB] at this ⊢; exact this
    ids := fun i oi h => by
      unfold fupd at h
      split at h
      · rename_i he; subst he; exact hnf
      · exact hH.ids i oi h
    low := fun i hi => by
      have hne' : i ≠ id := fun he => hnf (he ▸ hi)
      simp only [g', hne', if_false]; exact hH.low i hi
    obj := fun i oi h => by
      unfold fupd at h
      split at h
      · rename_i he; subst he; obtain rfl := Option.some.inj h; exact hr g' rfl rfl (by simp [g']) hg
      · rename_i he
        exact ORep.mono hg (hH.ids i oi h) (hH.nm i oi h) (by simp [g', he]) (fun B' hB' => ⟨hh B' (hne i oi B' he h hB'), fun _ => rfl⟩) (hH.obj i oi h)
    nm := fun i oi h => by
      unfold fupd at h
      split at h
      · obtain rfl := Option.some.inj h; exact hn
      · exact hH.nm i oi h
    inj := fun i j oi oj B' hi hj h1 h2 => by
      unfold fupd at hi hj
      split at hi <;> split at hj
      · omega
      · rename_i he hj'
        subst he; obtain rfl := Option.some.inj hi
        simp only [Owns, g'] at h1
        rw [hB] at h1; obtain rfl := Option.some.inj h1
        exact absurd rfl (hne j oj _ hj' hj ((hOw hj').1 h2))
      · rename_i hi' he
        subst he; obtain rfl := Option.some.inj hj
        simp only [Owns, g'] at h2
        rw [hB] at h2; obtain rfl := Option.some.inj h2
        exact absurd rfl (hne i oi _ hi' hi ((hOw hi').1 h1))
      · rename_i hi' hj'
        exact hH.inj i j oi oj B' hi hj ((hOw hi').1 h1) ((hOw hj').1 h2)
    off := fun i oi B' hi h1 hK => by
      unfold fupd at hi
      split at hi
      · rename_i he; subst he; obtain rfl := Option.some.inj hi
        simp only [Owns, g'] at h1
        rw [hB] at h1; obtain rfl := Option.some.inj h1
        exact hH.off _ _ _ hid hB hK
      · rename_i hi'; exact hH.off i oi B' hi ((hOw hi').1 h1) hK
    glo := hH.glo }
end
section
variable {P : Program} {gl : Glob} {K : Nat → Prop} {w0 : World} {hl : Nat → Option Ob} {fr : Nat → Prop} {g : Gh} {w : World} {n : NT} {e : Env} {a : Act} {nid : Nat}
theorem run_part1 {t : TypeId} {d : TypeDesc} (h : P.underlying t = some d) (hr : d.isRow = false) {cs : Array Value} {k : Nat} {v : Value} (hv : cs[k]? = some v) : (part t cs k).run P w = .ok v w := by
  simp [part, Sem.run_bind, run_isAgg h, hr, hv]
theorem eqFields_rep {m : Mem} {vs us : Array Value} (d : Nat) : ∀ {fs : List Field} {kds : List Nat} {xs ys : List PV} {k : Nat} {b : Bool}, ceqF P k fs kds = true → ceqs kds xs ys = some b →
    (∀ (j : Nat) (c : PV), xs[j]? = some c → ∃ v, vs[k + j]? = some v ∧ PRep m c v) → (∀ (j : Nat) (c : PV), ys[j]? = some c → ∃ v, us[k + j]? = some v ∧ PRep m c v) →
    (Op.eqFields (d + 1) vs us fs).run P w = .ok b w
  | [], [], [], [], k, b, _, h, _, _ => by simp [ceqs] at h; subst h; simp [Op.eqFields]
  | f :: fs, kd :: kds, x :: xs, y :: ys, k, b, hf, h, hx, hy => by
    simp only [ceqF, Bool.and_eq_true, beq_iff_eq, bne_iff_ne, ne_eq] at hf
    obtain ⟨⟨⟨h1, h2⟩, h3⟩, h4⟩ := hf
    simp only [ceqs] at h
    split at h
    case isFalse => simp at h
    rename_i hk
    split at h
    case h_2 => simp at h
    rename_i p q hp hq
    obtain rfl := Option.some.inj h
    obtain ⟨v, hv, hrx⟩ := hx 0 x rfl
    obtain ⟨u, hu, hry⟩ := hy 0 y rfl
    obtain ⟨dd, hd, hfit⟩ := fit_of h3 hk.1 hk.2
    have hrow : dd.isRow = false := by cases dd <;> cases x <;> simp_all [Fit, TypeDesc.isRow]
    have ih := eqFields_rep d h4 hq (fun j c hc => by have := hx (j + 1) c (by simpa using hc); rwa [show k + (j + 1) = k + 1 + j by omega] at this) (fun j c hc => by have := hy (j + 1) c (by simpa using hc); rwa [show k + (j + 1) = k + 1 + j by omega] at this)
    rw [Op.eqFields, if_pos h1]
    simp only [Sem.run_bind, h2, run_part1 hd hrow (by simpa using hv), run_part1 hd hrow (by simpa using hu), Result.andThen_ok, ceq1_eq hrx hry hp hd hfit d]
    cases p with
    | true => simpa using ih
    | false => simp
  | [], _ :: _, _, _, _, _, hf, _, _, _ => by simp [ceqF] at hf
  | _ :: _, [], _, _, _, _, hf, _, _, _ => by simp [ceqF] at hf
  | _, [], _ :: _, _, _, _, _, h, _, _ => by simp [ceqs] at h
  | _, [], [], _ :: _, _, _, _, h, _, _ => by simp [ceqs] at h
  | _, _ :: _, [], _, _, _, _, h, _, _ => by simp [ceqs] at h
  | _, _ :: _, _ :: _, [], _, _, _, h, _, _ => by simp [ceqs] at h
variable (hH : SimH gl K w0 hl fr g w) (hE : SimE n (eget e) fr g a) {o : Oper} {r : Stp}
include hH hE
theorem st_ceq {neg : Bool} {kds : List Nat} {x y : O} (hc : cmp P o.op (.ceq neg kds x y) = true) (h : stp gl e hl nid (.ceq neg kds x y) = some r) (hcc : r.c) : StepOk P gl K w0 hl fr g w nid r ((execOp a.eval o).run P w) := by
  simp only [stp] at h
  split at h
  case h_2 => simp at h
  rename_i p c1 q c2 hx hy
  simp only [Option.map_eq_some_iff] at h
  obtain ⟨b, hb, rfl⟩ := h
  cases ho : o.op <;> simp only [ho, cmp, Bool.false_eq_true] at hc
  rename_i op t X Y u
  simp only [Bool.and_eq_true, beq_iff_eq] at hc
  obtain ⟨⟨⟨rfl, h1⟩, h2⟩, h3⟩ := hc
  unfold ceqTy at h3
  split at h3
  case h_2 => simp at h3
  rename_i fs hfs
  simp only [Bool.and_eq_true, Bool.not_eq_true'] at h3
  obtain ⟨⟨h3, h4⟩, h5⟩ := h3
  have hT := stF_some hfs
  obtain ⟨vs, hX, hlx, _, hrx⟩ := (evs_sound hH hE h1 hx hcc.1).1.pv_inv.agg_inv
  obtain ⟨us, hY, hly, _, hry⟩ := (evs_sound hH hE h2 hy hcc.2).1.pv_inv.agg_inv
  refine .pure hH rfl rfl (v := .bool (b != neg)) ?_ (.pv .bool) (by simp only [DV.nm])
  have hfe : P.fieldsOf t = fs := by simp [Program.fieldsOf, hT]
  have hex : ∀ {xs : List PV} {vs : Array Value}, xs.length = vs.size → (∀ (j : Nat) (c : PV) (v : Value), xs[j]? = some c → vs[j]? = some v → PRep g.m c v) → ∀ (j : Nat) (c : PV), xs[j]? = some c → ∃ v, vs[0 + j]? = some v ∧ PRep g.m c v := fun {xs vs} hl hr j c hc => by
    have hj : j < vs.size := by have := (List.getElem?_eq_some_iff.1 hc).1; omega
    exact ⟨vs[j], by simp [hj], hr j c _ hc (by simp [hj])⟩
  have he := eqFields_rep (P := P) (w := w) 9998 h3 hb (hex hlx hrx) (hex hly hry)
  have he2 : (Op.equalIn 10000 t (.agg vs) (.agg us)).run P w = .ok b w := by
    rw [show (10000 : Nat) = 9999 + 1 from rfl, run_equalIn_struct w 9999 t vs us (by rw [hfe]; exact hT) h5, hfe]; exact he
  cases neg <;> simp [execOp, ho, hX, hY, run_eqGuard_agg w _ t _ _ _ _ h4, run_eql_struct, run_neq_struct, he2]
theorem st_mkm (hc : cmp P o.op .mkm = true) (h : stp gl e hl nid .mkm = some r) (hnid : fr nid) : StepOk P gl K w0 hl fr g w nid r ((execOp a.eval o).run P w) := by
  obtain rfl := Option.some.inj h
  have ho : ∃ t, o.op = .makeMap t none := by
    cases ho : o.op <;> simp only [ho, cmp, Bool.false_eq_true] at hc
    rename_i t rs
    cases rs with
    | none => exact ⟨t, rfl⟩
    | some _ => simp [cmp] at hc
  obtain ⟨t, ho⟩ := ho
  have hlow := hH.low nid hnid
  have hnew := hH.newObj hnid w.heap.size rfl (.mp []) (.map #[] 0) (fun B' h => by simpa [Owns] using h.symm) (fun x hx => by simp at hx)
    ⟨w.heap.size, #[], 0, by simp, by rw [Go.Proofs.YthocoandbiaoiaaDoorV.heap_alloc, if_pos rfl], rfl, by simp, by simp, by simp, fun j _ => hlow.2 j, by simp, fun o => hH.memnew o⟩
  refine ⟨.value (.map (some w.heap.size)), .map (some w.heap.size), w.alloc (.map #[] 0), _, ?_, .inl rfl, ?_, hnew.2, .mref (by simp), ?_⟩
  · simp [execOp, ho, Instr.makeMap]
  · rw [frl_one]; exact hnew.1
  · rw [frl_one]; exact DV.nm_mref.2 (by simp)
theorem mapAt {id : Nat} {es : List (PV × DV)} (hob : hl id = some (.mp es)) {v : Value} (hv : DRep g (.mref id) v) : ∃ B en clock, v = .map (some B) ∧ g.μ id = some B ∧ w.heap[B]? = some (.map en clock) ∧ es.length = en.size ∧ (∀ y ∈ en.toList, y.born < clock) ∧
    (en.toList.map (·.born)).Nodup ∧ (∀ (j : Nat) (y : MapEntry), en[j]? = some y → g.τ id j = some (goInt y.born)) ∧ (∀ j, en.size ≤ j → g.τ id j = none) ∧
    (∀ (j : Nat) (x : PV × DV) (y : MapEntry), es[j]? = some x → en[j]? = some y → PRep g.m x.1 y.key ∧ DRep g x.2 y.val) ∧ ∀ o, g.m B o = none := by
  obtain ⟨B, en, clock, h1, h2, h3, h4, h5, h6, h7, h8, h9⟩ := hH.obj _ _ hob
  cases hv with
  | mref hμ =>
    rw [h1] at hμ; obtain rfl := Option.some.inj hμ
    exact ⟨B, en, clock, rfl, h1, h2, h3, h4, h5, h6, h7, h8, h9⟩
theorem st_look {kd : Nat} {z : DV} {x k : O} {ok : Bool} (hc : cmp P o.op (.look kd z x k ok) = true) (h : stp gl e hl nid (.look kd z x k ok) = some r) (hcc : r.c) : StepOk P gl K w0 hl fr g w nid r ((execOp a.eval o).run P w) := by
  cases ho : o.op <;> simp only [ho, cmp, Bool.false_eq_true] at hc
  rename_i t X I ok'
  simp only [Bool.and_eq_true, beq_iff_eq] at hc
  obtain ⟨⟨⟨hok, h1⟩, h2⟩, h3⟩ := hc
  obtain rfl : ok = ok' := hok.symm
  obtain ⟨kt, et, hm, hkd, hz⟩ := mapOk_some h3
  obtain ⟨zv, hz1, hz2, hz3⟩ := zOk_sound (hz z rfl)
  simp only [stp] at h
  split at h
  · rename_i id c kp c' hx hk
    split at h
    case h_2 => simp at h
    rename_i es hob
    obtain rfl := Option.some.inj h
    obtain ⟨hc1, hc2, hk1, hk2, hk3⟩ := hcc
    have hK := (evs_sound hH hE h2 hk hc2).1.pv_inv
    obtain ⟨B, en, clock, hX, hB, hb, hlen, _, _, _, _, hrep, _⟩ := mapAt hH hE hob (evs_sound hH hE h1 hx hc1).1
    obtain ⟨d, hd, hfit⟩ := fit_of hkd hk1 hk2
    have hnm : ∀ (j : Nat) (q : PV × DV), es[j]? = some q → q.2.nm fun i => ¬ fr i := fun j q hq => hH.nm _ _ hob q (List.mem_of_getElem? hq)
    rcases findNow_rep hK hfit es en.toList 0 (by simpa using hlen) hk3 (fun j x y hx hy => hrep j x y hx (by simpa using hy)) with ⟨f1, f2⟩ | ⟨j, q, dv, y, f1, f2, f3, f4, f5⟩
    · have hml : mlook es kp = none := by simp [mlook, f1]
      have hrun : (Instr.lookup t (.map (some B)) (a.eval I) ok).run P w = .ok (if ok then .tuple #[zv, .bool false] else zv) w := by
        cases ok <;> simp [Instr.lookup, run_underlying hm, MapKept.run_getObj_map hb, run_checkKey' hd hK hfit, MapKept.run_findKey hd f2, hz1]
      cases ok with
      | true =>
        refine .pure hH rfl rfl (v := .tuple #[zv, .bool false]) ?_ ?_ ?_
        · simp [execOp, ho, hX, hrun]
        · simp only [hml, if_true, Option.getD_none, Option.isSome_none]
          refine .tup rfl fun j c v hc hv => ?_
          rcases j with _ | _ | j <;> simp at hc hv
          · subst hc; subst hv; exact hz2 g
          · subst hc; subst hv; exact .pv .bool
        · simp only [hml, if_true, Option.getD_none, Option.isSome_none]
          exact DV.nm_tup.2 fun c hc => by
            simp at hc; rcases hc with rfl | rfl
            · exact hz3 _
            · exact DV.nm_pv
      | false =>
        refine .pure hH rfl rfl (v := zv) ?_ ?_ ?_
        · simp [execOp, ho, hX, hrun]
        · simp only [hml, Bool.false_eq_true, if_false, Option.getD_none]; exact hz2 g
        · simp only [hml, Bool.false_eq_true, if_false, Option.getD_none]; exact hz3 _
    · have hml : mlook es kp = some dv := by simp [mlook, f1]
      have hy := hrep j (q, dv) y f2 (by simpa using f3)
      have hrun : (Instr.lookup t (.map (some B)) (a.eval I) ok).run P w = .ok (if ok then .tuple #[y.val, .bool true] else y.val) w := by
        cases ok <;> simp [Instr.lookup, run_underlying hm, MapKept.run_getObj_map hb, run_checkKey' hd hK hfit, MapKept.run_findKey hd f5]
      cases ok with
      | true =>
        refine .pure hH rfl rfl (v := .tuple #[y.val, .bool true]) ?_ ?_ ?_
        · simp [execOp, ho, hX, hrun]
        · simp only [hml, if_true, Option.getD_some, Option.isSome_some]
          refine .tup rfl fun j c v hc hv => ?_
          rcases j with _ | _ | j <;> simp at hc hv
          · subst hc; subst hv; exact hy.2
          · subst hc; subst hv; exact .pv .bool
        · simp only [hml, if_true, Option.getD_some, Option.isSome_some]
          exact DV.nm_tup.2 fun c hc => by
            simp at hc; rcases hc with rfl | rfl
            · exact hnm j _ f2
            · exact DV.nm_pv
      | false =>
        refine .pure hH rfl rfl (v := y.val) ?_ ?_ ?_
        · simp [execOp, ho, hX, hrun]
        · simp only [hml, Bool.false_eq_true, if_false, Option.getD_some]; exact hy.2
        · simp only [hml, Bool.false_eq_true, if_false, Option.getD_some]; exact hnm j _ f2
  · rename_i c kp c' hx hk
    obtain rfl := Option.some.inj h
    obtain ⟨hc1, hc2, hk1, hk2, hk3⟩ := hcc
    have hK := (evs_sound hH hE h2 hk hc2).1.pv_inv
    obtain ⟨d, hd, hfit⟩ := fit_of hkd hk1 hk2
    have hX := (evs_sound hH hE h1 hx hc1).1
    generalize hv : a.eval X = v at hX
    cases hX
    have hrun : (Instr.lookup t (.map none) (a.eval I) ok).run P w = .ok (if ok then .tuple #[zv, .bool false] else zv) w := by
      have f2 : Instr.findNow d (a.eval I) [] 0 = some none := rfl
      cases ok <;> simp [Instr.lookup, run_underlying hm, run_checkKey' hd hK hfit, MapKept.run_findKey hd f2, hz1]
    cases ok with
    | true =>
      refine .pure hH rfl rfl (v := .tuple #[zv, .bool false]) ?_ ?_ ?_
      · simp [execOp, ho, hv, hrun]
      · simp only [if_true]
        refine .tup rfl fun j c v hc hv => ?_
        rcases j with _ | _ | j <;> simp at hc hv
        · subst hc; subst hv; exact hz2 g
        · subst hc; subst hv; exact .pv .bool
      · simp only [if_true]
        exact DV.nm_tup.2 fun c hc => by
          simp at hc; rcases hc with rfl | rfl
          · exact hz3 _
          · exact DV.nm_pv
    | false =>
      refine .pure hH rfl rfl (v := zv) ?_ (hz2 g) (hz3 _)
      simp [execOp, ho, hv, hrun]
  · simp at h
theorem map_set {id : Nat} {es : List (PV × DV)} (hob : hl id = some (.mp es)) {B : Nat} {en : Array MapEntry} {clock : Nat} (hB : g.μ id = some B) (hb : w.heap[B]? = some (.map en clock)) (hlen : es.length = en.size) (h4 : ∀ y ∈ en.toList, y.born < clock)
    (h5 : (en.toList.map (·.born)).Nodup) (h6 : ∀ (j : Nat) (y : MapEntry), en[j]? = some y → g.τ id j = some (goInt y.born)) (h7 : ∀ j, en.size ≤ j → g.τ id j = none)
    (hrep : ∀ (j : Nat) (x : PV × DV) (y : MapEntry), es[j]? = some x → en[j]? = some y → PRep g.m x.1 y.key ∧ DRep g x.2 y.val) (hm : ∀ o, g.m B o = none)
    {j : Nat} (f : MapEntry → MapEntry) (hf : ∀ y, (f y).born = y.born) {k : PV} {d : DV} (hnew : ∀ y, en[j]? = some y → PRep g.m k (f y).key ∧ DRep g d (f y).val) (hnm : d.nm fun i => ¬ fr i) :
    ∃ g' w', w' = { w with heap := w.heap.setIfInBounds B (.map (en.modify j f) clock) } ∧ SimH gl K w0 (fupd hl id (.mp (es.set j (k, d)))) fr g' w' ∧ GLe K (fun i => ¬ fr i) g g' ∧ g'.m = g.m ∧ g'.τ id = g.τ id := by
  have hborn : (en.modify j f).toList.map (·.born) = en.toList.map (·.born) := by
    apply List.ext_getElem?
    intro i
    simp only [List.getElem?_map, Array.getElem?_toList, Array.getElem?_modify]
    split
    · rename_i he; subst he; cases en[j]? <;> simp [hf]
    · rfl
  suffices h : ∃ g', SimH gl K w0 (fupd hl id (.mp (es.set j (k, d)))) fr g' { w with heap := w.heap.setIfInBounds B (.map (en.modify j f) clock) } ∧ GLe K (fun i => ¬ fr i) g g' ∧ g'.m = g.m ∧ g'.τ id = g.τ id from let ⟨g', h⟩ := h; ⟨g', _, rfl, h⟩
  refine mapUp hH hob hB hb _ (g.τ id) (fun _ _ h => h) (fun g' k1 k2 k3 k4 => ?_) fun x hx => ?_
  · refine ⟨B, en.modify j f, clock, by rw [k2]; exact hB, (MapKept.heap_set hb).1, by simpa using hlen, fun y hy => ?_, by rw [hborn]; exact h5, fun i y hy => ?_, fun i hi => by rw [k3]; exact h7 i (by simpa using hi), fun i x y hx hy => ?_, fun o => by rw [k1]; exact hm o⟩
    · obtain ⟨i, hi, rfl⟩ := List.getElem_of_mem hy
      have hi' : i < en.size := by simpa using hi
      simp only [Array.getElem_toList, Array.getElem_modify]
      split
      · rw [hf]; exact h4 _ (by simp)
      · exact h4 _ (by simp)
    · rw [k3]
      rw [Array.getElem?_modify] at hy
      split at hy
      · rename_i he; subst he
        rw [Option.map_eq_some_iff] at hy
        obtain ⟨y', hy', rfl⟩ := hy
        rw [hf]; exact h6 j y' hy'
      · exact h6 i y hy
    · rw [List.getElem?_set] at hx
      rw [Array.getElem?_modify] at hy
      split at hx
      · rename_i he; subst he
        rw [if_pos rfl] at hy
        split at hx
        · obtain rfl := Option.some.inj hx
          rw [Option.map_eq_some_iff] at hy
          obtain ⟨y', hy', rfl⟩ := hy
          have := hnew y' hy'
          exact ⟨k1 ▸ this.1, this.2.mono k4 hnm⟩
        · simp at hx
      · rename_i he
        rw [if_neg he] at hy
        have := hrep i x y hx hy
        exact ⟨k1 ▸ this.1, this.2.mono k4 (hH.nm _ _ hob x (List.mem_of_getElem? hx))⟩
  · rcases List.mem_or_eq_of_mem_set hx with hx | rfl
    · exact hH.nm _ _ hob x hx
    · exact hnm
theorem map_push {id : Nat} {es : List (PV × DV)} (hob : hl id = some (.mp es)) {B : Nat} {en : Array MapEntry} {clock : Nat} (hB : g.μ id = some B) (hb : w.heap[B]? = some (.map en clock)) (hlen : es.length = en.size) (h4 : ∀ y ∈ en.toList, y.born < clock)
    (h5 : (en.toList.map (·.born)).Nodup) (h6 : ∀ (j : Nat) (y : MapEntry), en[j]? = some y → g.τ id j = some (goInt y.born)) (h7 : ∀ j, en.size ≤ j → g.τ id j = none)
    (hrep : ∀ (j : Nat) (x : PV × DV) (y : MapEntry), es[j]? = some x → en[j]? = some y → PRep g.m x.1 y.key ∧ DRep g x.2 y.val) (hm : ∀ o, g.m B o = none)
    {kv dv : Value} {k : PV} {d : DV} (hk : PRep g.m k kv) (hd : DRep g d dv) (hnm : d.nm fun i => ¬ fr i) :
    ∃ g' w', w' = { w with heap := w.heap.setIfInBounds B (.map (en.push { key := kv, val := dv, born := clock }) (clock + 1)) } ∧ SimH gl K w0 (fupd hl id (.mp (es ++ [(k, d)]))) fr g' w' ∧ GLe K (fun i => ¬ fr i) g g' ∧ g'.m = g.m ∧ g'.τ id es.length = some (goInt clock) := by
  obtain ⟨g', r1, r2, r3, r4⟩ := mapUp hH hob hB hb (.map (en.push { key := kv, val := dv, born := clock }) (clock + 1)) (es' := es ++ [(k, d)]) (fun i => if i = en.size then some (goInt clock) else g.τ id i) (fun i v h => by
      rw [if_neg]
      · exact h
      · intro he; rw [h7 i (by omega)] at h; simp at h) (fun g' k1 k2 k3 k4 => by
      refine ⟨B, _, clock + 1, by rw [k2]; exact hB, (MapKept.heap_set hb).1, by simp [hlen], fun y hy => ?_, ?_, fun i y hy => ?_, fun i hi => ?_, fun i x y hx hy => ?_, fun o => by rw [k1]; exact hm o⟩
      · simp only [Array.toList_push, List.mem_append, List.mem_singleton] at hy
        rcases hy with hy | rfl
        · have := h4 y hy; omega
        · simp
      · simp only [Array.toList_push, List.map_append, List.map_cons, List.map_nil]
        rw [List.nodup_append]
        refine ⟨h5, by simp, fun x hx y hy => ?_⟩
        obtain ⟨z, hz, rfl⟩ := List.mem_map.1 hx
        have := h4 z hz
        simp at hy; omega
      · rw [k3]
        rw [Array.getElem?_push] at hy
        split at hy
        · rename_i he
          obtain rfl := Option.some.inj hy
          simp [he]
        · rename_i he
          have := h6 i y hy
          simp only [he, if_false]; exact this
      · rw [k3]
        simp only [Array.size_push] at hi
        have : ¬ i = en.size := by omega
        simp only [this, if_false]
        exact h7 i (by omega)
      · rw [List.getElem?_append] at hx
        rw [Array.getElem?_push] at hy
        split at hx
        · rename_i hi
          rw [if_neg (by omega)] at hy
          have := hrep i x y hx hy
          exact ⟨k1 ▸ this.1, this.2.mono k4 (hH.nm _ _ hob x (List.mem_of_getElem? hx))⟩
        · rename_i hi
          have hi2 : i = es.length := by
            have := (List.getElem?_eq_some_iff.1 hx).1; simp at this; omega
          subst hi2
          simp at hx; subst hx
          rw [if_pos hlen] at hy
          obtain rfl := Option.some.inj hy
          exact ⟨k1 ▸ hk, hd.mono k4 hnm⟩) (fun x hx => by
      simp only [List.mem_append, List.mem_singleton] at hx
      rcases hx with hx | rfl
      · exact hH.nm _ _ hob x hx
      · exact hnm)
  exact ⟨g', _, rfl, r1, r2, r3, by rw [r4]; simp [hlen]⟩
theorem st_mup {kd : Nat} {x k v : O} (hc : cmp P o.op (.mup kd x k v) = true) (h : stp gl e hl nid (.mup kd x k v) = some r) (hcc : r.c) : StepOk P gl K w0 hl fr g w nid r ((execOp a.eval o).run P w) := by
  obtain ⟨t, X, I, V, ho, h1, h2, h2', h3⟩ : ∃ t X I V, (execOp a.eval o).run P w = ((do Instr.mapUpdate t (a.eval X) (a.eval I) (a.eval V); pure .skip : Sem Next)).run P w ∧ oOk X x = true ∧ oOk I k = true ∧ oOk V v = true ∧ mapOk P t kd none = true := by
    cases ho : o.op <;> simp only [ho, cmp, Bool.false_eq_true] at hc
    all_goals
      simp only [Bool.and_eq_true] at hc
      exact ⟨_, _, _, _, by simp only [execOp, ho], hc.1.1.1, hc.1.1.2, hc.1.2, hc.2⟩
  obtain ⟨kt, et, hm, hkd, _⟩ := mapOk_some h3
  simp only [stp] at h
  split at h
  case h_2 => simp at h
  rename_i id c kp c' d c'' hx hk hv
  split at h
  case h_2 => simp at h
  rename_i es hob
  obtain rfl := Option.some.inj h
  obtain ⟨hc1, hc2, hc3, hk1, hk2, hk3⟩ := hcc
  have hK := (evs_sound hH hE h2 hk hc2).1.pv_inv
  have hV := evs_sound hH hE h2' hv hc3
  obtain ⟨B, en, clock, hX, hB, hb, hlen, m1, m2, m3, m4, hrep, hmB⟩ := mapAt hH hE hob (evs_sound hH hE h1 hx hc1).1
  obtain ⟨dd, hd, hfit⟩ := fit_of hkd hk1 hk2
  rw [ho]
  rcases findNow_rep hK hfit es en.toList 0 (by simpa using hlen) hk3 (fun j x y hx hy => hrep j x y hx (by simpa using hy)) with ⟨f1, f2⟩ | ⟨j, q, dv, y, f1, f2, f3, f4, f5⟩
  · obtain ⟨g', w', hw', r1, r2, _, _⟩ := map_push hH hE hob hB hb hlen m1 m2 m3 m4 hrep hmB hK hV.1 hV.2
    refine ⟨.skip, undef, w', g', ?_, .inr ⟨rfl, rfl⟩, ?_, r2, .junk, DV.nm_junk⟩
    · simp [hw', hX, Instr.mapUpdate, run_underlying hm, MapKept.run_getObj_map hb, run_checkKey' hd hK hfit, MapKept.run_findKey hd f2, MapKept.run_setObj_map _ hb]
    · simpa [upf, frl, mput, f1] using r1
  · have hyk : a.eval I = y.key := (key_eq hK (hrep j (q, dv) y f2 (by simpa using f3)).1 f4).2
    have hyj : en[j]? = some y := by simpa using f3
    obtain ⟨g', w', hw', r1, r2, _, _⟩ := map_set hH hE hob hB hb hlen m1 m2 m3 m4 hrep hmB (j := j) (fun e => { e with key := a.eval I, val := a.eval V }) (fun _ => rfl) (k := kp) (d := d) (fun y hy => ⟨hK, hV.1⟩) hV.2
    refine ⟨.skip, undef, w', g', ?_, .inr ⟨rfl, rfl⟩, ?_, r2, .junk, DV.nm_junk⟩
    · have hst := run_keyStays (P := P) (w := w) hK hfit
      simp [hw', hX, Instr.mapUpdate, run_underlying hm, MapKept.run_getObj_map hb, run_checkKey' hd hK hfit, MapKept.run_findKey hd f5, hyj, ← hyk, hst, MapKept.run_setObj_map _ hb]
    · simpa [upf, frl, mput, f1] using r1
theorem st_ment {kd : Nat} {z : DV} {x k : O} (hc : cmp P o.op (.ment kd z x k) = true) (h : stp gl e hl nid (.ment kd z x k) = some r) (hcc : r.c) : StepOk P gl K w0 hl fr g w nid r ((execOp a.eval o).run P w) := by
  cases ho : o.op <;> simp only [ho, cmp, Bool.false_eq_true] at hc
  rename_i t X I
  simp only [Bool.and_eq_true] at hc
  obtain ⟨⟨h1, h2⟩, h3⟩ := hc
  obtain ⟨kt, et, hm, hkd, hz⟩ := mapOk_some h3
  obtain ⟨zv, hz1, hz2, hz3⟩ := zOk_sound (hz z rfl)
  simp only [stp] at h
  split at h
  case h_2 => simp at h
  rename_i id c kp c' hx hk
  split at h
  case h_2 => simp at h
  rename_i es hob
  have hnf := hH.ids _ _ hob
  have fin : ∀ {hcc : c ∧ c' ∧ keysOk kd kp es}, StepOk P gl K w0 hl fr g w nid (match mfind kp es 0 with
      | some (i, d) => { v := .tup [d, .stmp id i], up := [(id, .mp (es.set i (kp, d)))], rd := [id], c := c ∧ c' ∧ keysOk kd kp es }
      | none => { v := .tup [z, .stmp id es.length], up := [(id, .mp (es ++ [(kp, z)]))], rd := [id], c := c ∧ c' ∧ keysOk kd kp es }) ((execOp a.eval o).run P w) := by
    rintro ⟨hc1, hc2, hk1, hk2, hk3⟩
    have hK := (evs_sound hH hE h2 hk hc2).1.pv_inv
    obtain ⟨B, en, clock, hX, hB, hb, hlen, m1, m2, m3, m4, hrep, hmB⟩ := mapAt hH hE hob (evs_sound hH hE h1 hx hc1).1
    obtain ⟨dd, hd, hfit⟩ := fit_of hkd hk1 hk2
    have tup : ∀ {g' : Gh} {d : DV} {v : Value} {i : Nat} {s : Value}, DRep g' d v → g'.τ id i = some s → DRep g' (.tup [d, .stmp id i]) (.tuple #[v, s]) := fun {g' d v i s} h1 h2 => by
      refine .tup rfl fun j c v hc hv => ?_
      rcases j with _ | _ | j <;> simp at hc hv
      · subst hc; subst hv; exact h1
      · subst hc; subst hv; exact .stmp h2
    rcases findNow_rep hK hfit es en.toList 0 (by simpa using hlen) hk3 (fun j x y hx hy => hrep j x y hx (by simpa using hy)) with ⟨f1, f2⟩ | ⟨j, q, dv, y, f1, f2, f3, f4, f5⟩
    · obtain ⟨g', w', hw', r1, r2, r3, r4⟩ := map_push hH hE hob hB hb hlen m1 m2 m3 m4 hrep hmB hK (hz2 g) (hz3 _)
      rw [f1]
      refine ⟨.value (.tuple #[zv, goInt clock]), _, w', g', ?_, .inl rfl, by simpa [upf, frl] using r1, r2, tup (hz2 g') r4, ?_⟩
      · simp [hw', execOp, ho, hX, Instr.mapEntry, run_underlying hm, MapKept.run_getObj_map hb, run_checkKey' hd hK hfit, MapKept.run_findKey hd f2, MapKept.run_setObj_map _ hb, hz1]
      · exact DV.nm_tup.2 fun c hc => by
          simp at hc; rcases hc with rfl | rfl
          · exact hz3 _
          · exact DV.nm_stmp.2 hnf
    · have hyr := hrep j (q, dv) y f2 (by simpa using f3)
      have hyk : a.eval I = y.key := (key_eq hK hyr.1 f4).2
      have hyj : en[j]? = some y := by simpa using f3
      have hnd : dv.nm fun i => ¬ fr i := hH.nm _ _ hob _ (List.mem_of_getElem? f2)
      obtain ⟨g', w', hw', r1, r2, r3, r4⟩ := map_set hH hE hob hB hb hlen m1 m2 m3 m4 hrep hmB (j := j) (fun e => { e with key := a.eval I }) (fun _ => rfl) (k := kp) (d := dv) (fun y' hy' => by rw [hyj] at hy'; obtain rfl := Option.some.inj hy'; exact ⟨hK, hyr.2⟩) hnd
      rw [f1]
      refine ⟨.value (.tuple #[y.val, goInt y.born]), _, w', g', ?_, .inl rfl, by simpa [upf, frl] using r1, r2, tup (hyr.2.mono r2 hnd) (by rw [Nat.zero_add, r4]; exact m3 j y hyj), ?_⟩
      · have hst := run_keyStays (P := P) (w := w) hK hfit
        simp [hw', execOp, ho, hX, Instr.mapEntry, run_underlying hm, MapKept.run_getObj_map hb, run_checkKey' hd hK hfit, MapKept.run_findKey hd f5, hyj, ← hyk, hst, MapKept.run_setObj_map _ hb]
      · exact DV.nm_tup.2 fun c hc => by
          simp at hc; rcases hc with rfl | rfl
          · exact hnd
          · exact DV.nm_stmp.2 hnf
  split at h
  · rename_i i d hf
    obtain rfl := Option.some.inj h
    have := fin (hcc := hcc)
    rw [hf] at this; exact this
  · rename_i hf
    obtain rfl := Option.some.inj h
    have := fin (hcc := hcc)
    rw [hf] at this; exact this
theorem st_mest {x s v : O} (hc : cmp P o.op (.mest x s v) = true) (h : stp gl e hl nid (.mest x s v) = some r) (hcc : r.c) : StepOk P gl K w0 hl fr g w nid r ((execOp a.eval o).run P w) := by
  cases ho : o.op <;> simp only [ho, cmp, Bool.false_eq_true] at hc
  rename_i t X S V
  simp only [Bool.and_eq_true] at hc
  obtain ⟨⟨h1, h2⟩, h3⟩ := hc
  simp only [stp] at h
  split at h
  case h_2 => simp at h
  rename_i id c id' i c' d c'' hx hs hv
  split at h
  case h_2 => simp at h
  rename_i es hob
  split at h
  case h_2 => simp at h
  rename_i y hy
  split at h
  case isFalse => simp at h
  rename_i he; subst he
  obtain rfl := Option.some.inj h
  obtain ⟨hc1, hc2, hc3⟩ := hcc
  have hV := evs_sound hH hE h3 hv hc3
  obtain ⟨B, en, clock, hX, hB, hb, hlen, m1, m2, m3, m4, hrep, hmB⟩ := mapAt hH hE hob (evs_sound hH hE h1 hx hc1).1
  have hi : i < en.size := by have := (List.getElem?_eq_some_iff.1 hy).1; omega
  have hS : a.eval S = goInt en[i].born := by
    have := (evs_sound hH hE h2 hs hc2).1
    generalize a.eval S = sv at this
    cases this with
    | stmp h => rw [m3 i en[i] (by simp [hi])] at h; exact (Option.some.inj h).symm
  have hfi : en.findIdx? (fun e => (e.born : Int) == (en[i].born : Int)) = some i := by
    rw [Array.findIdx?_eq_some_iff_getElem]
    refine ⟨hi, by simp, fun j hj => ?_⟩
    have hne : en[j].born ≠ en[i].born := fun he => by
      have h1 : (en.toList.map (·.born))[j]'(by simp; omega) = (en.toList.map (·.born))[i]'(by simp; omega) := by simpa using he
      have := (List.getElem_inj m2).1 h1
      omega
    simp; omega
  obtain ⟨g', w', hw', r1, r2, _, _⟩ := map_set hH hE hob hB hb hlen m1 m2 m3 m4 hrep hmB (j := i) (fun e => { e with val := a.eval V }) (fun _ => rfl) (k := y.1) (d := d) (fun y' hy' => ⟨(hrep i y y' hy hy').1, hV.1⟩) hV.2
  refine ⟨.skip, undef, w', g', ?_, .inr ⟨rfl, rfl⟩, by simpa [upf, frl] using r1, r2, .junk, DV.nm_junk⟩
  simp [hw', execOp, ho, hX, hS, Instr.entryStore, MapKept.run_getObj_map hb, goInt, asInt, asIntOf, hfi, MapKept.run_setObj_map _ hb]
omit hH hE in
theorem cmp_mlen {op : Op} {x : O} (hc : cmp P op (.mlen x) = true) : ∃ X t, op = .call ⟨.builtin .len, ⟨[X]⟩, ⟨[t]⟩⟩ ∧ oOk X x = true ∧ ∃ k e, P.underlying t = some (.map k e) := by
  unfold cmp at hc
  split at hc <;> first
    | (rename_i heq; simp only [IOp.mlen.injEq] at heq; subst heq
       simp only [Bool.and_eq_true, Option.isSome_iff_exists] at hc
       obtain ⟨h1, ⟨k, el⟩, hel⟩ := hc
       refine ⟨_, _, rfl, h1, k, el, ?_⟩
       unfold mpT at hel
       split at hel <;> simp_all)
    | simp_all
omit hH hE in
theorem cmp_appm {op : Op} {sz bytes : Nat} {x y : O} (hc : cmp P op (.appm sz bytes x y) = true) : ∃ X Y t, op = .call ⟨.builtin .append, ⟨[X, Y]⟩, ⟨[t, t]⟩⟩ ∧ oOk X x = true ∧ oOk Y y = true ∧ (∃ e, AppTy P t e sz bytes) ∧ 0 < bytes := by
  unfold cmp at hc
  split at hc <;> first
    | (rename_i heq; simp only [IOp.appm.injEq] at heq; obtain ⟨rfl, rfl, rfl, rfl⟩ := heq
       simp only [Bool.and_eq_true, beq_iff_eq, decide_eq_true_eq] at hc
       obtain ⟨⟨⟨⟨h1, h2⟩, rfl⟩, h3⟩, h4⟩ := hc
       exact ⟨_, _, _, rfl, h1, h2, appTyOk_sound h3, h4⟩)
    | simp_all
theorem st_mlen {x : O} (hc : cmp P o.op (.mlen x) = true) (h : stp gl e hl nid (.mlen x) = some r) (hcc : r.c) : StepOk P gl K w0 hl fr g w nid r ((execOp a.eval o).run P w) := by
  obtain ⟨X, t, ho, h1, k, et, hm⟩ := cmp_mlen hc
  obtain ⟨cs, hrun⟩ := step_builtin (P := P) (w := w) (a := a) ho
  rw [hrun]
  simp only [stp] at h
  split at h
  · rename_i id c hx
    split at h
    case h_2 => simp at h
    rename_i es hob
    obtain rfl := Option.some.inj h
    obtain ⟨B, en, clock, hX, hB, hb, hlen, m1, m2, m3, m4, hrep, hmB⟩ := mapAt hH hE hob (evs_sound hH hE h1 hx hcc.1).1
    have := hcc.2
    simp only [maxLen] at this
    refine .pure hH rfl rfl (v := .int .i64 es.length) ?_ (.pv (.int ?_ ?_)) DV.nm_pv
    · simp [builtin, Builtin.len_, hX, run_underlying hm, goInt, MapKept.run_getObj_map hb, hlen]
    · simp only [IntKind.min, IntKind.signed, IntKind.bits, if_true]; omega
    · simp only [IntKind.max, IntKind.signed, IntKind.bits, if_true]; omega
  · rename_i c hx
    obtain rfl := Option.some.inj h
    have hX := (evs_sound hH hE h1 hx hcc).1
    generalize hv : a.eval X = v at hX
    cases hX
    refine .pure hH rfl rfl (v := .int .i64 0) ?_ (.pv (.int ?_ ?_)) DV.nm_pv
    · simp [builtin, Builtin.len_, hv, run_underlying hm, goInt]
    · decide
    · decide
  · simp at h
omit hH hE in
theorem bytesOf_some : ∀ {xs : List PV} {l : List UInt8}, bytesOf xs = some l → ∃ ns : List Int, xs = ns.map (.int .u8) ∧ l = ns.map fun n => UInt8.ofNat n.toNat
  | [], l, h => by simp [bytesOf] at h; subst h; exact ⟨[], rfl, rfl⟩
  | .int k n :: r, l, h => by
    cases k <;> simp only [bytesOf, reduceCtorEq, Option.map_eq_some_iff] at h
    obtain ⟨q, hq, rfl⟩ := h
    obtain ⟨ns, h1, h2⟩ := bytesOf_some hq
    exact ⟨n :: ns, by simp [h1], by simp [h2]⟩
  | .bool _ :: _, _, h | .str _ :: _, _, h | .lst _ _ :: _, _, h | .agg _ :: _, _, h => by simp [bytesOf] at h
omit hH hE in
theorem push_fold : ∀ (ns : List Int) (s : ByteArray), ns.foldl (fun r n => r.push (UInt8.ofNat n.toNat)) s = ⟨s.data ++ (ns.map fun n => UInt8.ofNat n.toNat).toArray⟩
  | [], s => by cases s; simp
  | n :: r, s => by
    rw [List.foldl_cons, push_fold r]
    cases s
    simp [ByteArray.push]
theorem st_b2s {x : O} (hc : cmp P o.op (.b2s x) = true) (h : stp gl e hl nid (.b2s x) = some r) (hcc : r.c) : StepOk P gl K w0 hl fr g w nid r ((execOp a.eval o).run P w) := by
  cases ho : o.op <;> simp only [ho, cmp, Bool.false_eq_true] at hc
  rename_i s d X
  simp only [Bool.and_eq_true] at hc
  obtain ⟨⟨h1, h2⟩, h3⟩ := hc
  split at h3
  case h_2 => simp at h3
  rename_i el hel
  simp only [beq_iff_eq] at h3
  simp only [stp] at h
  split at h
  case h_2 => simp at h
  rename_i dv c hx
  split at h
  case h_2 => simp at h
  rename_i xs hxs
  simp only [Option.map_eq_some_iff] at h
  obtain ⟨l, hl', rfl⟩ := h
  obtain ⟨ns, rfl, rfl⟩ := bytesOf_some hl'
  have hp := elems_sound hxs (evs_sound hH hE h1 hx hcc).1
  obtain ⟨A, n, cp, hA, _, hn, hnc, hmx, _⟩ := id hp.lst_inv
  have hsz : ns.length ≤ maxLen := by simp at hn; omega
  refine .pure hH rfl rfl (v := .string ⟨(ns.map fun n => UInt8.ofNat n.toNat).toArray⟩) ?_ (.pv (.str ?_)) DV.nm_pv
  · rw [hA] at hp
    obtain ⟨vals, l1, _, _, _, _, _, h4, h5, a1⟩ := hp.vals
    have hflat : flat (ns.map (PV.int .u8)) = ns.map (.int .u8) := by
      have : ∀ l : List Int, flat (l.map (PV.int .u8)) = l.map (.int .u8) := fun l => by
        induction l with
        | nil => rfl
        | cons a r ih => rw [List.map_cons, flat_cons, ih]; rfl
      exact this ns
    have hvals : vals = ns.map (Value.int .u8) := by
      apply List.ext_getElem?
      intro j
      have hl2 : vals.length = ns.length := by rw [l1]; simp at hn ⊢; omega
      rcases Nat.lt_or_ge j ns.length with hj | hj
      · have hv : vals[j]? = some vals[j] := List.getElem?_eq_getElem (by omega)
        have := h4 j (.int .u8 ns[j]) vals[j] (by rw [hflat]; simp [hj]) hv
        rw [hv]
        have hpi : ∀ {u : Value} {n : Int}, PRep g.m (.int .u8 n) u → u = .int .u8 n := fun h => by cases h; rfl
        rw [hpi this]
        simp [hj]
      · rw [List.getElem?_eq_none (by omega), List.getElem?_eq_none (by simp; omega)]
    have hu : P.underlying s = some (.slice el) := slE_some hel
    rcases A with _ | A
    · have hns : ns = [] := by
        rcases a1 with h | ⟨B, oo, h, _⟩
        · simpa using h
        · simp at h
      subst hns
      simp only [execOp, ho, hA, convert, Sem.run_bind, run_underlying hu, run_underlying (isStr_some h2), Result.andThen_ok, run_underlying (inK_some h3), Conv.bytesToString, Sem.run_pure]
      rfl
    · have hcells : ∀ j v, (ns.map (Value.int .u8))[j]? = some v → w.cell? (A.add j) = some v := by
        rcases a1 with h | ⟨B, oo, h, hv⟩
        · have : ns = [] := by simpa using h
          subst this; simp
        · obtain rfl := Option.some.inj h
          intro j v hj
          rw [addr_add]; exact hH.mem _ _ _ (hv j v (by rw [hvals]; exact hj))
      have hload : (loadCells A n).run P w = .ok (ns.map (Value.int .u8)).toArray w := by
        have := run_firstCells_some (P := P) w 1 n A n cp (ns.map (Value.int .u8)) (by simp at hn ⊢; omega) hcells
        simpa [Builtin.firstCells] using this
      simp only [execOp, ho, hA, convert, Sem.run_bind, run_underlying hu, run_underlying (isStr_some h2), Result.andThen_ok, run_underlying (inK_some h3), run_bytesToString w A n cp ns hload, Sem.run_pure, push_fold]
      congr 3
      simp
  · simp only [ByteArray.size, List.size_toArray, List.length_map]; exact hsz
theorem st_mkc {sz bytes : Nat} {x : O} (hc : cmp P o.op (.mkc sz bytes x) = true) (h : stp gl e hl nid (.mkc sz bytes x) = some r) (hcc : r.c) (hnid : fr nid) : StepOk P gl K w0 hl fr g w nid r ((execOp a.eval o).run P w) := by
  cases ho : o.op <;> simp only [ho, cmp, Bool.false_eq_true] at hc
  rename_i t L C
  simp only [Bool.and_eq_true, decide_eq_true_eq] at hc
  obtain ⟨⟨⟨⟨h0, h1⟩, h2⟩, h3⟩, h4⟩ := hc
  split at h0
  case h_2 => simp at h0
  obtain ⟨el, hel, inf, zv, hi, hs, hby, hz, hzs, hz1⟩ := appTyOk_sound h2
  simp only [stp] at h
  split at h
  case h_2 => simp at h
  rename_i kk m c hx
  obtain rfl := Option.some.inj h
  obtain ⟨hc1, hc2, hc3⟩ := hcc
  have hC := (evs_sound hH hE h1 hx hc1).1.int_inv.1
  obtain ⟨q, rfl⟩ := Int.eq_ofNat_of_zero_le hc2
  have hq : q * bytes ≤ 140737488355328 := by have h := hc3; rw [← Int.natCast_mul] at h; omega
  have hq' : q ≤ 140737488355328 := Nat.le_trans (Nat.le_mul_of_pos_right q h4) hq
  have hmx : q ≤ maxLen := by
    have : 0 < bytes := h4
    simp only [maxLen]; omega
  have hrun := run_make (P := P) w t el inf zv hel hi hz .i64 kk 0 q (Int.le_refl _) hc2 (by rw [hby, ← Int.natCast_mul, Nat.mul_comm]; omega) (by omega)
  have hlow := hH.low nid hnid
  simp only [Int.toNat_zero, Int.toNat_natCast] at hrun
  have hW : ∀ b, b < w.heap.size → (w.alloc (.cells (madeCells zv.cells (q * inf.size)) el)).heap[b]? = w.heap[b]? := fun b hb => by
    rw [Go.Proofs.YthocoandbiaoiaaDoorV.heap_alloc, if_neg (by omega)]
  have key := hH.setTip (id := nid) (sz := sz) (n := 0) (v := .slice (some ⟨w.heap.size, 0, none⟩) 0 q) (w' := w.alloc (.cells (madeCells zv.cells (q * inf.size)) el)) (m' := g.m) (.inl hnid) (.refl _) (fun _ _ _ => rfl) rfl rfl rfl (by simp)
    (fun b hb _ => hW b hb) (hH.alloc _).mem (fun _ _ _ _ => rfl)
    (fun B hB => by
      simp only [Owns, and_self, if_true] at hB
      obtain ⟨c1, hc1, _⟩ := hB
      simp only [Option.some.injEq, Value.slice.injEq, Addr.mk.injEq] at hc1
      omega)
    (by
      have hτ : ∀ j, 0 < j → (if nid = nid ∧ j = 0 then some (Value.slice (some ⟨w.heap.size, 0, none⟩) 0 q) else g.τ nid j) = none := fun j hj => by
        rw [if_neg (by omega)]; exact hlow.2 j
      by_cases hfull : q = 0
      · exact .inl ⟨some ⟨w.heap.size, 0, none⟩, by simp [hfull], hτ⟩
      · refine .inr ⟨w.heap.size, madeCells zv.cells (q * inf.size), el, q, by simp, by omega, by rw [Go.Proofs.YthocoandbiaoiaaDoorV.heap_alloc, if_pos rfl], by simp [madeCells, hs], hmx, fun v hv => ?_, fun o _ => hH.memnew o, hτ⟩
        simp only [madeCells, Array.toList_map, List.mem_map] at hv
        obtain ⟨i, _, rfl⟩ := hv
        have : 0 < zv.cells.size := by omega
        rw [getElem!_pos zv.cells _ (Nat.mod_lt _ this)]
        exact hz1 _ (by simp))
  have hp : PRep g.m (.lst sz []) (.slice (some ⟨w.heap.size, 0, none⟩) 0 q) := .lst [] rfl (Nat.zero_le _) hmx h3 (by simp) (by simp [flat]) (by simp [flat]) (by simp) (.inl rfl)
  refine ⟨.value (.slice (some ⟨w.heap.size, 0, none⟩) 0 q), _, w.alloc (.cells (madeCells zv.cells (q * inf.size)) el), _, ?_, .inl rfl, ?_, key.2, .own hp (by simp), ?_⟩
  · have hL : a.eval (.const (.int .i64 0)) = .int .i64 0 := rfl
    simp only [execOp, ho, hC, hL, Sem.run_bind, hrun, Result.andThen_ok, Sem.run_pure]
  · rw [frl_one]; simpa [upf] using key.1
  · rw [frl_one]; exact DV.nm_own.2 (by simp)
theorem st_appm {sz bytes : Nat} {x y : O} (hc : cmp P o.op (.appm sz bytes x y) = true) (h : stp gl e hl nid (.appm sz bytes x y) = some r) (hcc : r.c) (hnid : fr nid) : StepOk P gl K w0 hl fr g w nid r ((execOp a.eval o).run P w) := by
  obtain ⟨X, Y, t, ho, h1, h2, ⟨el, ht, i, z, hi, hs, hby, hz, hzs, hz1⟩, hpos⟩ := cmp_appm hc
  obtain ⟨cs, hrun⟩ := step_builtin (P := P) (w := w) (a := a) ho
  rw [hrun]
  simp only [stp] at h
  split at h
  case h_2 => simp at h
  rename_i d c b c' hx hy
  split at h
  case h_2 => simp at h
  rename_i sz' ys hel
  split at h
  case h_2 => simp at h
  rename_i how
  split at h
  case isFalse => simp at h
  rename_i he; subst he
  obtain rfl := Option.some.inj h
  obtain ⟨hc1, hc2, hne, hc3⟩ := hcc
  have hpy := elems_sound hel (evs_sound hH hE h2 hy hc2).1
  have hX : ∃ A, a.eval X = .slice A 0 0 := by
    have hX := (evs_sound hH hE h1 hx hc1).1
    unfold ownOf0 at how
    split at how
    · generalize hv : a.eval X = v at hX
      cases hX; exact ⟨_, rfl⟩
    · generalize hv : a.eval X = v at hX
      cases hX with
      | flit hp =>
        obtain ⟨_, _, _, hA, _, hn, _⟩ := hp.lst_inv
        simp only [Value.slice.injEq] at hA
        obtain ⟨_, h6, _⟩ := hA
        have h7 := hn.symm
        simp only [List.length_nil] at h7
        rw [h6, h7]; exact ⟨_, rfl⟩
    · simp at how
  obtain ⟨A, hX⟩ := hX
  obtain ⟨Z, k, cp, hY, _⟩ := id hpy.lst_inv
  rw [hY] at hpy
  obtain ⟨news, l2, hk, _, _, hszp, o2, h4, hfl, a2⟩ := hpy.vals
  obtain ⟨BX, oX, rfl, hZ⟩ : ∃ BX oX, Z = some ⟨BX, oX, none⟩ ∧ ∀ (j : Nat) (v : Value), news[j]? = some v → g.m BX (oX + j) = some v := by
    rcases a2 with h | h
    · exact absurd h hne
    · exact h
  have hk0 : 0 < k := by
    rw [← hk]; exact List.length_pos_iff.2 hne
  have memcell : ∀ j v, news[j]? = some v → w.cell? ((⟨BX, oX, none⟩ : Addr).add j) = some v := fun j v hv => by
    rw [addr_add]; exact hH.mem _ _ _ (hZ j v hv)
  have hb : k * bytes ≤ 140737488355328 := by rw [← hk]; exact hc3
  have hk63 : k ≤ 9223372036854775807 := by have := Nat.le_mul_of_pos_right k hpos; omega
  have hrun2 : ∃ cap, k ≤ cap ∧ cap ≤ maxLen ∧ (Builtin.append_ #[t, t] o.type #[.slice A 0 0, .slice (some ⟨BX, oX, none⟩) k cp]).run P w = .ok (.slice (some ⟨w.heap.size, 0, none⟩) k cap) (w.drew.alloc (.cells (news.toArray ++ Builtin.zeroCells z.cells (cap - k)) el)) := by
    rcases A with _ | A
    · exact ⟨_, grownCap_ge w k 0 el, grownCap_le_maxLen w k 0 el (by unfold maxLen; omega), run_append_nil (P := P) w t o.type el i z ht hi hz ⟨BX, oX, none⟩ k cp news (by rw [l2, hs]) memcell hk0 (by omega) (by rw [hby]; omega)⟩
    · have := run_append_grow (P := P) w t o.type el i z ht hi hz A 0 0 [] (by simp) (by simp) ⟨BX, oX, none⟩ k cp news (by rw [l2, hs]) memcell (by omega) (by omega) (growslice_fits (need := 0 + k) (old := 0) (bytes := i.bytes) (by omega) (by rw [hby, Nat.zero_add]; exact hb))
      simp only [Nat.zero_add] at this
      exact ⟨_, grownCap_ge w k 0 el, grownCap_le_maxLen w k 0 el (by unfold maxLen; omega), by simpa using this⟩
  obtain ⟨cap, hcap, hcmx, hrun2⟩ := hrun2
  have hlen : ((flat ys).map DV.pv).length = news.length := by
    rw [List.length_map, hfl, l2]
  show StepOk P gl K w0 hl fr g w.drew nid _ _
  refine StepOk.newBox (P := P) (w := w.drew) (hH := hH.drew) hnid (vs := news.toArray ++ Builtin.zeroCells z.cells (cap - k)) (el := el) (v := .slice (some ⟨w.heap.size, 0, none⟩) k cap) ?_ ?_ ?_ ?_ ?_ (fun g' h => ?_) (DV.nm_mrow.2 (by simp))
  · rw [hlen]; simp
  · intro v hv
    simp only [Array.toList_append, List.mem_append] at hv
    rcases hv with hv | hv
    · exact o2 v (by simpa using hv)
    · exact zeroCells_one hz1 _ v hv
  · intro j c v hcj hvj
    have hj : j < news.length := by have := (List.getElem?_eq_some_iff.1 hcj).1; omega
    rw [Array.getElem?_append_left (by simpa using hj)] at hvj
    rw [List.getElem?_map, Option.map_eq_some_iff] at hcj
    obtain ⟨u, hu, rfl⟩ := hcj
    exact .pv (h4 j u v hu (by simpa using hvj))
  · intro c hc
    obtain ⟨u, _, rfl⟩ := List.mem_map.1 hc
    exact DV.nm_pv
  · simp [builtin, hX, hY, hrun2]
  · rw [hk]; exact .mrow h hcap hcmx
theorem stp_sound {i : IOp} (hc : cmp P o.op i = true) (h : stp gl e hl nid i = some r) (hcc : r.c) (hnid : fr nid) : StepOk P gl K w0 hl fr g w nid r ((execOp a.eval o).run P w) := by
  cases i with
  | mov x => exact st_mov hH hE hc h hcc
  | land x y => exact st_land hH hE hc h hcc
  | lor x y => exact st_lor hH hE hc h hcc
  | pick c x y => exact st_pick hH hE hc h hcc
  | un op x => exact st_un hH hE hc h hcc
  | bin op x y => exact st_bin hH hE hc h hcc
  | isnil neg k x => exact st_isnil hH hE hc h hcc
  | beq neg x y => exact st_beq hH hE hc h hcc
  | conv k x => exact st_conv hH hE hc h hcc
  | idc x => exact st_idc hH hE hc h hcc
  | b2s x => exact st_b2s hH hE hc h hcc
  | alloc z => exact st_alloc hH hE hc h hnid
  | box k x => exact st_box hH hE hc h hcc hnid
  | build z ps => exact st_build hH hE hc h hcc
  | lit sz ps => exact st_lit hH hE hc h hcc
  | litm sz ps => exact st_litm hH hE hc h hcc hnid
  | load k x => exact st_load hH hE hc h hcc
  | store k x y => exact st_store hH hE hc h hcc
  | nilc x => exact st_nilc hH hE hc h hcc
  | fad off x => exact st_fad hH hE hc h hcc
  | fld off k x => exact st_fld hH hE hc h hcc
  | iad sz x i => exact st_iad hH hE hc h hcc
  | iada len sz x i => exact st_iada hH hE hc h hcc
  | ixs x i => exact st_ixs hH hE hc h hcc
  | mkf f a c => exact st_mkf hH hE hc h hcc
  | mks sz bytes z x => exact st_mks hH hE hc h hcc hnid
  | mkz bytes z x => exact st_mkz hH hE hc h hcc
  | cut sz x lo hi => exact st_cut hH hE hc h hcc
  | cut3 sz x lo hi mx => exact st_cut3 hH hE hc h hcc
  | cuts x lo hi => exact st_cuts hH hE hc h hcc
  | ext x i => exact st_ext hH hE hc h hcc
  | len x => exact st_len hH hE hc h hcc
  | lens x => exact st_lens hH hE hc h hcc
  | mx x y => exact st_mx hH hE hc h hcc
  | mn x y => exact st_mn hH hE hc h hcc
  | app sz bytes x y => exact st_app hH hE hc h hcc hnid
  | mkm => exact st_mkm hH hE hc h hnid
  | look kd z x k ok => exact st_look hH hE hc h hcc
  | mup kd x k v => exact st_mup hH hE hc h hcc
  | ment kd z x k => exact st_ment hH hE hc h hcc
  | mest x s v => exact st_mest hH hE hc h hcc
  | mlen x => exact st_mlen hH hE hc h hcc
  | mkc sz bytes x => exact st_mkc hH hE hc h hcc hnid
  | bad => obtain rfl := Option.some.inj h; exact hcc.elim
  | ceq neg kds x y => exact st_ceq hH hE hc h hcc
  | appm sz bytes x y => exact st_appm hH hE hc h hcc hnid
  | callr f xs => simp [stp] at h
  | callf f xs => simp [stp] at h
  | callt f xs => simp [stp] at h
  | callv f xs => simp [stp] at h
end
end Go.Proofs.YthocoandbiaoiaaDoorV

namespace Go.Proofs.YthocoandbiaoiaaDoorV
open Go
def PV.wf : PV → Prop
  | .int k n => k.min ≤ n ∧ n ≤ k.max
  | .bool _ => True
  | .str s => s.size ≤ maxLen
  | .lst _ xs => xs.length ≤ maxLen ∧ ∀ x ∈ xs.attach, PV.wf x.1
  | .agg cs => ∀ c ∈ cs.attach, PV.wf c.1
termination_by p => SizeOf.sizeOf p
decreasing_by all_goals (have := List.sizeOf_lt_of_mem (by first | exact x.2 | exact c.2); simp_wf; omega)
theorem PV.wf_int {k : IntKind} {n : Int} : (PV.int k n).wf ↔ k.min ≤ n ∧ n ≤ k.max := by rw [PV.wf]
theorem PV.wf_bool {b : Bool} : (PV.bool b).wf := by rw [PV.wf]; trivial
theorem PV.wf_str {s : ByteArray} : (PV.str s).wf ↔ s.size ≤ maxLen := by rw [PV.wf]
theorem PV.wf_lst {k : Nat} {xs : List PV} : (PV.lst k xs).wf ↔ xs.length ≤ maxLen ∧ ∀ x ∈ xs, x.wf := by
  rw [PV.wf]; exact ⟨fun h => ⟨h.1, fun x hx => h.2 ⟨x, hx⟩ (List.mem_attach _ _)⟩, fun h => ⟨h.1, fun x _ => h.2 x.1 x.2⟩⟩
theorem PV.wf_agg {xs : List PV} : (PV.agg xs).wf ↔ ∀ x ∈ xs, x.wf := by
  rw [PV.wf]; exact ⟨fun h x hx => h ⟨x, hx⟩ (List.mem_attach _ _), fun h x _ => h x.1 x.2⟩
theorem PRep.wf {m : Mem} {p : PV} {v : Value} (h : PRep m p v) : p.wf := by
  induction h with
  | int h0 h1 => exact PV.wf_int.2 ⟨h0, h1⟩
  | bool => exact PV.wf_bool
  | str h => exact PV.wf_str.2 h
  | agg hl _ _ ih =>
    refine PV.wf_agg.2 fun c hc => ?_
    obtain ⟨j, hj, rfl⟩ := List.getElem_of_mem hc
    exact ih j _ _ (List.getElem?_eq_getElem hj) (Array.getElem?_eq_getElem (by omega))
  | lst vs hn hnc hmx _ _ _ hl _ _ ih =>
    refine PV.wf_lst.2 ⟨by omega, fun x hx => ?_⟩
    rename_i xs _ _ _ _ _ _ _ _
    have hall : ∀ c ∈ flat xs, c.wf := fun c hc => by
      obtain ⟨j, hj, rfl⟩ := List.getElem_of_mem hc
      exact ih j _ _ (List.getElem?_eq_getElem hj) (List.getElem?_eq_getElem (by omega))
    have hsub : ∀ c ∈ x.cells, c.wf := fun c hc => hall c (List.mem_flatMap.2 ⟨x, hx, hc⟩)
    cases x with
    | agg cs => exact PV.wf_agg.2 hsub
    | int k n => exact hsub _ (by simp [PV.cells])
    | bool b => exact PV.wf_bool
    | str s => exact hsub _ (by simp [PV.cells])
    | lst k xs => exact hsub _ (by simp [PV.cells])
def DV.wf1 : DV → Prop
  | .pv p => p.wf
  | _ => True
def DV.wf : DV → Prop
  | .pv p => p.wf
  | .tup ds | .agg ds => ∀ d ∈ ds, d.wf1
  | _ => True
theorem DRep.wf1 {g : Gh} {d : DV} {v : Value} (h : DRep g d v) : d.wf1 := by
  cases d <;> simp only [DV.wf1]
  exact h.pv_inv.wf
theorem DRep.wf {g : Gh} {d : DV} {v : Value} (h : DRep g d v) : d.wf := by
  cases d <;> simp only [DV.wf]
  · exact h.pv_inv.wf
  · cases h with
    | agg hl _ hc =>
      intro d hd
      obtain ⟨j, hj, rfl⟩ := List.getElem_of_mem hd
      exact (hc j _ _ (List.getElem?_eq_getElem hj) (Array.getElem?_eq_getElem (by omega))).wf1
  · cases h with
    | tup hl hc =>
      intro d hd
      obtain ⟨j, hj, rfl⟩ := List.getElem_of_mem hd
      exact (hc j _ _ (List.getElem?_eq_getElem hj) (Array.getElem?_eq_getElem (by omega))).wf1
structure PCall (P : Program) (gl : Glob) (f : FuncId) (ds : List DV) (d : DV) : Prop where
  enter : ∀ vs w, (callFunc f vs).run P w = .ok (.enter f vs) w
  args : ∀ x ∈ ds, x.nm fun _ => False
  res : d.nm fun _ => False
  run : ∀ (K : Nat → Prop) (w0 : World) (g : Gh) (w : World) (vs : Array Value), SimH gl K w0 (fun _ => none) (fun _ => True) g w → ds.length = vs.size →
    (∀ (j : Nat) (d : DV) (v : Value), ds[j]? = some d → vs[j]? = some v → DRep g d v) →
    Calls P f vs w fun e w' => ∃ v g', e = .returned v ∧ DRep g' d v ∧ SimH gl K w0 (fun _ => none) (fun _ => True) g' w' ∧ GLe K (fun _ => False) g g'
section
variable {P : Program} {gl : Glob} {K : Nat → Prop} {w0 : World} {hl : Nat → Option Ob} {fr : Nat → Prop} {g : Gh} {w : World}
theorem PCall.framed {f : FuncId} {ds : List DV} {d : DV} (hc : PCall P gl f ds d) (hH : SimH gl K w0 hl fr g w) {vs : Array Value} (hl' : ds.length = vs.size)
    (ha : ∀ (j : Nat) (d : DV) (v : Value), ds[j]? = some d → vs[j]? = some v → DRep g d v) :
    Calls P f vs w fun e w' => ∃ v g', e = .returned v ∧ DRep g' d v ∧ SimH gl K w0 hl fr g' w' ∧ GLe K (fun i => ¬ fr i) g g' := by
  let g0 : Gh := { m := g.m, μ := fun _ => none, τ := fun _ _ => none }
  have hg0 : GLe K (fun _ => False) g g0 := ⟨.refl _, fun _ _ _ => rfl, fun _ h => h.elim, fun _ h => h.elim⟩
  have hH0 : SimH gl (fun b => b < w.heap.size) w (fun _ => none) (fun _ => True) g0 w :=
    { os := rfl, tape := rfl, output := rfl, size := Nat.le_refl _, kept := fun _ _ => rfl, old := fun _ h => h, mem := hH.mem, ids := fun _ _ h => by simp at h
      low := fun _ _ => ⟨rfl, fun _ => rfl⟩, obj := fun _ _ h => by simp at h, nm := fun _ _ h => by simp at h, inj := fun _ _ _ _ _ h => by simp at h, off := fun _ _ _ h => by simp at h, glo := hH.glo }
  refine (hc.run _ w g0 w vs hH0 hl' fun j d v hd hv => (ha j d v hd hv).mono hg0 (hc.args d (List.mem_of_getElem? hd))).mono ?_
  rintro e w' ⟨v, g1, rfl, hd, h1, hg⟩
  let g' : Gh := { m := g1.m, μ := g.μ, τ := g.τ }
  have hold : ∀ b, K b → b < w.heap.size := fun b hb => Nat.lt_of_lt_of_le (hH.old b hb) hH.size
  have hgg : GLe K (fun i => ¬ fr i) g g' := ⟨hg.m, fun b hb o => hg.fix b (hold b hb) o, fun _ _ => rfl, fun _ _ _ _ h => h⟩
  have hg1 : GLe K (fun _ => False) g1 g' := ⟨.refl _, fun _ _ _ => rfl, fun _ h => h.elim, fun _ h => h.elim⟩
  refine ⟨v, g', rfl, hd.mono hg1 hc.res, ?_, hgg⟩
  exact
    { os := h1.os.trans hH.os, tape := h1.tape.trans hH.tape, output := h1.output.trans hH.output, size := Nat.le_trans hH.size h1.size
      kept := fun b hb => (h1.kept b (hold b hb)).trans (hH.kept b hb), old := hH.old, mem := h1.mem, ids := hH.ids, low := hH.low
      obj := fun i o hi => (hH.obj i o hi).mono (p := fun i => ¬ fr i) hgg (hH.ids i o hi) (hH.nm i o hi) rfl fun B hB => by
        have hlt := ((hH.obj i o hi).owns hB).1
        exact ⟨h1.kept B hlt, fun x => hg.fix B hlt x⟩
      nm := hH.nm, inj := fun i j o o' B h2 h3 h4 h5 => hH.inj i j o o' B h2 h3 (by cases o <;> exact h4) (by cases o' <;> exact h5)
      off := fun i o B h2 h3 => hH.off i o B h2 (by cases o <;> exact h3)
      glo := fun b cs hb j c hc => let ⟨k1, u, k2, k3⟩ := hH.glo b cs hb j c hc; ⟨k1, u, hg.m _ _ _ k2, k3.mono hg.m⟩ }
end
def DV.norm (d : DV) : DV :=
  match toPV d with
  | some p => .pv p
  | none => d
theorem norm_sound {g : Gh} {d : DV} {v : Value} (h : DRep g d v) : DRep g d.norm v := by
  unfold DV.norm
  split
  · exact .pv (toPV_sound (by assumption) h)
  · exact h
end Go.Proofs.YthocoandbiaoiaaDoorV

namespace Go.Proofs.YthocoandbiaoiaaDoorV
open Go
theorem Ob.nm_mono {p q : Nat → Prop} (hpq : ∀ i, p i → q i) {o : Ob} (h : o.nm p) : o.nm q := by
  cases o with
  | box cs => exact fun c hc => DV.nm_mono hpq c (h c hc)
  | tip _ _ => trivial
  | mp es => exact fun c hc => DV.nm_mono hpq c.2 (h c hc)
  | lrec l r st e => exact fun i d hi => DV.nm_mono hpq d (h i d hi)
def DV.ren (ρ : Nat → Nat) : DV → DV
  | .own id sz xs => .own (ρ id) sz xs
  | .mrow id a b d => .mrow (ρ id) a b d
  | .ptr id o => .ptr (ρ id) o
  | .mref id => .mref (ρ id)
  | .stmp id i => .stmp (ρ id) i
  | .agg cs => .agg (cs.attach.map fun x => DV.ren ρ x.1)
  | .tup cs => .tup (cs.attach.map fun x => DV.ren ρ x.1)
  | .fn f a c => .fn f (a.attach.map fun x => DV.ren ρ x.1) (c.attach.map fun x => DV.ren ρ x.1)
  | .ifc t d => .ifc t (DV.ren ρ d)
  | .gd b d => .gd b (DV.ren ρ d)
  | .pv p => .pv p
  | .nilS s => .nilS s
  | .flit s xs => .flit s xs
  | .eptr cs => .eptr cs
  | .nilP => .nilP
  | .nilF => .nilF
  | .nilM => .nilM
  | .nilI => .nilI
  | .junk => .junk
termination_by d => SizeOf.sizeOf d
decreasing_by all_goals (first | (have := List.sizeOf_lt_of_mem x.2; simp_wf; omega) | (simp_wf; omega) | simp_wf)
section
variable {ρ : Nat → Nat}
@[simp] theorem ren_own {id sz xs} : (DV.own id sz xs).ren ρ = .own (ρ id) sz xs := by rw [DV.ren]
@[simp] theorem ren_mrow {id a b d} : (DV.mrow id a b d).ren ρ = .mrow (ρ id) a b d := by rw [DV.ren]
@[simp] theorem ren_ptr {id o} : (DV.ptr id o).ren ρ = .ptr (ρ id) o := by rw [DV.ren]
@[simp] theorem ren_mref {id} : (DV.mref id).ren ρ = .mref (ρ id) := by rw [DV.ren]
@[simp] theorem ren_stmp {id i} : (DV.stmp id i).ren ρ = .stmp (ρ id) i := by rw [DV.ren]
@[simp] theorem ren_agg {cs} : (DV.agg cs).ren ρ = .agg (cs.map (·.ren ρ)) := by rw [DV.ren]; simp
@[simp] theorem ren_tup {cs} : (DV.tup cs).ren ρ = .tup (cs.map (·.ren ρ)) := by rw [DV.ren]; simp
@[simp] theorem ren_fn {f a c} : (DV.fn f a c).ren ρ = .fn f (a.map (·.ren ρ)) (c.map (·.ren ρ)) := by rw [DV.ren]; simp
@[simp] theorem ren_ifc {t d} : (DV.ifc t d).ren ρ = .ifc t (d.ren ρ) := by rw [DV.ren]
@[simp] theorem ren_gd {t d} : (DV.gd t d).ren ρ = .gd t (d.ren ρ) := by rw [DV.ren]
@[simp] theorem ren_pv {p} : (DV.pv p).ren ρ = .pv p := by rw [DV.ren]
@[simp] theorem ren_nilS {p} : (DV.nilS p).ren ρ = .nilS p := by rw [DV.ren]
@[simp] theorem ren_flit {p q} : (DV.flit p q).ren ρ = .flit p q := by rw [DV.ren]
@[simp] theorem ren_eptr {p} : (DV.eptr p).ren ρ = .eptr p := by rw [DV.ren]
@[simp] theorem ren_nilP : DV.nilP.ren ρ = .nilP := by rw [DV.ren]
@[simp] theorem ren_nilF : DV.nilF.ren ρ = .nilF := by rw [DV.ren]
@[simp] theorem ren_nilM : DV.nilM.ren ρ = .nilM := by rw [DV.ren]
@[simp] theorem ren_nilI : DV.nilI.ren ρ = .nilI := by rw [DV.ren]
@[simp] theorem ren_junk : DV.junk.ren ρ = .junk := by rw [DV.ren]
end
structure Ren (p : Nat → Prop) (ρ : Nat → Nat) (g0 g : Gh) : Prop where
  m : g0.m = g.m
  μ : ∀ i, p i → g0.μ i = g.μ (ρ i)
  τ : ∀ i, p i → g0.τ i = g.τ (ρ i)
theorem DRep.ren {p : Nat → Prop} {ρ : Nat → Nat} {g0 g : Gh} (hr : Ren p ρ g0 g) {d : DV} {v : Value} (h : DRep g0 d v) (hp : d.nm p) : DRep g (d.ren ρ) v := by
  have hlist : ∀ {cs : List DV} {vs : Array Value}, (∀ c ∈ cs, c.nm p) → (∀ (j : Nat) (c : DV) (v : Value), cs[j]? = some c → vs[j]? = some v → c.nm p → DRep g (c.ren ρ) v) →
      ∀ (j : Nat) (c : DV) (v : Value), (cs.map (·.ren ρ))[j]? = some c → vs[j]? = some v → DRep g c v := by
    intro cs vs h1 h2 j c v hc hv
    rw [List.getElem?_map, Option.map_eq_some_iff] at hc
    obtain ⟨c', hc', rfl⟩ := hc
    exact h2 j c' v hc' hv (h1 c' (List.mem_of_getElem? hc'))
  induction h with
  | pv h => rw [ren_pv]; exact .pv (hr.m ▸ h)
  | agg hl ho _ ih => rw [ren_agg]; exact .agg (by simpa using hl) ho (hlist (DV.nm_agg.1 hp) ih)
  | tup hl _ ih => rw [ren_tup]; exact .tup (by simpa using hl) (hlist (DV.nm_tup.1 hp) ih)
  | nilS => rw [ren_nilS]; exact .nilS
  | flit h => rw [ren_flit]; exact .flit (hr.m ▸ h)
  | own h ht => rw [ren_own]; exact .own (hr.m ▸ h) (by rw [← hr.τ _ (DV.nm_own.1 hp)]; exact ht)
  | mrow h hc hm => rw [ren_mrow]; exact .mrow ((hr.μ _ (DV.nm_mrow.1 hp)).symm.trans h) hc hm
  | ptr h => rw [ren_ptr]; exact .ptr ((hr.μ _ (DV.nm_ptr.1 hp)).symm.trans h)
  | eptr h => rw [ren_eptr]; exact .eptr (hr.m ▸ h)
  | nilP => rw [ren_nilP]; exact .nilP
  | fn ha hc _ _ iha ihc =>
    rw [ren_fn]
    have := DV.nm_fn.1 hp
    exact .fn (by simpa using ha) (by simpa using hc) (hlist this.1 iha) (hlist this.2 ihc)
  | nilF => rw [ren_nilF]; exact .nilF
  | mref h => rw [ren_mref]; exact .mref ((hr.μ _ (DV.nm_mref.1 hp)).symm.trans h)
  | stmp h => rw [ren_stmp]; exact .stmp (by rw [← hr.τ _ (DV.nm_stmp.1 hp)]; exact h)
  | nilM => rw [ren_nilM]; exact .nilM
  | ifc _ ih => rw [ren_ifc]; rw [DV.nm] at hp; exact .ifc (ih hp)
  | nilI => rw [ren_nilI]; exact .nilI
  | gd _ hu ih => rw [ren_gd]; rw [DV.nm] at hp; exact .gd (fun h => ih h hp) hu
  | junk => rw [ren_junk]; exact .junk
theorem DRep.unren {p : Nat → Prop} {ρ : Nat → Nat} {g0 g : Gh} (hr : Ren p ρ g0 g) : ∀ (d : DV) (v : Value), d.nm p → DRep g (d.ren ρ) v → DRep g0 d v
  | .pv x, v, _, h => by rw [ren_pv] at h; exact .pv (hr.m ▸ h.pv_inv)
  | .agg cs, v, hp, h => by
    rw [ren_agg] at h
    cases h with
    | agg hl ho hc =>
      exact .agg (by simpa using hl) ho fun j c u hj hu => DRep.unren hr c u (DV.nm_agg.1 hp c (List.mem_of_getElem? hj)) (hc j _ u (by rw [List.getElem?_map, hj]; rfl) hu)
  | .tup cs, v, hp, h => by
    rw [ren_tup] at h
    cases h with
    | tup hl hc =>
      exact .tup (by simpa using hl) fun j c u hj hu => DRep.unren hr c u (DV.nm_tup.1 hp c (List.mem_of_getElem? hj)) (hc j _ u (by rw [List.getElem?_map, hj]; rfl) hu)
  | .nilS s, v, _, h => by rw [ren_nilS] at h; cases h; exact .nilS
  | .flit s xs, v, _, h => by rw [ren_flit] at h; cases h with | flit h => exact .flit (hr.m ▸ h)
  | .own id s xs, v, hp, h => by rw [ren_own] at h; cases h with | own h ht => exact .own (hr.m ▸ h) (by rw [hr.τ _ (DV.nm_own.1 hp)]; exact ht)
  | .mrow id a b e, v, hp, h => by rw [ren_mrow] at h; cases h with | mrow h hc hm => exact .mrow ((hr.μ _ (DV.nm_mrow.1 hp)).trans h) hc hm
  | .ptr id o, v, hp, h => by rw [ren_ptr] at h; cases h with | ptr h => exact .ptr ((hr.μ _ (DV.nm_ptr.1 hp)).trans h)
  | .eptr cs, v, _, h => by rw [ren_eptr] at h; cases h with | eptr h => exact .eptr (hr.m ▸ h)
  | .nilP, v, _, h => by rw [ren_nilP] at h; cases h; exact .nilP
  | .fn f a c, v, hp, h => by
    rw [ren_fn] at h
    have hp := DV.nm_fn.1 hp
    cases h with
    | fn ha hc ha' hc' =>
      exact .fn (by simpa using ha) (by simpa using hc) (fun j d u hj hu => DRep.unren hr d u (hp.1 d (List.mem_of_getElem? hj)) (ha' j _ u (by rw [List.getElem?_map, hj]; rfl) hu))
        fun j d u hj hu => DRep.unren hr d u (hp.2 d (List.mem_of_getElem? hj)) (hc' j _ u (by rw [List.getElem?_map, hj]; rfl) hu)
  | .nilF, v, _, h => by rw [ren_nilF] at h; cases h; exact .nilF
  | .mref id, v, hp, h => by rw [ren_mref] at h; cases h with | mref h => exact .mref ((hr.μ _ (DV.nm_mref.1 hp)).trans h)
  | .stmp id i, v, hp, h => by rw [ren_stmp] at h; cases h with | stmp h => exact .stmp (by rw [hr.τ _ (DV.nm_stmp.1 hp)]; exact h)
  | .nilM, v, _, h => by rw [ren_nilM] at h; cases h; exact .nilM
  | .ifc t d, v, hp, h => by rw [ren_ifc] at h; rw [DV.nm] at hp; cases h with | ifc h => exact .ifc (DRep.unren hr d _ hp h)
  | .nilI, v, _, h => by rw [ren_nilI] at h; cases h; exact .nilI
  | .gd b d, v, hp, h => by rw [ren_gd] at h; rw [DV.nm] at hp; cases h with | gd h hu => exact .gd (fun hb => DRep.unren hr d _ hp (h hb)) hu
  | .junk, v, _, h => .junk
termination_by d => SizeOf.sizeOf d
decreasing_by all_goals (first | (have := List.sizeOf_lt_of_mem (List.mem_of_getElem? hj); simp_wf; omega) | (simp_wf; omega) | simp_wf)
def Ob.ren (ρ : Nat → Nat) : Ob → Ob
  | .box cs => .box (cs.map (·.ren ρ))
  | .tip s n => .tip s n
  | .mp es => .mp (es.map fun x => (x.1, x.2.ren ρ))
  | .lrec l r st e => .lrec l r st (e.map fun x => (x.1, x.2.ren ρ))
theorem Owns.ren {p : Nat → Prop} {ρ : Nat → Nat} {g0 g : Gh} (hr : Ren p ρ g0 g) {i : Nat} (hi : p i) {B : Nat} {o : Ob} : Owns g (ρ i) B (o.ren ρ) ↔ Owns g0 i B o := by
  cases o <;> simp only [Owns, Ob.ren, hr.μ i hi, hr.τ i hi]
theorem ORep.ren {p : Nat → Prop} {ρ : Nat → Nat} {g0 g : Gh} (hr : Ren p ρ g0 g) {i : Nat} (hi : p i) {w : World} {o : Ob} (hn : o.nm p) (h : ORep g0 w i o) : ORep g w (ρ i) (o.ren ρ) := by
  cases o with
  | box cs =>
    obtain ⟨B, vs, e, h1, h2, h3, h4, h5, h6⟩ := h
    refine ⟨B, vs, e, (hr.μ i hi).symm.trans h1, h2, by simpa using h3, h4, fun j c v hc hv => ?_, fun o => hr.m ▸ h6 o⟩
    rw [List.getElem?_map, Option.map_eq_some_iff] at hc
    obtain ⟨c', hc', rfl⟩ := hc
    exact (h5 j c' v hc' hv).ren hr (hn c' (List.mem_of_getElem? hc'))
  | tip s n => 
    have ht := hr.τ i hi
    have hm := hr.m
    simp only [ORep, Ob.ren] at h ⊢
    rw [← ht, ← hm]; exact h
  | mp es =>
    obtain ⟨B, en, cl, h1, h2, h3, h3a, h3b, h3c, h3d, h4, h5⟩ := h
    refine ⟨B, en, cl, (hr.μ i hi).symm.trans h1, h2, by simpa using h3, h3a, h3b, fun j y hy => by rw [← hr.τ i hi]; exact h3c j y hy, fun j hj => by rw [← hr.τ i hi]; exact h3d j hj, fun j x y hx hy => ?_, fun o => hr.m ▸ h5 o⟩
    rw [List.getElem?_map, Option.map_eq_some_iff] at hx
    obtain ⟨x', hx', rfl⟩ := hx
    have := h4 j x' y hx' hy
    exact ⟨hr.m ▸ this.1, this.2.ren hr (hn x' (List.mem_of_getElem? hx'))⟩
  | lrec l r st e =>
    obtain ⟨h1, ⟨tmps, h2, h3, h4⟩, h5⟩ := h
    refine ⟨(hr.μ i hi).symm.trans h1, ⟨tmps, h2, h3, fun j d hj => ?_⟩, fun o => hr.m ▸ h5 o⟩
    rw [eget_map, Option.map_eq_some_iff] at hj
    obtain ⟨d', hj', rfl⟩ := hj
    obtain ⟨v, k1, k2⟩ := h4 j d' hj'
    exact ⟨v, k1, k2.ren hr (hn j d' hj')⟩
theorem ORep.unren {p : Nat → Prop} {ρ : Nat → Nat} {g0 g : Gh} (hr : Ren p ρ g0 g) {i : Nat} (hi : p i) {w : World} {o : Ob} (hn : o.nm p) (h : ORep g w (ρ i) (o.ren ρ)) : ORep g0 w i o := by
  cases o with
  | box cs =>
    obtain ⟨B, vs, e, h1, h2, h3, h4, h5, h6⟩ := h
    refine ⟨B, vs, e, (hr.μ i hi).trans h1, h2, by simpa using h3, h4, fun j c v hc hv => ?_, fun o => hr.m ▸ h6 o⟩
    exact DRep.unren hr c v (hn c (List.mem_of_getElem? hc)) (h5 j _ v (by rw [List.getElem?_map, hc]; rfl) hv)
  | tip s n =>
    have ht := hr.τ i hi
    have hm := hr.m
    simp only [ORep, Ob.ren] at h ⊢
    rw [ht, hm]; exact h
  | mp es =>
    obtain ⟨B, en, cl, h1, h2, h3, h3a, h3b, h3c, h3d, h4, h5⟩ := h
    refine ⟨B, en, cl, (hr.μ i hi).trans h1, h2, by simpa using h3, h3a, h3b, fun j y hy => by rw [hr.τ i hi]; exact h3c j y hy, fun j hj => by rw [hr.τ i hi]; exact h3d j hj, fun j x y hx hy => ?_, fun o => hr.m ▸ h5 o⟩
    have := h4 j (x.1, x.2.ren ρ) y (by rw [List.getElem?_map, hx]; rfl) hy
    exact ⟨hr.m ▸ this.1, DRep.unren hr x.2 _ (hn x (List.mem_of_getElem? hx)) this.2⟩
  | lrec l r st e =>
    obtain ⟨h1, ⟨tmps, h2, h3, h4⟩, h5⟩ := h
    refine ⟨(hr.μ i hi).trans h1, ⟨tmps, h2, h3, fun j d hj => ?_⟩, fun o => hr.m ▸ h5 o⟩
    obtain ⟨v, k1, k2⟩ := h4 j (d.ren ρ) (by rw [eget_map, hj]; rfl)
    exact ⟨v, k1, DRep.unren hr d v (hn j d hj) k2⟩
end Go.Proofs.YthocoandbiaoiaaDoorV

namespace Go.Proofs.YthocoandbiaoiaaDoorV
open Go
abbrev WF (ro : Option Nat) : Fence := { Fence.wide with round := ro }
def runFn (P : Program) (f : Fn) (vs : Array Value) (w : World) (R : Ending → World → Prop) : Prop :=
  match f with
  | .func f => Calls P f vs w R
  | .yield l => ∃ fn tmps assign body, (Instr.yield l vs).run P w = .ok (.round l fn tmps assign body) w ∧ RoundIn Fence.wide 0 P l fn tmps assign body w R
  | _ => False
theorem runFn.mono {P : Program} {f : Fn} {vs : Array Value} {w : World} {R R' : Ending → World → Prop} (h : runFn P f vs w R) (hr : ∀ e w', R e w' → R' e w') : runFn P f vs w R' := by
  unfold runFn at h ⊢
  split at h
  · exact Calls.mono h hr
  · obtain ⟨fn, tmps, asg, body, h1, h2⟩ := h
    exact ⟨fn, tmps, asg, body, h1, h2.mono hr⟩
  · exact h.elim
structure ACall (P : Program) (gl : Glob) (f : Fn) (n : Nat) (ds : List DV) (H : Heap) (d : DV) (H' : Heap) (n' : Nat) : Prop where
  enter : ∀ fid, f = .func fid → ∀ vs w, (callFunc fid vs).run P w = .ok (.enter fid vs) w
  isFn : (∃ fid, f = .func fid) ∨ ∃ l, f = .yield l
  le : n ≤ n'
  args : ∀ x ∈ ds, x.nm fun i => i < n
  obs : ∀ i o, hget H i = some o → i < n ∧ o.nm fun i => i < n
  res : d.nm fun i => i < n'
  obs' : ∀ i o, hget H' i = some o → i < n' ∧ o.nm fun i => i < n'
  run : ∀ (K : Nat → Prop) (w0 : World) (g : Gh) (w : World) (vs : Array Value), SimH gl K w0 (hget H) (fun i => n ≤ i) g w → ds.length = vs.size →
    (∀ (j : Nat) (d : DV) (v : Value), ds[j]? = some d → vs[j]? = some v → DRep g d v) →
    runFn P f vs w fun e w' => ∃ v g', e = .returned v ∧ DRep g' d v ∧ SimH gl K w0 (hget H') (fun i => n' ≤ i) g' w' ∧ GLe K (fun i => i < n) g g'
theorem DV.nm_ren {p q : Nat → Prop} {ρ : Nat → Nat} (hpq : ∀ i, p i → q (ρ i)) : ∀ (d : DV), d.nm p → (d.ren ρ).nm q
  | .pv x, _ => by rw [ren_pv]; exact DV.nm_pv
  | .agg cs, h => by
    rw [ren_agg, DV.nm_agg]; rw [DV.nm_agg] at h
    intro c hc
    obtain ⟨c', hc', rfl⟩ := List.mem_map.1 hc
    exact DV.nm_ren hpq c' (h c' hc')
  | .tup cs, h => by
    rw [ren_tup, DV.nm_tup]; rw [DV.nm_tup] at h
    intro c hc
    obtain ⟨c', hc', rfl⟩ := List.mem_map.1 hc
    exact DV.nm_ren hpq c' (h c' hc')
  | .fn f a b, h => by
    rw [ren_fn, DV.nm_fn]; rw [DV.nm_fn] at h
    refine ⟨fun c hc => ?_, fun c hc => ?_⟩
    · obtain ⟨c', hc', rfl⟩ := List.mem_map.1 hc
      exact DV.nm_ren hpq c' (h.1 c' hc')
    · obtain ⟨c', hc', rfl⟩ := List.mem_map.1 hc
      exact DV.nm_ren hpq c' (h.2 c' hc')
  | .own id s xs, h => by rw [ren_own]; exact DV.nm_own.2 (hpq _ (DV.nm_own.1 h))
  | .mrow id a b e, h => by rw [ren_mrow]; exact DV.nm_mrow.2 (hpq _ (DV.nm_mrow.1 h))
  | .ptr id o, h => by rw [ren_ptr]; exact DV.nm_ptr.2 (hpq _ (DV.nm_ptr.1 h))
  | .stmp id i, h => by rw [ren_stmp]; exact DV.nm_stmp.2 (hpq _ (DV.nm_stmp.1 h))
  | .mref id, h => by rw [ren_mref]; exact DV.nm_mref.2 (hpq _ (DV.nm_mref.1 h))
  | .ifc t d, h => by rw [ren_ifc, DV.nm]; rw [DV.nm] at h; exact DV.nm_ren hpq d h
  | .gd b d, h => by rw [ren_gd, DV.nm]; rw [DV.nm] at h; exact DV.nm_ren hpq d h
  | .nilS s, _ => by rw [ren_nilS]; exact nm_nilS
  | .flit s xs, _ => by rw [ren_flit]; exact DV.nm_flit
  | .eptr cs, _ => by rw [ren_eptr]; exact DV.nm_eptr
  | .nilP, _ => by rw [ren_nilP]; exact nm_nilP
  | .nilF, _ => by rw [ren_nilF]; exact nm_nilF
  | .nilM, _ => by rw [ren_nilM]; exact nm_nilM
  | .nilI, _ => by rw [ren_nilI]; exact nm_nilI
  | .junk, _ => by rw [ren_junk]; exact DV.nm_junk
termination_by d => SizeOf.sizeOf d
decreasing_by all_goals (first | (have := List.sizeOf_lt_of_mem hc'; simp_wf; omega) | (simp_wf; omega) | simp_wf)
theorem Ob.nm_ren {p q : Nat → Prop} {ρ : Nat → Nat} (hpq : ∀ i, p i → q (ρ i)) {o : Ob} (h : o.nm p) : (o.ren ρ).nm q := by
  cases o with
  | box cs =>
    intro c hc
    obtain ⟨c', hc', rfl⟩ := List.mem_map.1 hc
    exact DV.nm_ren hpq c' (h c' hc')
  | tip _ _ => trivial
  | mp es =>
    intro c hc
    obtain ⟨c', hc', rfl⟩ := List.mem_map.1 hc
    exact DV.nm_ren hpq c'.2 (h c' hc')
  | lrec l r st e =>
    intro j d hj
    rw [eget_map, Option.map_eq_some_iff] at hj
    obtain ⟨d', hj', rfl⟩ := hj
    exact DV.nm_ren hpq d' (h j d' hj')
def joinH (ι : Nat → Option Nat) (ρ : Nat → Nat) (H' : Heap) (hl : Nat → Option Ob) : Nat → Option Ob := fun j => match ι j with
  | some i => (hget H' i).map (Ob.ren ρ)
  | none => hl j
section
variable {P : Program} {gl : Glob} {K : Nat → Prop} {w0 : World} {hl : Nat → Option Ob} {fr : Nat → Prop} {g : Gh} {w : World}
theorem ACall.framed {f : Fn} {n n' : Nat} {ds : List DV} {H H' : Heap} {d : DV} (hc : ACall P gl f n ds H d H' n') {ρ : Nat → Nat} {ι : Nat → Option Nat} (hι : ∀ i j, ι j = some i ↔ (i < n' ∧ ρ i = j))
    (hold : ∀ i, i < n → ¬ fr (ρ i)) (hnew : ∀ i, n ≤ i → i < n' → fr (ρ i)) (hH : SimH gl K w0 hl fr g w) (hob : ∀ i o, hget H i = some o → hl (ρ i) = some (o.ren ρ)) {vs : Array Value} (hlen : ds.length = vs.size)
    (ha : ∀ (j : Nat) (d : DV) (v : Value), ds[j]? = some d → vs[j]? = some v → DRep g (d.ren ρ) v) :
    runFn P f vs w fun e w' => ∃ v g', e = .returned v ∧ DRep g' (d.ren ρ) v ∧ SimH gl K w0 (joinH ι ρ H' hl) (fun j => fr j ∧ ι j = none) g' w' ∧ GLe K (fun i => ¬ fr i) g g' := by
  have hle := hc.le
  let g0 : Gh := { m := g.m, μ := fun i => if i < n then g.μ (ρ i) else none, τ := fun i => if i < n then g.τ (ρ i) else fun _ => none }
  have hr0 : Ren (fun i => i < n) ρ g0 g := ⟨rfl, fun i hi => by simp [g0, hi], fun i hi => by simp [g0, hi]⟩
  have hinj : ∀ i i', i < n' → i' < n' → ρ i = ρ i' → i = i' := fun i i' h1 h2 h3 => by
    have e1 := (hι i (ρ i)).2 ⟨h1, rfl⟩
    have e2 := (hι i' (ρ i)).2 ⟨h2, h3.symm⟩
    rw [e1] at e2; exact Option.some.inj e2
  let K' : Nat → Prop := fun b => b < w.heap.size ∧ ∀ i o, hget H i = some o → ¬ Owns g0 i b o
  have hH0 : SimH gl K' w (hget H) (fun i => n ≤ i) g0 w :=
    { os := rfl, tape := rfl, output := rfl, size := Nat.le_refl _, kept := fun _ _ => rfl, old := fun b hb => hb.1, mem := hH.mem
      ids := fun i o hi hf => by have := (hc.obs i o hi).1; omega
      low := fun i hf => by
        have : ¬ i < n := by omega
        simp [g0, this]
      obj := fun i o hi => ORep.unren hr0 (hc.obs i o hi).1 (hc.obs i o hi).2 (hH.obj _ _ (hob i o hi))
      nm := fun i o hi => Ob.nm_mono (fun _ h => by omega) (hc.obs i o hi).2
      inj := fun i j o o' B h1 h2 h3 h4 => by
        have hi := (hc.obs i o h1).1
        have hj := (hc.obs j o' h2).1
        exact hinj i j (by omega) (by omega) (hH.inj _ _ _ _ B (hob i o h1) (hob j o' h2) ((Owns.ren hr0 hi).2 h3) ((Owns.ren hr0 hj).2 h4))
      off := fun i o B h1 h2 hK => hK.2 i o h1 h2
      glo := hH.glo }
  refine (hc.run K' w g0 w vs hH0 hlen fun j d v hd hv => DRep.unren hr0 d v (hc.args d (List.mem_of_getElem? hd)) (ha j d v hd hv)).mono ?_
  rintro e w1 ⟨v, g1, rfl, hd, h1, hg⟩
  let g' : Gh := { m := g1.m, μ := fun j => match ι j with | some i => g1.μ i | none => g.μ j, τ := fun j => match ι j with | some i => g1.τ i | none => g.τ j }
  have hιρ : ∀ i, i < n' → ι (ρ i) = some i := fun i hi => (hι i _).2 ⟨hi, rfl⟩
  have hr1 : Ren (fun i => i < n') ρ g1 g' := ⟨rfl, fun i hi => by simp [g', hιρ i hi], fun i hi => by simp [g', hιρ i hi]⟩
  have hnone : ∀ j, ι j = none → g'.μ j = g.μ j ∧ g'.τ j = g.τ j := fun j hj => by simp [g', hj]
  -- whatever nobody else owns stays as it was
  have hK' : ∀ b, K b → K' b := fun b hb => ⟨Nat.lt_of_lt_of_le (hH.old b hb) hH.size, fun i o hi ho => hH.off _ _ b (hob i o hi) ((Owns.ren hr0 (hc.obs i o hi).1).2 ho) hb⟩
  have hother : ∀ j o B, ι j = none → hl j = some o → Owns g j B o → K' B := fun j o B hj ho hB =>
    ⟨((hH.obj j o ho).owns hB).1, fun i oi hi hBi => by
      have hin := (hc.obs i oi hi).1
      have := hH.inj _ _ _ _ B (hob i oi hi) ho ((Owns.ren hr0 hin).2 hBi) hB
      rw [← this, hιρ i (by omega)] at hj; simp at hj⟩
  have hgg : GLe K (fun i => ¬ fr i) g g' := by
    refine ⟨hg.m, fun b hb o => hg.fix b (hK' b hb) o, fun j hj => ?_, fun j hj k u hu => ?_⟩
    · cases hij : ι j with
      | none => exact (hnone j hij).1
      | some i =>
        obtain ⟨hi, rfl⟩ := (hι i j).1 hij
        have hin : i < n := by
          rcases Nat.lt_or_ge i n with h | h
          · exact h
          · exact absurd (hnew i h hi) hj
        rw [← hr1.μ i hi, hg.μ i hin, hr0.μ i hin]
    · cases hij : ι j with
      | none => rw [(hnone j hij).2]; exact hu
      | some i =>
        obtain ⟨hi, rfl⟩ := (hι i j).1 hij
        have hin : i < n := by
          rcases Nat.lt_or_ge i n with h | h
          · exact h
          · exact absurd (hnew i h hi) hj
        rw [← hr1.τ i hi]
        exact hg.τ i hin k u (by rw [hr0.τ i hin]; exact hu)
  refine ⟨v, g', rfl, hd.ren hr1 hc.res, ?_, hgg⟩
  have hOw : ∀ {j : Nat} {o : Ob} {B : Nat}, ι j = none → (Owns g' j B o ↔ Owns g j B o) := fun {j o B} hj => by
    have := hnone j hj
    cases o <;> simp only [Owns, this.1, this.2]
  have hcase : ∀ j o, joinH ι ρ H' hl j = some o → (∃ i o1, ι j = some i ∧ i < n' ∧ ρ i = j ∧ hget H' i = some o1 ∧ o = o1.ren ρ) ∨ (ι j = none ∧ hl j = some o) := by
    intro j o h
    unfold joinH at h
    cases hij : ι j with
    | none => rw [hij] at h; exact .inr ⟨rfl, h⟩
    | some i =>
      rw [hij] at h
      simp only [Option.map_eq_some_iff] at h
      obtain ⟨o1, h1, h2⟩ := h
      have := (hι i j).1 hij
      exact .inl ⟨i, o1, rfl, this.1, this.2, h1, h2.symm⟩
  exact
    { os := h1.os.trans hH.os, tape := h1.tape.trans hH.tape, output := h1.output.trans hH.output, size := Nat.le_trans hH.size h1.size
      kept := fun b hb => (h1.kept b (hK' b hb)).trans (hH.kept b hb), old := hH.old, mem := h1.mem
      ids := fun j o h hf => by
        rcases hcase j o h with ⟨i, o1, hij, _⟩ | ⟨_, h⟩
        · rw [hf.2] at hij; simp at hij
        · exact hH.ids j o h hf.1
      low := fun j hf => by
        obtain ⟨e1, e2⟩ := hnone j hf.2
        rw [e1, e2]; exact hH.low j hf.1
      obj := fun j o h => by
        rcases hcase j o h with ⟨i, o1, hij, hi, rfl, ho1, rfl⟩ | ⟨hij, h⟩
        · exact ORep.ren hr1 hi (hc.obs' i o1 ho1).2 (h1.obj i o1 ho1)
        · exact (hH.obj j o h).mono hgg (hH.ids j o h) (hH.nm j o h) (hnone j hij).2 fun B hB => by
            have hk := hother j o B hij h hB
            exact ⟨h1.kept B hk, fun x => hg.fix B hk x⟩
      nm := fun j o h => by
        rcases hcase j o h with ⟨i, o1, hij, hi, rfl, ho1, rfl⟩ | ⟨hij, h⟩
        · exact Ob.nm_ren (fun k hk hf => by have := hιρ k hk; rw [hf.2] at this; simp at this) (hc.obs' i o1 ho1).2
        · exact Ob.nm_mono (fun _ hx hf => hx hf.1) (hH.nm j o h)
      inj := fun j j' o o' B h2 h3 h4 h5 => by
        rcases hcase j o h2 with ⟨i, o1, hij, hi, rfl, ho1, rfl⟩ | ⟨hij, h2⟩ <;> rcases hcase j' o' h3 with ⟨i', o1', hij', hi', rfl, ho1', rfl⟩ | ⟨hij', h3⟩
        · rw [h1.inj i i' o1 o1' B ho1 ho1' ((Owns.ren hr1 hi).1 h4) ((Owns.ren hr1 hi').1 h5)]
        · exact absurd (hother j' o' B hij' h3 ((hOw hij').1 h5)) (h1.off i o1 B ho1 ((Owns.ren hr1 hi).1 h4))
        · exact absurd (hother j o B hij h2 ((hOw hij).1 h4)) (h1.off i' o1' B ho1' ((Owns.ren hr1 hi').1 h5))
        · exact hH.inj j j' o o' B h2 h3 ((hOw hij).1 h4) ((hOw hij').1 h5)
      off := fun j o B h2 h3 hK => by
        rcases hcase j o h2 with ⟨i, o1, hij, hi, rfl, ho1, rfl⟩ | ⟨hij, h2⟩
        · exact h1.off i o1 B ho1 ((Owns.ren hr1 hi).1 h3) (hK' B hK)
        · exact hH.off j o B h2 ((hOw hij).1 h3) hK
      glo := fun b cs hb j c hc' => let ⟨k1, u, k2, k3⟩ := hH.glo b cs hb j c hc'; ⟨k1, u, hg.m _ _ _ k2, k3.mono hg.m⟩ }
end
end Go.Proofs.YthocoandbiaoiaaDoorV

namespace Go.Proofs.YthocoandbiaoiaaDoorV
open Go
structure Ins where
  dst : Option Nat
  gd : Option (Nat × Bool) := none
  op : IOp
def IOp.isCall : IOp → Bool
  | .callf _ _ => true
  | .callt _ _ => true
  | .callr _ _ => true
  | .callv _ _ => true
  | _ => false
def IOp.isT : IOp → Bool
  | .callt _ _ => true
  | _ => false
theorem IOp.isT_call {i : IOp} (h : i.isT = true) : i.isCall = true := by cases i <;> simp [IOp.isT] at h; rfl
theorem IOp.isT_not {i : IOp} (h : i.isCall = false) : i.isT = false := by cases i <;> first | rfl | simp [IOp.isCall] at h
def gdOk (ops : Array Oper) : Option (Nat × Bool) → Option (Nat × Bool) → Bool
  | none, none => true
  | some (j, w), some (t, w') => w == w' && ((ops[j]?).bind (·.dst)) == some t
  | _, _ => false
def callOk : Op → IOp → Bool
  | .call ⟨.value (.func f), A, _⟩, .callf f' xs => f == f' && oOks A.toList xs
  | .call ⟨.value (.func f), A, _⟩, .callt f' xs => f == f' && oOks A.toList xs
  | .call ⟨.value (.func f), A, _⟩, .callr f' xs => f == f' && oOks A.toList xs
  | .call ⟨.value X, A, _⟩, .callv x xs => oOk X x && oOks A.toList xs
  | _, _ => false
def insOk (P : Program) (nt : Nat) (ops : Array Oper) (o : Oper) (i : Ins) : Bool :=
  o.dst == i.dst && gdOk ops o.guard i.gd && (match i.dst with | some d => decide (d < nt) | none => true) && (cmp P o.op i.op || callOk o.op i.op)
def St.step (s : St) (r : Stp) (dst : Option Nat) : St := { e := (s.put dst r.v).e, h := upd s.h r.up, nx := s.nx + r.al }
def gval (e : Env) (t : Nat) (want : Bool) : Option Bool :=
  match eget e t with
  | some (.pv (.bool b)) => some (b == want)
  | some (.gd c (.pv (.bool b))) => some (c && (b == want))
  | _ => none
def evFn (gl : Glob) (e : Env) (x : O) : Option (Fn × List DV × List DV × Prop) :=
  match evs gl e x with
  | some (.fn (.func f) a c, q) => some (.func f, a, c, q)
  | some (.fn (.yield l) [] [], q) => some (.yield l, [], [], q)
  | _ => none
def evCall (gl : Glob) (e : Env) : IOp → Option (Fn × List DV × Prop)
  | .callf f xs => (evAll gl e xs).map fun r => (.func f, r.1.map .norm, r.2)
  | .callt f xs => (evAll gl e xs).map fun r => (.func f, r.1.map .norm, r.2)
  | .callr f xs => (evAll gl e xs).map fun r => (.func f, r.1, r.2)
  | .callv x xs => match evFn gl e x, evAll gl e xs with
    | some (f, a, c, q), some (ds, q') => some (f, (a ++ ds ++ c).map .norm, q ∧ q')
    | _, _ => none
  | _ => none
def PCallF (P : Program) (gl : Glob) (f : Fn) (ds : List DV) (d : DV) : Prop := ∃ fid, f = .func fid ∧ PCall P gl fid ds d
def DV.bel (n : Nat) : DV → Bool
  | .own id _ _ | .mrow id _ _ _ | .ptr id _ | .mref id | .stmp id _ => decide (id < n)
  | .agg _ | .tup _ | .fn _ _ _ | .ifc _ _ | .gd _ _ => false
  | _ => true
theorem bel_nm {n : Nat} {d : DV} (h : d.bel n = true) : d.nm fun i => ¬ n ≤ i := by
  cases d <;> simp only [DV.bel, decide_eq_true_eq, Bool.false_eq_true] at h <;> simp only [DV.nm] <;> omega
def rh (ρ : List Nat) (nx i : Nat) : Nat := if i < ρ.length then ρ.getD i 0 else nx + (i - ρ.length)
def renH (ρ : List Nat) (nx : Nat) : Heap → Heap
  | [] => []
  | (i, o) :: r => (rh ρ nx i, o.ren (rh ρ nx)) :: renH ρ nx r
def dropH (ρ : List Nat) : Heap → Heap
  | [] => []
  | (i, o) :: r => if i ∈ ρ then dropH ρ r else (i, o) :: dropH ρ r
def sameH (ρ : List Nat) (nx : Nat) (h : Heap) : Heap → Prop
  | [] => True
  | (i, o) :: r => hget h (rh ρ nx i) = some (o.ren (rh ρ nx)) ∧ sameH ρ nx h r
def CallNext (P : Program) (gl : Glob) (f : Fn) (ds : List DV) (s : St) (dst : Option Nat) (K : St → Prop) : Prop :=
  (∃ d, PCallF P gl f ds d ∧ (d.wf → K (s.put dst d))) ∨
  ∃ (ρ : List Nat) (ds0 : List DV) (H : Heap) (d : DV) (H' : Heap) (n' : Nat), ACall P gl f ρ.length ds0 H d H' n' ∧ ρ.Nodup ∧ (∀ i ∈ ρ, i < s.nx) ∧ ds0.map (·.ren (rh ρ s.nx)) = ds ∧ sameH ρ s.nx s.h H ∧
    ((d.ren (rh ρ s.nx)).wf → K { e := (s.put dst (d.ren (rh ρ s.nx))).e, h := renH ρ s.nx H' ++ dropH ρ s.h, nx := s.nx + (n' - ρ.length) })
def sg (b : Bool) : Option Stp → Option Stp
  | some t => some t
  | none => if b then none else some { v := .pv (.bool false), c := True }
theorem sg_true {o : Option Stp} : sg true o = o := by cases o <;> rfl
theorem sg_some {b : Bool} {t : Stp} : sg b (some t) = some t := rfl
def gok (b : Bool) (t : Stp) (nx : Nat) : Prop := if t.up.isEmpty = true ∧ t.al = 0 then t.v.bel nx = true ∧ (b = true → t.c) else b = true ∧ t.c
def gnx (s : St) (b : Bool) (t : Stp) (dst : Option Nat) : St := if t.up.isEmpty = true ∧ t.al = 0 then s.put dst (.gd b t.v) else s.step t dst
def rvc (P : Program) (gl : Glob) (K : St → Prop) : List Ins → St → Prop
  | [], s => K s
  | i :: r, s =>
    match i.gd with
    | none => if i.op.isCall then (match evCall gl s.e i.op with
        | some (f, ds, c) => c ∧ CallNext P gl f ds s i.dst (rvc P gl K r)
        | none => False)
      else match stp gl s.e (hget s.h) s.nx i.op with
        | some t => t.c ∧ rvc P gl K r (s.step t i.dst)
        | none => False
    | some (t, want) => match gval s.e t want with
      | none => False
      | some b => if i.op.isT then b = true ∧ (match evCall gl s.e i.op with
          | some (f, ds, c) => c ∧ CallNext P gl f ds s i.dst (rvc P gl K r)
          | none => False)
        else if i.op.isCall then (match evCall gl s.e i.op with
          | some (f, ds, c) => (b = true → c) ∧ ∃ d, (b = true → PCallF P gl f ds d) ∧ d.bel 0 = true ∧ rvc P gl K r (s.put i.dst (.gd b d))
          | none => False)
        else match sg b (stp gl s.e (hget s.h) s.nx i.op) with
          | some t => gok b t s.nx ∧ rvc P gl K r (gnx s b t i.dst)
          | none => False
def Sim (gl : Glob) (K : Nat → Prop) (w0 : World) (n0 : Nat) (nt : NT) (g0 : Gh) (s : St) (a : Act) (w : World) : Prop :=
  ∃ g, GLe K (fun i => i < n0) g0 g ∧ n0 ≤ s.nx ∧ SimH gl K w0 (hget s.h) (fun i => s.nx ≤ i) g w ∧ SimE nt (eget s.e) (fun i => s.nx ≤ i) g a
section
variable {P : Program} {gl : Glob} {K : Nat → Prop} {w0 : World} {hl : Nat → Option Ob} {fr fr' : Nat → Prop} {g g' : Gh} {w : World} {n : NT} {a : Act}
theorem SimE.mono {e : Nat → Option DV} (h : SimE n e fr g a) (hg : GLe K (fun i => ¬ fr i) g g') (hf : ∀ i, fr' i → fr i) : SimE n e fr' g' a where
  defers := h.defers
  size := h.size
  val i d hi := let ⟨v, h1, h2⟩ := h.val i d hi; ⟨v, h1, h2.mono hg (h.nm i d hi)⟩
  nm i d hi := DV.nm_mono (fun _ hj hf' => hj (hf _ hf')) d (h.nm i d hi)
theorem SimE.put {s : St} (h : SimE n (eget s.e) fr g a) {dst : Option Nat} {d : DV} {v : Value} (hd : DRep g d v) (hn : d.nm fun i => ¬ fr i) (hdst : ∀ t, dst = some t → t < n.n) :
    SimE n (eget (s.put dst d).e) fr g (a.put dst v) := by
  cases dst with
  | none => exact h
  | some t =>
    have ht := hdst t rfl
    refine ⟨h.defers, by simp [Act.put, h.size], fun i x hi => ?_, fun i x hi => ?_⟩
    · simp only [St.put, eget] at hi
      split at hi
      · rename_i he; subst he
        obtain rfl := Option.some.inj hi
        exact ⟨v, by simp [Act.put, h.size, ht], hd⟩
      · rename_i he
        obtain ⟨u, h1, h2⟩ := h.val i x hi
        exact ⟨u, by simp only [Act.put]; rw [Array.getElem?_setIfInBounds_ne (Ne.symm he)]; exact h1, h2⟩
    · simp only [St.put, eget] at hi
      split at hi
      · obtain rfl := Option.some.inj hi; exact hn
      · exact h.nm i x hi
theorem upf_upd : ∀ (up : Heap) (H : Heap), upf (hget H) up = hget (upd H up)
  | [], _ => rfl
  | (i, o) :: r, H => by
    rw [upf, upd, ← upf_upd r]
    congr 1
    funext j
    rw [hget_hset]; rfl
theorem frl_nx (nx al : Nat) : frl (fun i => nx ≤ i) nx al = fun i => nx + al ≤ i := by
  cases al with
  | zero => rfl
  | succ k => funext i; simp only [frl, eq_iff_iff]; omega
theorem Sim.step {n0 : Nat} {nt : NT} {g0 : Gh} {s : St} {a : Act} {w : World} (h : Sim gl K w0 n0 nt g0 s a w) {o : Oper} {i : IOp} (hc : cmp P o.op i = true) {r : Stp} (hr : stp gl s.e (hget s.h) s.nx i = some r) (hcc : r.c) :
    ∃ y v w', (execOp a.eval o).run P w = .ok y w' ∧ (y = .value v ∨ (y = .skip ∧ v = undef)) ∧ (∀ dst, (∀ t, dst = some t → t < nt.n) → Sim gl K w0 n0 nt g0 (s.step r dst) (a.put dst v) w') ∧
      (r.up = [] → r.al = 0 → ∀ dst, (∀ t, dst = some t → t < nt.n) → Sim gl K w0 n0 nt g0 (s.put dst (.gd true r.v)) (a.put dst v) w') := by
  obtain ⟨g, hg, hn, hH, hE⟩ := h
  obtain ⟨y, v, w', g', h1, h2, h3, h4, h5, h6⟩ := stp_sound (P := P) hH hE hc hr hcc (Nat.le_refl _)
  rw [upf_upd, frl_nx] at h3
  rw [frl_nx] at h6
  have hE' : SimE nt (eget s.e) (fun i => s.nx + r.al ≤ i) g' a := hE.mono h4 fun i hi => by omega
  have hgg := hg.trans (h4.le fun i hi => by omega)
  refine ⟨y, v, w', h1, h2, fun dst hd => ⟨g', hgg, by simp only [St.step]; omega, h3, hE'.put h5 h6 hd⟩, fun hu ha dst hd => ?_⟩
  rw [hu, ha] at h3
  rw [ha] at hE' h6
  have e1 : (s.put dst (.gd true r.v)).h = s.h := by cases dst <;> rfl
  have e2 : (s.put dst (.gd true r.v)).nx = s.nx := by cases dst <;> rfl
  refine ⟨g', hgg, by rw [e2]; exact hn, by rw [e1, e2]; exact h3, ?_⟩
  rw [e2]
  exact hE'.put (.gd (fun _ => h5) (fun h => by simp at h)) (by rw [DV.nm]; exact h6) hd
theorem Sim.skip {n0 : Nat} {nt : NT} {g0 : Gh} {s : St} {a : Act} {w : World} (h : Sim gl K w0 n0 nt g0 s a w) {b : Bool} (hb : b = false) (d : DV) (hd : ∀ p, s.nx = p → d.nm fun i => ¬ p ≤ i) {dst : Option Nat} (ht : ∀ t, dst = some t → t < nt.n) :
    Sim gl K w0 n0 nt g0 (s.put dst (.gd b d)) (a.put dst undef) w := by
  obtain ⟨g, hg, hn, hH, hE⟩ := h
  have e1 : (s.put dst (.gd b d)).h = s.h := by cases dst <;> rfl
  have e2 : (s.put dst (.gd b d)).nx = s.nx := by cases dst <;> rfl
  refine ⟨g, hg, by rw [e2]; exact hn, by rw [e1, e2]; exact hH, ?_⟩
  rw [e2]
  exact hE.put (.gd (fun h => by simp [hb] at h) fun _ => rfl) (by rw [DV.nm]; exact hd _ rfl) ht
def ExecIs (P : Program) (a : Act) (o : Oper) (w : World) (vs : Array Value) : Fn → Prop
  | .func f => (∀ vs w, (callFunc f vs).run P w = .ok (.enter f vs) w) → (execOp a.eval o).run P w = .ok (.enter f vs) w
  | .yield l => (execOp a.eval o).run P w = (Instr.yield l vs).run P w
  | _ => True
theorem callv_run {f : FuncId} {va vc : Array Value} {o : Oper} {X : Operand} {A : Array Operand} {ts : Array TypeId} (ho : o.op = .call ⟨.value X, A, ts⟩) {a : Act} (hx : a.eval X = .func (.func f) va vc)
    (he : ∀ vs w, (callFunc f vs).run P w = .ok (.enter f vs) w) (w : World) : (execOp a.eval o).run P w = .ok (.enter f (va ++ A.map a.eval ++ vc)) w := by
  simp only [execOp, ho, resolve, hx, Deferred.ofValue, Sem.run_bind, Sem.run_pure, Result.andThen_ok, invoke, he]
theorem callv_yield {l : Nat} {o : Oper} {X : Operand} {A : Array Operand} {ts : Array TypeId} (ho : o.op = .call ⟨.value X, A, ts⟩) {a : Act} (hx : a.eval X = .func (.yield l) #[] #[]) (w : World) :
    (execOp a.eval o).run P w = (Instr.yield l (A.map a.eval)).run P w := by
  simp only [execOp, ho, resolve, hx, Deferred.ofValue, Sem.run_bind, Sem.run_pure, Result.andThen_ok, invoke, Array.empty_append]
theorem norm_nth {ds : List DV} {vs : Array Value} (h : ∀ (j : Nat) (d : DV) (v : Value), ds[j]? = some d → vs[j]? = some v → DRep g d v) :
    ∀ (j : Nat) (d : DV) (v : Value), (ds.map .norm)[j]? = some d → vs[j]? = some v → DRep g d v := by
  intro j d v hd hv
  rw [List.getElem?_map, Option.map_eq_some_iff] at hd
  obtain ⟨d', h1, rfl⟩ := hd
  exact norm_sound (h j d' v h1 hv)
theorem nth_append {xs ys : List DV} {va vb : Array Value} (hl : xs.length = va.size) (h1 : ∀ (j : Nat) (d : DV) (v : Value), xs[j]? = some d → va[j]? = some v → DRep g d v)
    (h2 : ∀ (j : Nat) (d : DV) (v : Value), ys[j]? = some d → vb[j]? = some v → DRep g d v) : ∀ (j : Nat) (d : DV) (v : Value), (xs ++ ys)[j]? = some d → (va ++ vb)[j]? = some v → DRep g d v := by
  intro j d v hd hv
  rw [List.getElem?_append] at hd
  rw [Array.getElem?_append] at hv
  split at hd
  · rw [if_pos (by omega)] at hv; exact h1 j d v hd hv
  · rw [if_neg (by omega)] at hv; rw [← hl] at hv; exact h2 _ d v hd hv
theorem callVs0 {hl : Nat → Option Ob} {fr : Nat → Prop} {e : Env} {nt : NT} {o : Oper} {i : IOp} (hH : SimH gl K w0 hl fr g w) (hE : SimE nt (eget e) fr g a) (hc : callOk o.op i = true) {f : Fn} {ds : List DV} {c : Prop} (hr : evCall gl e i = some (f, ds, c)) (hcc : c) :
    ∃ vs : Array Value, ExecIs P a o w vs f ∧ ds.length = vs.size ∧ ∀ (j : Nat) (d : DV) (v : Value), ds[j]? = some d → vs[j]? = some v → DRep g d v := by
  unfold callOk at hc
  split at hc
  · rename_i f' A ts f'' xs ho
    simp only [Bool.and_eq_true, beq_iff_eq] at hc
    obtain ⟨rfl, h1⟩ := hc
    simp only [evCall, Option.map_eq_some_iff] at hr
    obtain ⟨⟨es, q⟩, hx, hr⟩ := hr
    simp only [Prod.mk.injEq] at hr
    obtain ⟨rfl, rfl, rfl⟩ := hr
    obtain ⟨m1, m2, m3⟩ := evAll_sound hH hE h1 hx hcc
    refine ⟨_, fun he => callv_run (P := P) (a := a) (X := .func f') (va := #[]) (vc := #[]) ho rfl he w, by simp [m1], ?_⟩
    refine norm_nth fun j d v hd hv => ?_
    simp only [Array.empty_append, Array.append_empty, Array.getElem?_map, Option.map_eq_some_iff] at hv
    obtain ⟨X, hX, rfl⟩ := hv
    exact m2 j d X hd (by simpa using hX)
  · rename_i f' A ts f'' xs ho
    simp only [Bool.and_eq_true, beq_iff_eq] at hc
    obtain ⟨rfl, h1⟩ := hc
    simp only [evCall, Option.map_eq_some_iff] at hr
    obtain ⟨⟨es, q⟩, hx, hr⟩ := hr
    simp only [Prod.mk.injEq] at hr
    obtain ⟨rfl, rfl, rfl⟩ := hr
    obtain ⟨m1, m2, m3⟩ := evAll_sound hH hE h1 hx hcc
    refine ⟨_, fun he => callv_run (P := P) (a := a) (X := .func f') (va := #[]) (vc := #[]) ho rfl he w, by simp [m1], ?_⟩
    refine norm_nth fun j d v hd hv => ?_
    simp only [Array.empty_append, Array.append_empty, Array.getElem?_map, Option.map_eq_some_iff] at hv
    obtain ⟨X, hX, rfl⟩ := hv
    exact m2 j d X hd (by simpa using hX)
  · rename_i f' A ts f'' xs ho
    simp only [Bool.and_eq_true, beq_iff_eq] at hc
    obtain ⟨rfl, h1⟩ := hc
    simp only [evCall, Option.map_eq_some_iff] at hr
    obtain ⟨⟨es, q⟩, hx, hr⟩ := hr
    simp only [Prod.mk.injEq] at hr
    obtain ⟨rfl, rfl, rfl⟩ := hr
    obtain ⟨m1, m2, m3⟩ := evAll_sound hH hE h1 hx hcc
    refine ⟨_, fun he => callv_run (P := P) (a := a) (X := .func f') (va := #[]) (vc := #[]) ho rfl he w, by simp [m1], ?_⟩
    intro j d v hd hv
    simp only [Array.empty_append, Array.append_empty, Array.getElem?_map, Option.map_eq_some_iff] at hv
    obtain ⟨X, hX, rfl⟩ := hv
    exact m2 j d X hd (by simpa using hX)
  · rename_i X A ts x xs ho
    simp only [Bool.and_eq_true] at hc
    obtain ⟨h0, h1⟩ := hc
    simp only [evCall] at hr
    split at hr
    · rename_i f' fa fc q es q' hf hx
      simp only [Option.some.injEq, Prod.mk.injEq] at hr
      obtain ⟨rfl, rfl, rfl⟩ := hr
      unfold evFn at hf
      split at hf
      · rename_i f2 a2 c2 q2 hev
        simp only [Option.some.injEq, Prod.mk.injEq] at hf
        obtain ⟨rfl, rfl, rfl, rfl⟩ := hf
        obtain ⟨m1, m2, m3⟩ := evAll_sound hH hE h1 hx hcc.2
        have hX := (evs_sound hH hE h0 hev hcc.1).1
        generalize hv : a.eval X = v at hX
        cases hX
        rename_i va vc ha ha' hc hc'
        refine ⟨_, fun he => callv_run (P := P) (a := a) (X := X) ho hv he w, by simp [m1, *], ?_⟩
        refine norm_nth (nth_append (by simp [m1, *]) (nth_append (by assumption) (by assumption) fun j d v hd hv => ?_) (by assumption))
        simp only [Array.getElem?_map, Option.map_eq_some_iff] at hv
        obtain ⟨X, hX, rfl⟩ := hv
        exact m2 j d X hd (by simpa using hX)
      · rename_i l q2 hev
        simp only [Option.some.injEq, Prod.mk.injEq] at hf
        obtain ⟨rfl, rfl, rfl, rfl⟩ := hf
        obtain ⟨m1, m2, m3⟩ := evAll_sound hH hE h1 hx hcc.2
        have hX := (evs_sound hH hE h0 hev hcc.1).1
        generalize hv : a.eval X = v at hX
        cases hX
        rename_i va vc ha hc ha' hc'
        obtain rfl : va = #[] := Array.eq_empty_of_size_eq_zero (by simp_all)
        obtain rfl : vc = #[] := Array.eq_empty_of_size_eq_zero (by simp_all)
        refine ⟨A.map a.eval, callv_yield (P := P) (a := a) (X := X) ho hv w, by simp [m1], ?_⟩
        refine norm_nth fun j d v hd hv => ?_
        simp only [List.nil_append, List.append_nil] at hd
        simp only [Array.getElem?_map, Option.map_eq_some_iff] at hv
        obtain ⟨X, hX, rfl⟩ := hv
        exact m2 j d X hd (by simpa using hX)
      · simp at hf
    · simp at hr
  · simp at hc
theorem callVs {s : St} {nt : NT} {o : Oper} {i : IOp} (hc : callOk o.op i = true) {f : Fn} {ds : List DV} {c : Prop} (hr : evCall gl s.e i = some (f, ds, c)) (hcc : c) {g : Gh} (hH : SimH gl K w0 (hget s.h) (fun i => s.nx ≤ i) g w) (hE : SimE nt (eget s.e) (fun i => s.nx ≤ i) g a) :
    ∃ vs : Array Value, ExecIs P a o w vs f ∧ ds.length = vs.size ∧ (∀ (j : Nat) (d : DV) (v : Value), ds[j]? = some d → vs[j]? = some v → DRep g d v) :=
  callVs0 (P := P) hH hE hc hr hcc
theorem Sim.call {n0 : Nat} {nt : NT} {g0 : Gh} {s : St} {w : World} (h : Sim gl K w0 n0 nt g0 s a w) {o : Oper} {i : IOp} (hc : callOk o.op i = true) {f : Fn} {ds : List DV} {c : Prop} (hr : evCall gl s.e i = some (f, ds, c)) (hcc : c)
    {d : DV} (hp : PCallF P gl f ds d) :
    ∃ vs fid, f = .func fid ∧ (execOp a.eval o).run P w = .ok (.enter fid vs) w ∧ Calls P fid vs w fun e w' => ∃ v, e = .returned v ∧ d.wf ∧ ∀ dst, (∀ t, dst = some t → t < nt.n) →
      Sim gl K w0 n0 nt g0 (s.put dst d) (a.put dst v) w' ∧ Sim gl K w0 n0 nt g0 (s.put dst (.gd true d)) (a.put dst v) w' := by
  obtain ⟨g, hg, hn, hH, hE⟩ := h
  obtain ⟨fid, rfl, hp⟩ := hp
  obtain ⟨vs, h1, hl, hv⟩ := callVs0 (P := P) hH hE hc hr hcc
  refine ⟨vs, fid, rfl, h1 hp.enter, ?_⟩
  refine (hp.framed hH hl hv).mono ?_
  rintro e w' ⟨v, g', rfl, h1, h2, h3⟩
  have hgg := hg.trans (h3.le (p' := fun i => i < n0) fun i hi => by omega)
  have hE' := hE.mono h3 fun i hi => hi
  have hdn : d.nm fun i => ¬ s.nx ≤ i := DV.nm_mono (fun _ hf => hf.elim) d hp.res
  refine ⟨v, rfl, h1.wf, fun dst ht => ⟨⟨g', hgg, ?_, ?_, ?_⟩, ⟨g', hgg, ?_, ?_, ?_⟩⟩⟩
  · cases dst <;> exact hn
  · cases dst <;> exact h2
  · have := hE'.put h1 hdn ht
    cases dst <;> exact this
  · cases dst <;> exact hn
  · cases dst <;> exact h2
  · have := hE'.put (.gd (b := true) (fun _ => h1) (fun h => by simp at h)) (by rw [DV.nm]; exact hdn) ht
    cases dst <;> exact this
theorem sameH_get {ρ : List Nat} {nx : Nat} {h : Heap} : ∀ {H : Heap}, sameH ρ nx h H → ∀ i o, hget H i = some o → hget h (rh ρ nx i) = some (o.ren (rh ρ nx))
  | [], _, _, _, hi => by simp [hget] at hi
  | (j, x) :: r, hs, i, o, hi => by
    rw [hget] at hi
    split at hi
    · rename_i he; subst he; obtain rfl := Option.some.inj hi; exact hs.1
    · exact sameH_get hs.2 i o hi
theorem dropH_get {ρ : List Nat} : ∀ (h : Heap) (j : Nat), hget (dropH ρ h) j = if j ∈ ρ then none else hget h j
  | [], j => by simp [dropH, hget]
  | (i, o) :: r, j => by
    rw [dropH]
    split
    · rename_i hi
      rw [dropH_get r j, hget]
      by_cases hji : j = i
      · subst hji; simp [hi]
      · simp [hji]
    · rename_i hi
      rw [hget, hget, dropH_get r j]
      by_cases hji : j = i
      · subst hji; simp [hi]
      · simp [hji]
theorem hget_mem : ∀ {H : Heap} {i : Nat}, i ∈ H.map (·.1) → ∃ o, hget H i = some o
  | [], _, h => by simp at h
  | (k, o) :: r, i, h => by
    rw [hget]
    by_cases hk : i = k
    · exact ⟨o, by simp [hk]⟩
    · simp only [List.map_cons, List.mem_cons, hk, false_or] at h
      obtain ⟨o', h'⟩ := hget_mem h
      exact ⟨o', by simp [hk, h']⟩
theorem renH_off {ρ : List Nat} {nx : Nat} {X : Heap} {j : Nat} : ∀ {H : Heap}, (∀ i ∈ H.map (·.1), rh ρ nx i ≠ j) → hget (renH ρ nx H ++ X) j = hget X j
  | [], _ => rfl
  | (i, o) :: r, h => by
    rw [renH, List.cons_append, hget, if_neg (Ne.symm (h i (by simp)))]
    exact renH_off fun k hk => h k (by simp only [List.map_cons, List.mem_cons]; exact .inr hk)
theorem renH_on {ρ : List Nat} {nx : Nat} {X : Heap} {i : Nat} : ∀ {H : Heap}, (∀ k ∈ H.map (·.1), rh ρ nx k = rh ρ nx i → k = i) → hget (renH ρ nx H ++ X) (rh ρ nx i) = (match hget H i with | some o => some (o.ren (rh ρ nx)) | none => hget X (rh ρ nx i))
  | [], _ => rfl
  | (k, o) :: r, h => by
    rw [renH, List.cons_append, hget, hget]
    by_cases hk : i = k
    · subst hk; simp
    · rw [if_neg (fun he => hk (h k (by simp) he.symm).symm), if_neg hk]
      exact renH_on fun k hk => h k (by simp only [List.map_cons, List.mem_cons]; exact .inr hk)
theorem Sim.acall {n0 : Nat} {nt : NT} {g0 g : Gh} {s : St} {w : World} (hg : GLe K (fun i => i < n0) g0 g) (hn : n0 ≤ s.nx) (hH : SimH gl K w0 (hget s.h) (fun i => s.nx ≤ i) g w) (hE : SimE nt (eget s.e) (fun i => s.nx ≤ i) g a) {f : Fn} {ds : List DV} {vs : Array Value} (hlen : ds.length = vs.size) (hv : ∀ (j : Nat) (d : DV) (v : Value), ds[j]? = some d → vs[j]? = some v → DRep g d v)
    {ρ : List Nat} {ds0 : List DV} {H H' : Heap} {d : DV} {n' : Nat} (hc : ACall P gl f ρ.length ds0 H d H' n') (hnd : ρ.Nodup) (hlt : ∀ i ∈ ρ, i < s.nx) (hds : ds0.map (·.ren (rh ρ s.nx)) = ds) (hsame : sameH ρ s.nx s.h H) :
    runFn P f vs w fun e w' => ∃ v, e = .returned v ∧ (d.ren (rh ρ s.nx)).wf ∧ ∀ dst, (∀ t, dst = some t → t < nt.n) →
      Sim gl K w0 n0 nt g0 { e := (s.put dst (d.ren (rh ρ s.nx))).e, h := renH ρ s.nx H' ++ dropH ρ s.h, nx := s.nx + (n' - ρ.length) } (a.put dst v) w' := by
  have hle := hc.le
  let ι : Nat → Option Nat := fun j => if j ∈ ρ then some (ρ.idxOf j) else if s.nx ≤ j ∧ j < s.nx + (n' - ρ.length) then some (ρ.length + (j - s.nx)) else none
  have hrlt : ∀ i, i < ρ.length → rh ρ s.nx i ∈ ρ ∧ ρ.idxOf (rh ρ s.nx i) = i := fun i hi => by
    have e1 : rh ρ s.nx i = ρ[i] := by simp [rh, hi]
    rw [e1]
    exact ⟨List.getElem_mem hi, hnd.idxOf_getElem i hi⟩
  have hι : ∀ i j, ι j = some i ↔ (i < n' ∧ rh ρ s.nx i = j) := by
    intro i j
    simp only [ι]
    constructor
    · intro h
      split at h
      · rename_i hm
        obtain rfl := Option.some.inj h
        have hi : ρ.idxOf j < ρ.length := List.idxOf_lt_length_iff.2 hm
        refine ⟨by omega, ?_⟩
        simp [rh, hi]
      · split at h
        · rename_i hj
          obtain rfl := Option.some.inj h
          refine ⟨by omega, ?_⟩
          have : ¬ ρ.length + (j - s.nx) < ρ.length := by omega
          simp only [rh, this, if_false]; omega
        · simp at h
    · rintro ⟨hi, rfl⟩
      by_cases hil : i < ρ.length
      · obtain ⟨h1, h2⟩ := hrlt i hil
        rw [if_pos h1, h2]
      · have e1 : rh ρ s.nx i = s.nx + (i - ρ.length) := by simp [rh, hil]
        have hnm : ¬ rh ρ s.nx i ∈ ρ := fun hm => by have := hlt _ hm; omega
        rw [if_neg hnm, if_pos (by omega), e1]
        congr 1; omega
  refine (hc.framed (ρ := rh ρ s.nx) (ι := ι) hι (fun i hi => by have := hlt _ (hrlt i hi).1; omega) (fun i h1 h2 => by
      have : ¬ i < ρ.length := by omega
      simp only [rh, this, if_false]; omega) hH (fun i o hi => sameH_get hsame i o hi) (by rw [← hlen, ← hds]; simp) (fun j x v hx hu => hv j _ v (by rw [← hds, List.getElem?_map, hx]; rfl) hu)).mono ?_
  rintro e w' ⟨v, g', rfl, h1, h2, h3⟩
  have hget' : joinH ι (rh ρ s.nx) H' (hget s.h) = hget (renH ρ s.nx H' ++ dropH ρ s.h) := by
    funext j
    unfold joinH
    cases hij : ι j with
    | none =>
      have hj : ∀ i, i < n' → rh ρ s.nx i ≠ j := fun i hi he => by have := (hι i j).2 ⟨hi, he⟩; rw [hij] at this; simp at this
      have hjr : j ∉ ρ := fun hm => by simp only [ι, hm, if_true] at hij; simp at hij
      rw [renH_off fun i hi => hj i (let ⟨o, ho⟩ := hget_mem hi; (hc.obs' i o ho).1), dropH_get, if_neg hjr]
    | some i =>
      obtain ⟨hi, rfl⟩ := (hι i j).1 hij
      rw [renH_on (fun k hk he => by
        obtain ⟨o, hk⟩ := hget_mem hk
        have h1 := (hι i _).2 ⟨hi, rfl⟩
        have h2 := (hι k _).2 ⟨(hc.obs' k o hk).1, he⟩
        rw [h1] at h2; exact (Option.some.inj h2).symm)]
      cases hho : hget H' i with
      | some o => simp only [hho, Option.map_some]
      | none =>
        simp only [hho, Option.map_none]
        rw [dropH_get]
        by_cases hil : i < ρ.length
        · rw [if_pos (hrlt i hil).1]
        · have e1 : rh ρ s.nx i = s.nx + (i - ρ.length) := by simp [rh, hil]
          split
          · rfl
          · cases hs : hget s.h (rh ρ s.nx i) with
            | none => rfl
            | some o => exact absurd (show s.nx ≤ rh ρ s.nx i by omega) (hH.ids _ o hs)
  have hfr' : (fun j => s.nx ≤ j ∧ ι j = none) = fun j => s.nx + (n' - ρ.length) ≤ j := by
    funext j
    simp only [eq_iff_iff, ι]
    constructor
    · rintro ⟨hj, hn⟩
      split at hn
      · simp at hn
      · split at hn
        · simp at hn
        · omega
    · intro hj
      refine ⟨by omega, ?_⟩
      rw [if_neg (fun hm => by have := hlt _ hm; omega), if_neg (by omega)]
  rw [hget', hfr'] at h2
  refine ⟨v, rfl, ?_, fun dst ht => ⟨g', hg.trans (h3.le fun i hi => by omega), by simp only; omega, h2, ?_⟩⟩
  · exact h1.wf
  · have := (hE.mono (fr' := fun j => s.nx + (n' - ρ.length) ≤ j) h3 fun i hi => by omega).put h1 (DV.nm_ren (fun i hi => by
      by_cases hil : i < ρ.length
      · have := hlt _ (hrlt i hil).1; omega
      · have e1 : rh ρ s.nx i = s.nx + (i - ρ.length) := by simp [rh, hil]
        omega) d hc.res) ht
    exact this
theorem gval_sound {n0 : Nat} {nt : NT} {g0 : Gh} {s : St} {w : World} (h : Sim gl K w0 n0 nt g0 s a w) {ops : Array Oper} {o : Oper} {t : Nat} {want b : Bool} (hg : gdOk ops o.guard (some (t, want)) = true) (hv : gval s.e t want = some b) :
    Region.wanted o (yielded ops a.tmps) = b := by
  obtain ⟨g, _, _, hH, hE⟩ := h
  cases ho : o.guard with
  | none => simp [ho, gdOk] at hg
  | some x =>
    obtain ⟨j, w'⟩ := x
    simp only [ho, gdOk, Bool.and_eq_true, beq_iff_eq] at hg
    obtain ⟨rfl, hd⟩ := hg
    simp only [Region.wanted, ho, yielded, hd, Option.bind_some]
    unfold gval at hv
    split at hv
    · rename_i c he
      obtain rfl := Option.some.inj hv
      obtain ⟨v, h1, h2⟩ := hE.val _ _ he
      rw [h1, h2.bool_inv]
      cases c <;> cases w' <;> rfl
    · rename_i c q he
      obtain rfl := Option.some.inj hv
      obtain ⟨v, h1, h2⟩ := hE.val _ _ he
      rw [h1]
      cases h2
      rename_i h4 h3
      cases c with
      | true => rw [(h3 rfl).bool_inv]; cases q <;> cases w' <;> rfl
      | false => rw [h4 rfl]; cases w' <;> rfl
    · simp at hv
theorem wanted_none {ops : Array Oper} {o : Oper} {y : Nat → Option Bool} (hg : gdOk ops o.guard none = true) : Region.wanted o y = true := by
  cases ho : o.guard with
  | none => simp [Region.wanted, ho]
  | some x => simp [ho, gdOk] at hg
def regOk (P : Program) (nt : Nat) (ops : Array Oper) : List Oper → List Ins → Bool
  | [], [] => true
  | o :: r, i :: q => insOk P nt ops o i && regOk P nt ops r q
  | _, _ => false
theorem cmp_defer {op : Op} {i : IOp} (h : cmp P op i = true) (hb : i ≠ .bad) : ∀ c, op ≠ .defer c := by
  rintro c rfl
  cases i <;> simp [cmp] at h
  exact hb rfl
theorem callOk_defer {op : Op} {i : IOp} (h : callOk op i = true) : ∀ c, op ≠ .defer c := by
  rintro c rfl
  cases i <;> simp [callOk] at h
section
variable {ro : Option Nat} {n : Nat} {o : Oper} {next : Act → World → Prop} {Q : Exit → Act → World → Prop} {v : Value} {w' : World}
theorem opIn_value (hnd : ∀ c, o.op ≠ .defer c) (h1 : (execOp a.eval o).run P w = .ok (.value v) w') (h : next (a.put o.dst v) w') : o.wpIn (WF ro) n P a w next Q :=
  ⟨fun _ _ => trivial, by rw [Oper.semAt_eq _ _ _ hnd, h1, Oper.uponIn_value]; exact h⟩
theorem opIn_skip (hnd : ∀ c, o.op ≠ .defer c) (h1 : (execOp a.eval o).run P w = .ok .skip w') (h : next (a.put o.dst undef) w') : o.wpIn (WF ro) n P a w next Q :=
  ⟨fun _ _ => trivial, by rw [Oper.semAt_eq _ _ _ hnd, h1, Oper.uponIn_skip]; exact h⟩
theorem callsIn_WF {f : FuncId} {vs : Array Value} {R : Ending → World → Prop} : CallsIn (WF ro) n P f vs w R ↔ Calls P f vs w R := callsIn_wide (n := n)
theorem roundIn_any {m m' : Nat} {l : Nat} {fn : FuncId} {tmps : Array Value} {asg body : Code} {R : Ending → World → Prop} (h : RoundIn Fence.wide m P l fn tmps asg body w R) : RoundIn (WF ro) m' P l fn tmps asg body w R :=
  ⟨trivial, fun c cs _ => h.2 c cs (room_wide _)⟩
theorem opIn_call (hnd : ∀ c, o.op ≠ .defer c) {f : Fn} {vs : Array Value} (hx : ExecIs P a o w vs f) (he : ∀ fid, f = .func fid → ∀ vs w, (callFunc fid vs).run P w = .ok (.enter fid vs) w)
    (h : runFn P f vs w fun e w' => ∃ v, e = .returned v ∧ next (a.put o.dst v) w') : o.wpIn (WF ro) n P a w next Q := by
  refine ⟨fun _ _ => trivial, ?_⟩
  rw [Oper.semAt_eq _ _ _ hnd]
  unfold runFn at h
  split at h
  · rename_i fid
    rw [hx (he fid rfl), Oper.uponIn_enter]
    refine ⟨fun h => by simp [WF, Fence.wide] at h, callsIn_WF.2 (h.mono ?_)⟩
    rintro e w' ⟨v, rfl, h⟩; exact h
  · rename_i l
    obtain ⟨fn, tmps, asg, body, h1, h2⟩ := h
    rw [show (execOp a.eval o).run P w = _ from hx, h1, Oper.uponIn_round]
    refine ⟨fun h => by simp [WF, Fence.wide] at h, roundIn_any (h2.mono ?_)⟩
    rintro e w' ⟨v, rfl, h⟩; exact h
  · exact h.elim
end
theorem rvc_sound {n0 : Nat} {nt : NT} {g0 : Gh} {ro : Option Nat} {ops : Array Oper} {Q : Exit → Act → World → Prop} {Ks : St → Prop} (hQ : ∀ s a w, Ks s → Sim gl K w0 n0 nt g0 s a w → Q .normal a w) :
    ∀ (is : List Ins) (os : List Oper) (j : Nat) (s : St) (a : Act) (w : World), regOk P nt.n ops os is = true → (∀ k, os[k]? = ops[j + k]?) → rvc P gl Ks is s → Sim gl K w0 n0 nt g0 s a w →
      wpOpsIn (WF ro) 0 P ops Q (List.range' j is.length) a w
  | [], os, j, s, a, w, _, _, hr, hs => hQ s a w hr hs
  | i :: is, [], j, s, a, w, hk, _, hr, hs => by simp [regOk] at hk
  | i :: is, o :: os, j, s, a, w, hk, ho, hr, hs => by
    simp only [regOk, insOk, Bool.and_eq_true, Bool.or_eq_true, beq_iff_eq] at hk
    obtain ⟨⟨⟨⟨hd, hg⟩, ht⟩, hop⟩, hrest⟩ := hk
    have hoj : ops[j]? = some o := by have := ho 0; simpa using this.symm
    have ho' : ∀ k, os[k]? = ops[j + 1 + k]? := fun k => by have := ho (k + 1); rw [List.getElem?_cons_succ] at this; rw [this]; congr 1; omega
    have htd : ∀ t, i.dst = some t → t < nt.n := fun t h => by rw [h] at ht; simpa using ht
    have next : ∀ s a w, rvc P gl Ks is s → Sim gl K w0 n0 nt g0 s a w → wpOpsIn (WF ro) 0 P ops Q (List.range' (j + 1) is.length) a w := fun s a w h1 h2 => rvc_sound hQ is os (j + 1) s a w hrest ho' h1 h2
    have hc1 : i.op.isCall = true → callOk o.op i.op = true := fun hcall => by
      rcases hop with h | h
      · exfalso; revert h hcall; cases i.op <;> simp [IOp.isCall] <;> cases o.op <;> simp [cmp]
      · exact h
    have hc2 : i.op.isCall = false → cmp P o.op i.op = true := fun hcall => by
      rcases hop with h | h
      · exact h
      · exfalso; revert h hcall; cases i.op <;> simp [IOp.isCall, callOk]
    rw [List.length_cons, List.range'_succ]
    simp only [wpOpsIn, hoj]
    rw [rvc] at hr
    cases hgd : i.gd with
    | none =>
      simp only [hgd] at hr hg
      rw [if_pos (wanted_none hg)]
      by_cases hcall : i.op.isCall = true
      · rw [if_pos hcall] at hr
        have hco := hc1 hcall
        split at hr
        · rename_i f ds c hev
          obtain ⟨hc, ⟨d, hp, hrr⟩ | ⟨ρ, ds0, H, d, H', n', hp, hnd, hlt, hds, hsame, hrr⟩⟩ := hr
          · obtain ⟨g, _, _, hH, hE⟩ := id hs
            obtain ⟨vs, fid, rfl, h1, h2⟩ := hs.call hco hev hc hp
            obtain ⟨_, he, hp'⟩ := hp
            obtain rfl := Fn.func.inj he
            refine opIn_call (callOk_defer hco) (f := .func fid) (vs := vs) (fun _ => h1) (fun fid' h => by obtain rfl := Fn.func.inj h; exact hp'.enter) (Calls.mono h2 ?_)
            rintro e w' ⟨v, rfl, hwf, h3⟩
            exact ⟨v, rfl, by rw [hd]; exact next _ _ _ (hrr hwf) (h3 i.dst htd).1⟩
          · obtain ⟨g, k1, k2, hH, hE⟩ := hs
            obtain ⟨vs, h1, h2, h3⟩ := callVs (P := P) hco hev hc hH hE
            refine opIn_call (callOk_defer hco) h1 hp.enter ((Sim.acall k1 k2 hH hE h2 h3 hp hnd hlt hds hsame).mono ?_)
            rintro e w' ⟨v, rfl, hwf, h3⟩
            exact ⟨v, rfl, by rw [hd]; exact next _ _ _ (hrr hwf) (h3 i.dst htd)⟩
        · exact hr.elim
      · rw [if_neg hcall] at hr
        have hco := hc2 (by simpa using hcall)
        split at hr
        · rename_i t hst
          have hnb : i.op ≠ .bad := fun hb => by rw [hb] at hst; obtain rfl := Option.some.inj hst; exact hr.1.elim
          obtain ⟨y, v, w', h1, h2, h3, _⟩ := hs.step hco hst hr.1
          rcases h2 with rfl | ⟨rfl, rfl⟩
          · exact opIn_value (cmp_defer hco hnb) h1 (by rw [hd]; exact next _ _ _ hr.2 (h3 i.dst htd))
          · exact opIn_skip (cmp_defer hco hnb) h1 (by rw [hd]; exact next _ _ _ hr.2 (h3 i.dst htd))
        · exact hr.elim
    | some gw =>
      obtain ⟨t, want⟩ := gw
      simp only [hgd] at hr hg
      split at hr
      · exact hr.elim
      rename_i b hgv
      have hw := gval_sound hs hg hgv
      by_cases hT : i.op.isT = true
      · rw [if_pos hT] at hr
        obtain ⟨rfl, hr⟩ := hr
        rw [if_pos hw]
        have hco := hc1 (IOp.isT_call hT)
        split at hr
        · rename_i f ds c hev
          obtain ⟨hc, ⟨d, hp, hrr⟩ | ⟨ρ, ds0, H, d, H', n', hp, hnd, hlt, hds, hsame, hrr⟩⟩ := hr
          · obtain ⟨g, _, _, hH, hE⟩ := id hs
            obtain ⟨vs, fid, rfl, h1, h2⟩ := hs.call hco hev hc hp
            obtain ⟨_, he, hp'⟩ := hp
            obtain rfl := Fn.func.inj he
            refine opIn_call (callOk_defer hco) (f := .func fid) (vs := vs) (fun _ => h1) (fun fid' h => by obtain rfl := Fn.func.inj h; exact hp'.enter) (Calls.mono h2 ?_)
            rintro e w' ⟨v, rfl, hwf, h3⟩
            exact ⟨v, rfl, by rw [hd]; exact next _ _ _ (hrr hwf) (h3 i.dst htd).1⟩
          · obtain ⟨g, k1, k2, hH, hE⟩ := hs
            obtain ⟨vs, h1, h2, h3⟩ := callVs (P := P) hco hev hc hH hE
            refine opIn_call (callOk_defer hco) h1 hp.enter ((Sim.acall k1 k2 hH hE h2 h3 hp hnd hlt hds hsame).mono ?_)
            rintro e w' ⟨v, rfl, hwf, h3⟩
            exact ⟨v, rfl, by rw [hd]; exact next _ _ _ (hrr hwf) (h3 i.dst htd)⟩
        · exact hr.elim
      rw [if_neg hT] at hr
      by_cases hcall : i.op.isCall = true
      · rw [if_pos hcall] at hr
        have hco := hc1 hcall
        split at hr
        · rename_i f ds c hev
          obtain ⟨hc, d, hp, hbel, hrr⟩ := hr
          cases b with
          | false =>
            rw [if_neg (by rw [hw]; simp), hd]
            exact ⟨fun _ _ => trivial, next _ _ _ hrr (hs.skip rfl d (fun p _ => DV.nm_mono (fun _ h => by omega) d (bel_nm hbel)) htd)⟩
          | true =>
            rw [if_pos hw]
            obtain ⟨vs, fid, rfl, h1, h2⟩ := hs.call hco hev (hc rfl) (hp rfl)
            obtain ⟨_, he, hp'⟩ := hp rfl
            obtain rfl := Fn.func.inj he
            refine opIn_call (callOk_defer hco) (f := .func fid) (vs := vs) (fun _ => h1) (fun fid' h => by obtain rfl := Fn.func.inj h; exact hp'.enter) (Calls.mono h2 ?_)
            rintro e w' ⟨v, rfl, _, h3⟩
            exact ⟨v, rfl, by rw [hd]; exact next _ _ _ hrr (h3 i.dst htd).2⟩
        · exact hr.elim
      · rw [if_neg hcall] at hr
        have hco := hc2 (by simpa using hcall)
        split at hr
        · rename_i t hst
          by_cases hh : t.up.isEmpty = true ∧ t.al = 0
          case neg =>
            rw [gok, if_neg hh, gnx, if_neg hh] at hr
            obtain ⟨⟨rfl, hc⟩, hrr⟩ := hr
            rw [sg_true] at hst
            rw [if_pos hw]
            have hnb : i.op ≠ .bad := fun hb => by rw [hb] at hst; obtain rfl := Option.some.inj hst; exact hc.elim
            obtain ⟨y, v, w', h1, h2, h3, _⟩ := hs.step hco hst hc
            rcases h2 with rfl | ⟨rfl, rfl⟩
            · exact opIn_value (cmp_defer hco hnb) h1 (by rw [hd]; exact next _ _ _ hrr (h3 i.dst htd))
            · exact opIn_skip (cmp_defer hco hnb) h1 (by rw [hd]; exact next _ _ _ hrr (h3 i.dst htd))
          rw [gok, if_pos hh, gnx, if_pos hh] at hr
          obtain ⟨⟨hbel, hc⟩, hrr⟩ := hr
          obtain ⟨hup, hal⟩ := hh
          cases b with
          | false =>
            rw [if_neg (by rw [hw]; simp), hd]
            exact ⟨fun _ _ => trivial, next _ _ _ hrr (hs.skip rfl t.v (fun p h => h ▸ bel_nm hbel) htd)⟩
          | true =>
            rw [sg_true] at hst
            rw [if_pos hw]
            have hnb : i.op ≠ .bad := fun hb => by rw [hb] at hst; obtain rfl := Option.some.inj hst; exact (hc rfl).elim
            obtain ⟨y, v, w', h1, h2, _, h3⟩ := hs.step hco hst (hc rfl)
            have h3 := h3 (by simpa using hup) hal i.dst htd
            rcases h2 with rfl | ⟨rfl, rfl⟩
            · exact opIn_value (cmp_defer hco hnb) h1 (by rw [hd]; exact next _ _ _ hrr h3)
            · exact opIn_skip (cmp_defer hco hnb) h1 (by rw [hd]; exact next _ _ _ hrr h3)
        · exact hr.elim
end
end Go.Proofs.YthocoandbiaoiaaDoorV

namespace Go.Proofs.YthocoandbiaoiaaDoorV
open Go
def O.sl : O → List Nat
  | .t i => [i]
  | _ => []
def osl (l : List O) : List Nat := l.flatMap O.sl
def opsl : Option O → List Nat
  | some o => o.sl
  | none => []
def IOp.sl : IOp → List Nat
  | .mov x | .un _ x | .isnil _ _ x | .conv _ x | .idc x | .b2s x | .box _ x | .load _ x | .nilc x | .fad _ x | .fld _ _ x | .ext x _ | .len x | .lens x | .mks _ _ _ x | .mkz _ _ x | .mkc _ _ x | .mlen x => x.sl
  | .land x y | .lor x y | .bin _ x y | .beq _ x y | .store _ x y | .iad _ x y | .iada _ _ x y | .ixs x y | .mx x y | .mn x y | .app _ _ x y | .appm _ _ x y | .ceq _ _ x y | .ment _ _ x y => x.sl ++ y.sl
  | .pick x y z | .mup _ x y z | .mest x y z => x.sl ++ y.sl ++ z.sl
  | .look _ _ x y _ => x.sl ++ y.sl
  | .build _ ps => osl (ps.map (·.2))
  | .lit _ ps => osl ps
  | .litm _ ps => osl ps
  | .mkf _ a c => osl a ++ osl c
  | .cut _ x lo hi | .cuts x lo hi => x.sl ++ opsl lo ++ opsl hi
  | .cut3 _ x lo hi q => x.sl ++ lo.sl ++ hi.sl ++ q.sl
  | .callf _ xs | .callt _ xs | .callr _ xs => osl xs
  | .callv x xs => x.sl ++ osl xs
  | .alloc _ | .mkm | .bad => []
section
variable {gl : Glob} {e e' : Env}
theorem ev_congr {x : O} (h : ∀ t ∈ x.sl, eget e t = eget e' t) : ev gl e x = ev gl e' x := by
  cases x <;> simp only [ev]
  exact h _ (by simp [O.sl])
theorem evs_congr {x : O} (h : ∀ t ∈ x.sl, eget e t = eget e' t) : evs gl e x = evs gl e' x := by
  unfold evs; rw [ev_congr h]
theorem evAll_congr : ∀ {xs : List O}, (∀ t ∈ osl xs, eget e t = eget e' t) → evAll gl e xs = evAll gl e' xs
  | [], _ => rfl
  | x :: r, h => by
    simp only [osl, List.flatMap_cons, List.mem_append] at h
    simp only [evAll, evs_congr (x := x) fun t ht => h t (.inl ht), evAll_congr (xs := r) fun t ht => h t (.inr ht)]
theorem evInt_congr {x : O} (h : ∀ t ∈ x.sl, eget e t = eget e' t) : evInt gl e x = evInt gl e' x := by
  unfold evInt; rw [evs_congr h]
theorem evLo_congr {x : Option O} (h : ∀ t ∈ opsl x, eget e t = eget e' t) : evLo gl e x = evLo gl e' x := by
  cases x with
  | none => rfl
  | some x => exact evInt_congr h
theorem evHi_congr {n : Nat} {x : Option O} (h : ∀ t ∈ opsl x, eget e t = eget e' t) : evHi gl e n x = evHi gl e' n x := by
  cases x with
  | none => rfl
  | some x => exact evInt_congr h
theorem at_congr {hl hl' : Nat → Option Ob} {d : DV} {cs : List DV} {rd : List Nat} (h : at_ hl d = some (cs, rd)) (hh : ∀ i ∈ rd, hl i = hl' i) : at_ hl' d = some (cs, rd) := by
  unfold at_ at h ⊢
  split
  · exact h
  · rename_i id off
    simp only at h
    split at h
    · rename_i cs' he
      simp only [Option.some.injEq, Prod.mk.injEq] at h
      obtain ⟨rfl, rfl⟩ := h
      rw [← hh id (by simp), he]
    · simp at h
  · simp at h
theorem stp_congr {hl hl' : Nat → Option Ob} {nid : Nat} {i : IOp} {r : Stp} (he : ∀ t ∈ i.sl, eget e t = eget e' t) (h : stp gl e hl nid i = some r) (hh : ∀ id ∈ r.rd, hl id = hl' id) : stp gl e' hl' nid i = some r := by
  cases i <;> simp only [IOp.sl, List.mem_append] at he <;> simp only [stp] at h ⊢
  case mov x => rw [← evs_congr he]; exact h
  case load n x =>
    rw [← evs_congr he]
    split at h
    · split at h
      · rename_i cs rd hat
        rw [at_congr hat fun i hi => hh i (by
          simp only [Option.map_eq_some_iff] at h
          obtain ⟨_, _, rfl⟩ := h; exact hi)]
        exact h
      · simp at h
    · simp at h
  case store n x y =>
    rw [← evs_congr fun t ht => he t (.inl ht), ← evs_congr fun t ht => he t (.inr ht)]
    split at h
    · rename_i id off c d c' hx hy
      split at h
      · rename_i cs hob
        split at h
        · rename_i hk
          obtain rfl := Option.some.inj h
          rw [← hh id (by simp), hob]; simp only; rw [if_pos hk]
        · simp at h
      · simp at h
    · simp at h
  case app sz bytes x y =>
    rw [← evs_congr fun t ht => he t (.inl ht), ← evs_congr fun t ht => he t (.inr ht)]
    split at h
    · split at h
      · split at h
        · exact h
        · exact h
        · split at h
          · rename_i hob
            split at h
            · rename_i hk
              obtain rfl := Option.some.inj h
              rw [← hh _ (by simp), hob]; simp only; rw [if_pos hk]
            · simp at h
          · simp at h
        · exact h
      · simp at h
    · simp at h
  case cut sz x lo hi =>
    rw [← evs_congr fun t ht => he t (.inl (.inl ht)), ← evLo_congr fun t ht => he t (.inl (.inr ht))]
    simp only [← evHi_congr fun t ht => he t (.inr ht)]; exact h
  case cuts x lo hi =>
    rw [← evs_congr fun t ht => he t (.inl (.inl ht)), ← evLo_congr fun t ht => he t (.inl (.inr ht))]
    simp only [← evHi_congr fun t ht => he t (.inr ht)]; exact h
  case build z ps => rw [← evAll_congr he]; exact h
  case lit sz ps => rw [← evAll_congr he]; exact h
  case litm sz ps => rw [← evAll_congr he]; exact h
  case cut3 sz x lo hi q =>
    rw [← evs_congr fun t ht => he t (.inl (.inl (.inl ht))), ← evInt_congr fun t ht => he t (.inl (.inl (.inr ht))), ← evInt_congr fun t ht => he t (.inl (.inr ht)), ← evInt_congr fun t ht => he t (.inr ht)]; exact h
  case mkf f a k => rw [← evAll_congr fun t ht => he t (.inl ht), ← evAll_congr fun t ht => he t (.inr ht)]; exact h
  case pick x y z => rw [← evs_congr fun t ht => he t (.inl (.inl ht)), ← evs_congr fun t ht => he t (.inl (.inr ht)), ← evs_congr fun t ht => he t (.inr ht)]; exact h
  case look kd z x k ok =>
    rw [← evs_congr fun t ht => he t (.inl ht), ← evs_congr fun t ht => he t (.inr ht)]
    split at h
    · split at h
      · rename_i hob
        obtain rfl := Option.some.inj h
        rw [← hh _ (by simp), hob]
      · simp at h
    · exact h
    · simp at h
  case mup kd x k v =>
    rw [← evs_congr fun t ht => he t (.inl (.inl ht)), ← evs_congr fun t ht => he t (.inl (.inr ht)), ← evs_congr fun t ht => he t (.inr ht)]
    split at h
    · split at h
      · rename_i hob
        obtain rfl := Option.some.inj h
        rw [← hh _ (by simp), hob]
      · simp at h
    · simp at h
  case ment kd z x k =>
    rw [← evs_congr fun t ht => he t (.inl ht), ← evs_congr fun t ht => he t (.inr ht)]
    split at h
    · split at h
      · rename_i hob
        split at h
        · rename_i hf
          obtain rfl := Option.some.inj h
          rw [← hh _ (by simp), hob]; simp only [hf]
        · rename_i hf
          obtain rfl := Option.some.inj h
          rw [← hh _ (by simp), hob]; simp only [hf]
      · simp at h
    · simp at h
  case mest x s v =>
    rw [← evs_congr fun t ht => he t (.inl (.inl ht)), ← evs_congr fun t ht => he t (.inl (.inr ht)), ← evs_congr fun t ht => he t (.inr ht)]
    split at h
    · split at h
      · rename_i hob
        split at h
        · rename_i hy
          split at h
          · rename_i hk
            obtain rfl := Option.some.inj h
            rw [← hh _ (by simp), hob]; simp only [hy]; rw [if_pos hk]
          · simp at h
        · simp at h
      · simp at h
    · simp at h
  case mlen x =>
    rw [← evs_congr he]
    split at h
    · split at h
      · rename_i hob
        obtain rfl := Option.some.inj h
        rw [← hh _ (by simp), hob]
      · simp at h
    · exact h
    · simp at h
  all_goals first
    | exact h
    | (simp at h; done)
    | (rw [← evs_congr he]; exact h)
    | (rw [← evs_congr fun t ht => he t (.inl ht), ← evs_congr fun t ht => he t (.inr ht)]; exact h)
end
structure Ent where
  dst : Option Nat
  v : DV
  up : Heap := []
  rd : List Nat := []
inductive EntOk (P : Program) (gl : Glob) (n1 : Nat) (i : Ins) (e : Env) (hl : Nat → Option Ob) (nid : Nat) : Ent → Prop
  | step {r : Stp} (hg : i.gd = none) (hc : i.op.isCall = false) (h : stp gl e hl nid i.op = some r) (hcc : r.c) (hal : r.al ≤ 1) : EntOk P gl n1 i e hl nid ⟨i.dst, r.v, r.up, r.rd⟩
  | call {f : Fn} {ds : List DV} {c : Prop} {d : DV} (hg : i.gd = none) (hc : i.op.isCall = true) (h : evCall gl e i.op = some (f, ds, c)) (hcc : c) (hp : PCallF P gl f ds d) : EntOk P gl n1 i e hl nid ⟨i.dst, d, [], []⟩
  | acall {f : Fn} {ds : List DV} {c : Prop} {ρ : List Nat} {ds0 : List DV} {H : Heap} {d : DV} {H' : Heap} {n' : Nat} (hg : i.gd = none) (hc : i.op.isCall = true) (h : evCall gl e i.op = some (f, ds, c)) (hcc : c) (hp : ACall P gl f ρ.length ds0 H d H' n')
      (hf : ∃ fid, f = .func fid) (hnd : ρ.Nodup) (hn' : n' ≤ ρ.length + 1) (hds : ds0.map (·.ren (rh ρ nid)) = ds) (hall : ∀ i, i < ρ.length → (hget H i).isSome = true ∧ (hget H' i).isSome = true) (hkey : (H'.map (·.1)).Nodup)
      (hsame : ∀ i o, hget H i = some o → hl (rh ρ nid i) = some (o.ren (rh ρ nid))) : EntOk P gl n1 i e hl nid ⟨i.dst, d.ren (rh ρ nid), renH ρ nid H', ρ⟩
  | gstep {t : Nat} {want b : Bool} {r : Stp} (hg : i.gd = some (t, want)) (hb : gval e t want = some b) (hc : i.op.isCall = false) (h : stp gl e hl nid i.op = some r) (hu : r.up = []) (hal : r.al = 0)
      (hbel : r.v.bel n1 = true) (hcc : b = true → r.c) : EntOk P gl n1 i e hl nid ⟨i.dst, .gd b r.v, [], r.rd⟩
  | gcall {t : Nat} {want b : Bool} {f : Fn} {ds : List DV} {c : Prop} {d : DV} (hg : i.gd = some (t, want)) (hb : gval e t want = some b) (hc : i.op.isCall = true) (h : evCall gl e i.op = some (f, ds, c))
      (hcc : b = true → c) (hp : b = true → PCallF P gl f ds d) (hbel : d.bel 0 = true) : EntOk P gl n1 i e hl nid ⟨i.dst, .gd b d, [], []⟩
  | gskip {t : Nat} {want : Bool} (hg : i.gd = some (t, want)) (hb : gval e t want = some false) (hc : i.op.isCall = false) : EntOk P gl n1 i e hl nid ⟨i.dst, .gd false (.pv (.bool false)), [], []⟩
def eput (e : Env) (dst : Option Nat) (v : DV) : Env :=
  match dst with
  | some d => (d, v) :: e
  | none => e
def GSim (gl : Glob) (K : Nat → Prop) (w0 : World) (n0 : Nat) (nt : NT) (g0 : Gh) (e : Env) (h : Heap) (fr : Nat → Prop) (a : Act) (w : World) : Prop :=
  ∃ g, GLe K (fun i => i < n0) g0 g ∧ (∀ i, i < n0 → ¬ fr i) ∧ SimH gl K w0 (hget h) fr g w ∧ SimE nt (eget e) fr g a
section
variable {P : Program} {gl : Glob} {K : Nat → Prop} {w0 : World} {hl : Nat → Option Ob} {fr fr' : Nat → Prop} {g g' g0 : Gh} {w : World} {n0 : Nat} {nt : NT} {n1 : Nat} {a : Act} {e : Env} {h : Heap}
theorem SimH.frmono (hH : SimH gl K w0 hl fr g w) (hf : ∀ i, fr' i → fr i) : SimH gl K w0 hl fr' g w :=
  { os := hH.os, tape := hH.tape, output := hH.output, size := hH.size, kept := hH.kept, old := hH.old, mem := hH.mem, ids := fun i o hi hf' => hH.ids i o hi (hf i hf'), low := fun i hf' => hH.low i (hf i hf')
    obj := hH.obj, nm := fun i o hi => Ob.nm_mono (fun _ hj hf' => hj (hf _ hf')) (hH.nm i o hi), inj := hH.inj, off := hH.off, glo := hH.glo }
theorem GSim.frmono (hs : GSim gl K w0 n0 nt g0 e h fr a w) (hf : ∀ i, fr' i → fr i) : GSim gl K w0 n0 nt g0 e h fr' a w := by
  obtain ⟨g, hg, hn, hH, hE⟩ := hs
  exact ⟨g, hg, fun i hi hf' => hn i hi (hf i hf'), hH.frmono hf, hE.mono (GLe.refl K _ _) hf⟩
theorem GSim.congr {e' : Env} {h' : Heap} (hs : GSim gl K w0 n0 nt g0 e h fr a w) (he : ∀ t, eget e t = eget e' t) (hh : ∀ i, hget h i = hget h' i) : GSim gl K w0 n0 nt g0 e' h' fr a w := by
  obtain ⟨g, hg, hn, hH, hE⟩ := hs
  have e1 : eget e = eget e' := funext he
  have e2 : hget h = hget h' := funext hh
  exact ⟨g, hg, hn, e2 ▸ hH, e1 ▸ hE⟩
theorem gvalE {ops : Array Oper} {o : Oper} {t : Nat} {want b : Bool} (hE : SimE nt (eget e) fr g a) (hg : gdOk ops o.guard (some (t, want)) = true) (hv : gval e t want = some b) :
    Region.wanted o (yielded ops a.tmps) = b := by
  cases ho : o.guard with
  | none => simp [ho, gdOk] at hg
  | some x =>
    obtain ⟨j, w'⟩ := x
    simp only [ho, gdOk, Bool.and_eq_true, beq_iff_eq] at hg
    obtain ⟨rfl, hd⟩ := hg
    simp only [Region.wanted, ho, yielded, hd, Option.bind_some]
    unfold gval at hv
    split at hv
    · rename_i c he
      obtain rfl := Option.some.inj hv
      obtain ⟨v, h1, h2⟩ := hE.val _ _ he
      rw [h1, h2.bool_inv]
      cases c <;> cases w' <;> rfl
    · rename_i c q he
      obtain rfl := Option.some.inj hv
      obtain ⟨v, h1, h2⟩ := hE.val _ _ he
      rw [h1]
      cases h2
      rename_i h4 h3
      cases c with
      | true => rw [(h3 rfl).bool_inv]; cases q <;> cases w' <;> rfl
      | false => rw [h4 rfl]; cases w' <;> rfl
    · simp at hv
theorem eput_eq (s : St) (dst : Option Nat) (v : DV) : (s.put dst v).e = eput s.e dst v := by cases dst <;> rfl
theorem SimE.eput (hE : SimE nt (eget e) fr g a) {dst : Option Nat} {d : DV} {v : Value} (hd : DRep g d v) (hn : d.nm fun i => ¬ fr i) (hdst : ∀ t, dst = some t → t < nt.n) : SimE nt (eget (eput e dst d)) fr g (a.put dst v) := by
  have := SimE.put (s := ⟨e, [], 0⟩) hE hd hn hdst
  rwa [eput_eq] at this
theorem hget_upd {up : Heap} : ∀ {h : Heap}, (up.map (·.1)).Nodup → ∀ j, hget (upd h up) j = (match hget up j with | some o => some o | none => hget h j) := by
  induction up with
  | nil => intro h _ j; rfl
  | cons x r ih =>
    obtain ⟨i, o⟩ := x
    intro h hn j
    simp only [List.map_cons, List.nodup_cons] at hn
    rw [upd, ih hn.2]
    simp only [hget]
    by_cases hj : j = i
    · subst hj
      have : hget r j = none := by
        cases hr : hget r j with
        | none => rfl
        | some o' =>
          exfalso; apply hn.1
          have key : ∀ (r : Heap), hget r j = some o' → j ∈ r.map (·.1) := by
            intro r; induction r with
            | nil => intro h; simp [hget] at h
            | cons y r ih => intro h; simp only [hget] at h; split at h
                             · rename_i he; simp [he]
                             · simp [ih h]
          exact key r hr
      rw [this, if_pos rfl, hget_hset, if_pos rfl]
    · rw [if_neg hj]
      cases hget r j with
      | some o' => rfl
      | none => rw [hget_hset, if_neg hj]
theorem EntOk.sound {ro : Option Nat} {ops : Array Oper} {o : Oper} {i : Ins} {nid j : Nat} {n : Ent} {Q : Exit → Act → World → Prop} {Kc : Act → World → Prop} (he : EntOk P gl n1 i e (hget h) nid n) (hk : insOk P nt.n ops o i = true) (hj : ops[j]? = some o)
    (hs : GSim gl K w0 n0 nt g0 e h fr a w) (hn : fr nid) (hn1 : ∀ i, i < n1 → ¬ fr i)
    (hK : ∀ a' w', GSim gl K w0 n0 nt g0 (Go.Proofs.YthocoandbiaoiaaDoorV.eput e n.dst n.v) (upd h n.up) (fun x => fr x ∧ x ≠ nid) a' w' → Kc a' w') : wpOpIn (WF ro) 0 P ops Q j Kc a w := by
  simp only [insOk, Bool.and_eq_true, Bool.or_eq_true, beq_iff_eq] at hk
  obtain ⟨⟨⟨hd, hg⟩, ht⟩, hop⟩ := hk
  have htd : ∀ t, i.dst = some t → t < nt.n := fun t h => by rw [h] at ht; simpa using ht
  have hc1 : i.op.isCall = true → callOk o.op i.op = true := fun hcall => by
    rcases hop with h | h
    · exfalso; revert h hcall; cases i.op <;> simp [IOp.isCall] <;> cases o.op <;> simp [cmp]
    · exact h
  have hc2 : i.op.isCall = false → cmp P o.op i.op = true := fun hcall => by
    rcases hop with h | h
    · exact h
    · exfalso; revert h hcall; cases i.op <;> simp [IOp.isCall, callOk]
  obtain ⟨g, hgl, hn0, hH, hE⟩ := hs
  have hnle : ∀ {g'}, GLe K (fun i => ¬ fr i) g g' → GLe K (fun i => i < n0) g0 g' := fun hx => hgl.trans (hx.le hn0)
  unfold wpOpIn
  simp only [hj]
  cases he with
  | step hgd hcl hst hcc hal =>
    rename_i r
    rw [hgd] at hg
    rw [if_pos (wanted_none hg)]
    have hnb : i.op ≠ .bad := fun hb => by rw [hb] at hst; obtain rfl := Option.some.inj hst; exact hcc.elim
    obtain ⟨y, v, w', g', h1, h2, h3, h4, h5, h6⟩ := stp_sound (P := P) hH hE (hc2 hcl) hst hcc hn
    rw [upf_upd] at h3
    have hsub : ∀ x, (fr x ∧ x ≠ nid) → frl fr nid r.al x := by
      intro x hx
      have : r.al = 0 ∨ r.al = 1 := by omega
      rcases this with h | h
      · rw [h]; exact hx.1
      · rw [h, frl_one]; exact hx
    have fin : GSim gl K w0 n0 nt g0 (Go.Proofs.YthocoandbiaoiaaDoorV.eput e i.dst r.v) (upd h r.up) (fun x => fr x ∧ x ≠ nid) (a.put i.dst v) w' :=
      ⟨g', hnle h4, fun x hx hf => hn0 x hx hf.1, h3.frmono hsub, (hE.mono h4 fun x hx => hx.1).eput h5 (DV.nm_mono (fun _ hx hf => hx (hsub _ hf)) _ h6) htd⟩
    rcases h2 with rfl | ⟨rfl, rfl⟩
    · exact opIn_value (cmp_defer (hc2 hcl) hnb) h1 (by rw [hd]; exact hK _ _ fin)
    · exact opIn_skip (cmp_defer (hc2 hcl) hnb) h1 (by rw [hd]; exact hK _ _ fin)
  | call hgd hcl hst hcc hp =>
    rw [hgd] at hg
    rw [if_pos (wanted_none hg)]
    obtain ⟨vs, h1, h2, h3⟩ := callVs0 (P := P) hH hE (hc1 hcl) hst hcc
    obtain ⟨fid, rfl, hp⟩ := hp
    refine opIn_call (callOk_defer (hc1 hcl)) (f := .func fid) (vs := vs) (fun _ => h1 hp.enter) (fun fid' h => by obtain rfl := Fn.func.inj h; exact hp.enter) (Calls.mono (hp.framed hH h2 h3) ?_)
    rintro e w' ⟨v, g', rfl, h4, h5, h6⟩
    refine ⟨v, rfl, ?_⟩
    rw [hd]
    refine hK _ _ ⟨g', hnle h6, fun x hx hf => hn0 x hx hf.1, h5.frmono fun x hx => hx.1, (hE.mono h6 fun x hx => hx.1).eput h4 (DV.nm_mono (fun _ hf => hf.elim) _ hp.res) htd⟩
  | acall hgd hcl hst hcc hp hf hnd hn' hds hall hkey hsame =>
    rename_i f ds c ρ ds0 H d H' n'
    rw [hgd] at hg
    rw [if_pos (wanted_none hg)]
    obtain ⟨vs, h1, h2, h3⟩ := callVs0 (P := P) hH hE (hc1 hcl) hst hcc
    obtain ⟨fid, rfl⟩ := hf
    have hle := hp.le
    have hnidh : hget h nid = none := by
      cases hs : hget h nid with
      | none => rfl
      | some o => exact absurd hn (hH.ids _ o hs)
    have hρ : ∀ i ∈ ρ, ¬ fr i := fun i hi => by
      obtain ⟨k, hk, rfl⟩ := List.getElem_of_mem hi
      obtain ⟨ob, hob⟩ := Option.isSome_iff_exists.1 (hall k hk).1
      have := hsame k ob hob
      have e1 : rh ρ nid k = ρ[k] := by simp [rh, hk]
      rw [e1] at this
      exact hH.ids _ _ this
    have hnρ : nid ∉ ρ := fun hm => hρ _ hm hn
    let ι : Nat → Option Nat := fun j => if j ∈ ρ then some (ρ.idxOf j) else if j = nid ∧ ρ.length < n' then some ρ.length else none
    have hrlt : ∀ i, i < ρ.length → rh ρ nid i ∈ ρ ∧ ρ.idxOf (rh ρ nid i) = i := fun i hi => by
      have e1 : rh ρ nid i = ρ[i] := by simp [rh, hi]
      rw [e1]
      exact ⟨List.getElem_mem hi, hnd.idxOf_getElem i hi⟩
    have hrge : ∀ i, ρ.length ≤ i → i < n' → rh ρ nid i = nid := fun i h1 h2 => by
      have : ¬ i < ρ.length := by omega
      simp only [rh, this, if_false]; omega
    have hι : ∀ i j, ι j = some i ↔ (i < n' ∧ rh ρ nid i = j) := by
      intro i j
      simp only [ι]
      constructor
      · intro h
        split at h
        · rename_i hm
          obtain rfl := Option.some.inj h
          have hi : ρ.idxOf j < ρ.length := List.idxOf_lt_length_iff.2 hm
          refine ⟨by omega, ?_⟩
          simp [rh, hi]
        · split at h
          · rename_i hj
            obtain rfl := Option.some.inj h
            exact ⟨hj.2, by rw [hrge _ (Nat.le_refl _) hj.2]; exact hj.1.symm⟩
          · simp at h
      · rintro ⟨hi, rfl⟩
        by_cases hil : i < ρ.length
        · obtain ⟨h1, h2⟩ := hrlt i hil
          rw [if_pos h1, h2]
        · have e1 := hrge i (by omega) hi
          rw [e1, if_neg hnρ, if_pos ⟨rfl, by omega⟩]
          congr 1; omega
    have hfr := ACall.framed hp (ρ := rh ρ nid) (ι := ι) hι (fun i hi => hρ _ (hrlt i hi).1) (fun i h1 h2 => by rw [hrge i h1 h2]; exact hn) hH hsame (by rw [← h2, ← hds]; simp) (fun j x v hx hu => h3 j _ v (by rw [← hds, List.getElem?_map, hx]; rfl) hu)
    refine opIn_call (callOk_defer (hc1 hcl)) (f := .func fid) (vs := vs) (fun _ => h1 (hp.enter fid rfl)) hp.enter (runFn.mono hfr ?_)
    rintro e1 w' ⟨v, g', rfl, h4, h5, h6⟩
    refine ⟨v, rfl, ?_⟩
    rw [hd]
    have hup : ((renH ρ nid H').map (·.1)).Nodup := by
      have e1 : ∀ (X : Heap), (renH ρ nid X).map (·.1) = (X.map (·.1)).map (rh ρ nid) := by
        intro X; induction X with
        | nil => rfl
        | cons x r ih => obtain ⟨i, o⟩ := x; simp [renH, ih]
      rw [e1]
      refine List.Pairwise.map _ (R := fun a b => a ∈ H'.map (·.1) ∧ b ∈ H'.map (·.1) ∧ a ≠ b) (fun a b hab he => ?_) (List.Pairwise.imp_of_mem (fun ha hb hne => ⟨ha, hb, hne⟩) hkey)
      obtain ⟨oa, ha⟩ := hget_mem hab.1
      obtain ⟨ob, hb⟩ := hget_mem hab.2.1
      have k1 := (hι a _).2 ⟨(hp.obs' a oa ha).1, rfl⟩
      have k2 := (hι b _).2 ⟨(hp.obs' b ob hb).1, he.symm⟩
      rw [k1] at k2; exact hab.2.2 (Option.some.inj k2)
    have hjoin : joinH ι (rh ρ nid) H' (hget h) = hget (upd h (renH ρ nid H')) := by
      funext j
      rw [hget_upd hup]
      unfold joinH
      cases hij : ι j with
      | none =>
        have hj : ∀ i, i < n' → rh ρ nid i ≠ j := fun i hi he => by have := (hι i j).2 ⟨hi, he⟩; rw [hij] at this; simp at this
        have := renH_off (ρ := ρ) (nx := nid) (X := []) (j := j) (H := H') fun i hi => hj i (let ⟨o, ho⟩ := hget_mem hi; (hp.obs' i o ho).1)
        rw [List.append_nil] at this
        rw [this]; rfl
      | some i =>
        obtain ⟨hi, rfl⟩ := (hι i j).1 hij
        have := renH_on (ρ := ρ) (nx := nid) (X := []) (i := i) (H := H') (fun k hk he => by
          obtain ⟨o, hk⟩ := hget_mem hk
          have h1 := (hι i _).2 ⟨hi, rfl⟩
          have h2 := (hι k _).2 ⟨(hp.obs' k o hk).1, he⟩
          rw [h1] at h2; exact (Option.some.inj h2).symm)
        rw [List.append_nil] at this
        rw [this]
        cases hho : hget H' i with
        | some o => simp [hho]
        | none =>
          by_cases hil : i < ρ.length
          · have := (hall i hil).2; rw [hho] at this; simp at this
          · rw [hrge i (by omega) hi]; simp [hho, hnidh, hget]
    rw [hjoin] at h5
    have hfx : ∀ x, fr x ∧ x ≠ nid → fr x ∧ ι x = none := fun x hx => ⟨hx.1, by
      have h1 : x ∉ ρ := fun hm => hρ x hm hx.1
      have h2 : ¬ (x = nid ∧ ρ.length < n') := fun hh => hx.2 hh.1
      simp only [ι, if_neg h1, if_neg h2]⟩
    refine hK _ _ ⟨g', hnle h6, fun x hx hf => hn0 x hx hf.1, h5.frmono hfx, (hE.mono h6 fun x hx => hx.1).eput h4 (DV.nm_ren (fun i hi hf => ?_) d hp.res) htd⟩
    by_cases hil : i < ρ.length
    · exact hρ _ (hrlt i hil).1 hf.1
    · exact hf.2 (hrge i (by omega) hi)
  | gstep hgd hb hcl hst hu hal hbel hcc =>
    rename_i t want b r
    rw [hgd] at hg
    have hw := gvalE hE hg hb
    cases b with
    | false =>
      rw [if_neg (by rw [hw]; simp), hd]
      refine ⟨fun _ _ => trivial, hK _ _ ⟨g, hgl, fun x hx hf => hn0 x hx hf.1, hH.frmono fun x hx => hx.1, (hE.mono (GLe.refl K _ _) fun x hx => hx.1).eput (.gd (fun h => by simp at h) fun _ => rfl) ?_ htd⟩⟩
      rw [DV.nm]
      exact DV.nm_mono (fun x hx hf => by have := hn1 x; exact this (by omega) hf.1) _ (bel_nm hbel)
    | true =>
      rw [if_pos hw]
      have hnb : i.op ≠ .bad := fun hb => by rw [hb] at hst; obtain rfl := Option.some.inj hst; exact (hcc rfl).elim
      obtain ⟨y, v, w', g', h1, h2, h3, h4, h5, h6⟩ := stp_sound (P := P) hH hE (hc2 hcl) hst (hcc rfl) hn
      rw [hu, hal] at h3
      rw [hal] at h6
      have fin : GSim gl K w0 n0 nt g0 (Go.Proofs.YthocoandbiaoiaaDoorV.eput e i.dst (.gd true r.v)) h (fun x => fr x ∧ x ≠ nid) (a.put i.dst v) w' :=
        ⟨g', hnle h4, fun x hx hf => hn0 x hx hf.1, h3.frmono fun x hx => hx.1, (hE.mono h4 fun x hx => hx.1).eput (.gd (fun _ => h5) fun h => by simp at h) (by rw [DV.nm]; exact DV.nm_mono (fun _ hx hf => hx hf.1) _ h6) htd⟩
      rcases h2 with rfl | ⟨rfl, rfl⟩
      · exact opIn_value (cmp_defer (hc2 hcl) hnb) h1 (by rw [hd]; exact hK _ _ fin)
      · exact opIn_skip (cmp_defer (hc2 hcl) hnb) h1 (by rw [hd]; exact hK _ _ fin)
  | gskip hgd hb hcl =>
    rename_i t want
    rw [hgd] at hg
    have hw := gvalE hE hg hb
    rw [if_neg (by rw [hw]; simp), hd]
    refine ⟨fun _ _ => trivial, hK _ _ ⟨g, hgl, fun x hx hf => hn0 x hx hf.1, hH.frmono fun x hx => hx.1, (hE.mono (GLe.refl K _ _) fun x hx => hx.1).eput (.gd (fun h => by simp at h) fun _ => rfl) ?_ htd⟩⟩
    rw [DV.nm]
    exact DV.nm_mono (fun x hx hf => by have := hn1 x; exact this (by omega) hf.1) _ (bel_nm (n := n1) (d := .pv (.bool false)) rfl)
  | gcall hgd hb hcl hst hcc hp hbel =>
    rename_i t want b f ds c d
    rw [hgd] at hg
    have hw := gvalE hE hg hb
    cases b with
    | false =>
      rw [if_neg (by rw [hw]; simp), hd]
      refine ⟨fun _ _ => trivial, hK _ _ ⟨g, hgl, fun x hx hf => hn0 x hx hf.1, hH.frmono fun x hx => hx.1, (hE.mono (GLe.refl K _ _) fun x hx => hx.1).eput (.gd (fun h => by simp at h) fun _ => rfl) ?_ htd⟩⟩
      rw [DV.nm]
      exact DV.nm_mono (fun x hx hf => by omega) _ (bel_nm hbel)
    | true =>
      rw [if_pos hw]
      obtain ⟨fid, rfl, hp'⟩ := hp rfl
      obtain ⟨vs, h1, h2, h3⟩ := callVs0 (P := P) hH hE (hc1 hcl) hst (hcc rfl)
      refine opIn_call (callOk_defer (hc1 hcl)) (f := .func fid) (vs := vs) (fun _ => h1 hp'.enter) (fun fid' h => by obtain rfl := Fn.func.inj h; exact hp'.enter) (Calls.mono (hp'.framed hH h2 h3) ?_)
      rintro e w' ⟨v, g', rfl, h4, h5, h6⟩
      refine ⟨v, rfl, ?_⟩
      rw [hd]
      refine hK _ _ ⟨g', hnle h6, fun x hx hf => hn0 x hx hf.1, h5.frmono fun x hx => hx.1, (hE.mono h6 fun x hx => hx.1).eput (.gd (fun _ => h4) fun h => by simp at h) (by rw [DV.nm]; exact DV.nm_mono (fun _ hf => hf.elim) _ hp'.res) htd⟩
end
end Go.Proofs.YthocoandbiaoiaaDoorV

namespace Go.Proofs.YthocoandbiaoiaaDoorV
open Go
def keys (h : Heap) : List Nat := h.map (·.1)
def rpe : (Nat → Bool) → List Ent → Env → Env
  | _, [], e => e
  | D, n :: L, e => rpe (fun k => D (k + 1)) L (if D 0 then eput e n.dst n.v else e)
def rph : (Nat → Bool) → List Ent → Heap → Heap
  | _, [], h => h
  | D, n :: L, h => rph (fun k => D (k + 1)) L (if D 0 then upd h n.up else h)
theorem eget_eput (e : Env) (dst : Option Nat) (v : DV) (t : Nat) : eget (eput e dst v) t = if dst = some t then some v else eget e t := by
  cases dst with
  | none => simp [eput]
  | some d =>
    simp only [eput, eget, Option.some.injEq]
    by_cases h : t = d
    · subst h; simp
    · simp [h, Ne.symm h]
theorem hget_upd_off : ∀ (up h : Heap) (i : Nat), i ∉ keys up → hget (upd h up) i = hget h i
  | [], _, _, _ => rfl
  | (j, o) :: r, h, i, hi => by
    simp only [keys, List.map_cons, List.mem_cons, not_or] at hi
    rw [upd, hget_upd_off r _ i hi.2, hget_hset, if_neg hi.1]
theorem hget_upd_congr : ∀ (up h h' : Heap) (i : Nat), (i ∉ keys up → hget h i = hget h' i) → hget (upd h up) i = hget (upd h' up) i
  | [], h, h', i, hi => hi (by simp [keys])
  | (j, o) :: r, h, h', i, hi => by
    rw [upd, upd]
    refine hget_upd_congr r _ _ i fun hn => ?_
    rw [hget_hset, hget_hset]
    split
    · rfl
    · rename_i hne
      exact hi (by simp only [keys, List.map_cons, List.mem_cons, not_or]; exact ⟨hne, hn⟩)
theorem rpe_congr : ∀ (L : List Ent) (D D' : Nat → Bool) (e e' : Env) (t : Nat), (∀ k n, L[k]? = some n → n.dst = some t → D k = D' k) → eget e t = eget e' t → eget (rpe D L e) t = eget (rpe D' L e') t
  | [], _, _, _, _, _, _, he => he
  | n :: L, D, D', e, e', t, h, he => by
    rw [rpe, rpe]
    refine rpe_congr L _ _ _ _ t (fun k m hk hm => h (k + 1) m (by simpa using hk) hm) ?_
    by_cases hd : n.dst = some t
    · have h0 := h 0 n rfl hd
      rw [← h0]
      cases D 0
      · simpa using he
      · simp [eget_eput, hd]
    · have e1 : ∀ (b : Bool) (e : Env), eget (if b then eput e n.dst n.v else e) t = eget e t := by
        intro b e; cases b
        · simp
        · simp [eget_eput, hd]
      rw [e1, e1]; exact he
theorem rph_congr : ∀ (L : List Ent) (D D' : Nat → Bool) (h h' : Heap) (i : Nat), (∀ k n, L[k]? = some n → i ∈ keys n.up → D k = D' k) → hget h i = hget h' i → hget (rph D L h) i = hget (rph D' L h') i
  | [], _, _, _, _, _, _, he => he
  | n :: L, D, D', h, h', i, hk, he => by
    rw [rph, rph]
    refine rph_congr L _ _ _ _ i (fun k m hk' hm => hk (k + 1) m (by simpa using hk') hm) ?_
    by_cases hd : i ∈ keys n.up
    · have h0 := hk 0 n rfl hd
      rw [← h0]
      cases D 0
      · simpa using he
      · simp only [if_true]; exact hget_upd_congr _ _ _ _ fun _ => he
    · have e1 : ∀ (b : Bool) (h : Heap), hget (if b then upd h n.up else h) i = hget h i := by
        intro b e; cases b
        · simp
        · simp [hget_upd_off _ _ _ hd]
      rw [e1, e1]; exact he
def more (D : Nat → Bool) (j : Nat) : Nat → Bool := fun k => D k || k == j
theorem rpe_more : ∀ (L : List Ent) (D : Nat → Bool) (j : Nat) (m : Ent) (e : Env) (t : Nat), D j = false → L[j]? = some m → (∀ k n, L[k]? = some n → D k = true → ∀ t, m.dst = some t → n.dst ≠ some t) →
    eget (rpe (more D j) L e) t = eget (eput (rpe D L e) m.dst m.v) t
  | [], _, _, _, _, _, _, hj, _ => by simp at hj
  | n :: L, D, 0, m, e, t, hD, hj, hu => by
    simp only [List.getElem?_cons_zero, Option.some.injEq] at hj
    subst hj
    rw [rpe, rpe, hD]
    have hm : more D 0 0 = true := by simp [more]
    have hs : (fun k => more D 0 (k + 1)) = fun k => D (k + 1) := by funext k; simp [more]
    rw [hm, hs, eget_eput]
    simp only [if_true, Bool.false_eq_true, if_false]
    split
    · rename_i hd
      rw [rpe_congr L _ (fun _ => false) _ (eput e n.dst n.v) t (fun k x hk hx => by
        cases hDk : D (k + 1) with
        | false => rfl
        | true => exact absurd hx (hu (k + 1) x (by simpa using hk) hDk t hd)) rfl]
      have : ∀ (L : List Ent) (e : Env), rpe (fun _ => false) L e = e := by
        intro L; induction L with
        | nil => intro e; rfl
        | cons n L ih => intro e; rw [rpe]; simpa using ih e
      rw [this, eget_eput, if_pos hd]
    · rename_i hd
      exact rpe_congr L _ _ _ _ t (fun _ _ _ _ => rfl) (by rw [eget_eput, if_neg hd])
  | n :: L, D, j + 1, m, e, t, hD, hj, hu => by
    rw [rpe, rpe]
    have h0 : more D (j + 1) 0 = D 0 := by simp [more]
    have hs : (fun k => more D (j + 1) (k + 1)) = more (fun k => D (k + 1)) j := by funext k; simp [more]
    rw [h0, hs]
    exact rpe_more L (fun k => D (k + 1)) j m _ t hD (by simpa using hj) fun k x hk hDk => hu (k + 1) x (by simpa using hk) hDk
theorem rph_more : ∀ (L : List Ent) (D : Nat → Bool) (j : Nat) (m : Ent) (h : Heap) (i : Nat), D j = false → L[j]? = some m → (∀ k n, L[k]? = some n → j < k → D k = true → ∀ i, i ∈ keys m.up → i ∉ keys n.up) →
    hget (rph (more D j) L h) i = hget (upd (rph D L h) m.up) i
  | [], _, _, _, _, _, _, hj, _ => by simp at hj
  | n :: L, D, 0, m, h, i, hD, hj, hu => by
    simp only [List.getElem?_cons_zero, Option.some.injEq] at hj
    subst hj
    rw [rph, rph, hD]
    have hm : more D 0 0 = true := by simp [more]
    have hs : (fun k => more D 0 (k + 1)) = fun k => D (k + 1) := by funext k; simp [more]
    rw [hm, hs]
    simp only [if_true, Bool.false_eq_true, if_false]
    by_cases hk : i ∈ keys n.up
    · have hno : ∀ (h : Heap), hget (rph (fun k => D (k + 1)) L h) i = hget h i := by
        intro h
        rw [rph_congr L _ (fun _ => false) h h i (fun k x hk' hx => by
          cases hDk : D (k + 1) with
          | false => rfl
          | true => exact absurd hx (hu (k + 1) x (by simpa using hk') (by omega) hDk i hk)) rfl]
        have : ∀ (L : List Ent) (e : Heap), rph (fun _ => false) L e = e := by
          intro L; induction L with
          | nil => intro e; rfl
          | cons n L ih => intro e; rw [rph]; simpa using ih e
        rw [this]
      rw [hno]
      exact hget_upd_congr _ _ _ _ fun hn => absurd hk hn
    · rw [hget_upd_off _ _ _ hk]
      exact rph_congr L _ _ _ _ i (fun _ _ _ _ => rfl) (hget_upd_off _ _ _ hk)
  | n :: L, D, j + 1, m, h, i, hD, hj, hu => by
    rw [rph, rph]
    have h0 : more D (j + 1) 0 = D 0 := by simp [more]
    have hs : (fun k => more D (j + 1) (k + 1)) = more (fun k => D (k + 1)) j := by funext k; simp [more]
    rw [h0, hs]
    exact rph_more L (fun k => D (k + 1)) j m _ i hD (by simpa using hj) fun k x hk hjk hDk => hu (k + 1) x (by simpa using hk) (by omega) hDk
def RunOk (P : Program) (gl : Glob) (n1 : Nat) : List Ins → List Ent → Env → Heap → Nat → Prop
  | [], [], _, _, _ => True
  | i :: is, n :: L, e, h, nid => EntOk P gl n1 i e (hget h) nid n ∧ RunOk P gl n1 is L (eput e n.dst n.v) (upd h n.up) (nid + 1)
  | _, _, _, _, _ => False
theorem RunOk.len {P : Program} {gl : Glob} {n1 : Nat} : ∀ {is : List Ins} {L : List Ent} {e : Env} {h : Heap} {nid : Nat}, RunOk P gl n1 is L e h nid → is.length = L.length
  | [], [], _, _, _, _ => rfl
  | _ :: is, _ :: L, _, _, _, h => by simp [RunOk.len h.2]
  | [], _ :: _, _, _, _, h => h.elim
  | _ :: _, [], _, _, _, h => h.elim
def below (j : Nat) : Nat → Bool := fun k => decide (k < j)
theorem RunOk.at {P : Program} {gl : Glob} {n1 : Nat} : ∀ {is : List Ins} {L : List Ent} {e : Env} {h : Heap} {nid : Nat}, RunOk P gl n1 is L e h nid → ∀ (j : Nat) (i : Ins) (n : Ent), is[j]? = some i → L[j]? = some n →
    EntOk P gl n1 i (rpe (below j) L e) (hget (rph (below j) L h)) (nid + j) n
  | i :: is, n :: L, e, h, nid, hr, 0, i', n', hi, hn => by
    simp only [List.getElem?_cons_zero, Option.some.injEq] at hi hn
    subst hi; subst hn
    have hb : ∀ k, below 0 k = false := fun k => by simp [below]
    have e1 : ∀ (L : List Ent) (e : Env), rpe (below 0) L e = e := by
      have hb' : below 0 = fun _ => false := funext hb
      intro L; rw [hb']; induction L with
      | nil => intro e; rfl
      | cons n L ih => intro e; rw [rpe]; simpa using ih e
    have e2 : ∀ (L : List Ent) (e : Heap), rph (below 0) L e = e := by
      have hb' : below 0 = fun _ => false := funext hb
      intro L; rw [hb']; induction L with
      | nil => intro e; rfl
      | cons n L ih => intro e; rw [rph]; simpa using ih e
    rw [e1, e2]; exact hr.1
  | i :: is, n :: L, e, h, nid, hr, j + 1, i', n', hi, hn => by
    have := RunOk.at hr.2 j i' n' (by simpa using hi) (by simpa using hn)
    rw [rpe, rph]
    have h0 : below (j + 1) 0 = true := by simp [below]
    have hs : (fun k => below (j + 1) (k + 1)) = below j := by funext k; simp [below]
    rw [h0, hs]
    simp only [if_true]
    rwa [show nid + (j + 1) = nid + 1 + j by omega]
  | [], [], _, _, _, _, j, _, _, hi, _ => by simp at hi
  | [], _ :: _, _, _, _, h, _, _, _, _, _ => h.elim
  | _ :: _, [], _, _, _, h, _, _, _, _, _ => h.elim
end Go.Proofs.YthocoandbiaoiaaDoorV

namespace Go.Proofs.YthocoandbiaoiaaDoorV
open Go
def Ins.sl (i : Ins) : List Nat := (match i.gd with | some (t, _) => [t] | none => []) ++ i.op.sl
theorem evCall_congr {gl : Glob} {e e' : Env} {i : IOp} (h : ∀ t ∈ i.sl, eget e t = eget e' t) : evCall gl e i = evCall gl e' i := by
  cases i <;> simp only [evCall]
  case callf f xs => rw [evAll_congr h]
  case callt f xs => rw [evAll_congr h]
  case callr f xs => rw [evAll_congr h]
  case callv x xs =>
    simp only [IOp.sl, List.mem_append] at h
    unfold evFn
    rw [evs_congr fun t ht => h t (.inl ht), evAll_congr fun t ht => h t (.inr ht)]
theorem EntOk.congr {P : Program} {gl : Glob} {n1 : Nat} {i : Ins} {e e' : Env} {hl hl' : Nat → Option Ob} {nid : Nat} {n : Ent} (h : EntOk P gl n1 i e hl nid n) (he : ∀ t ∈ i.sl, eget e t = eget e' t) (hh : ∀ x ∈ n.rd, hl x = hl' x) :
    EntOk P gl n1 i e' hl' nid n := by
  have he2 : ∀ t ∈ i.op.sl, eget e t = eget e' t := fun t ht => he t (by simp [Ins.sl, ht])
  have hg : ∀ t want, i.gd = some (t, want) → gval e t want = gval e' t want := fun t want h => by
    unfold gval; rw [he t (by simp [Ins.sl, h])]
  cases h with
  | step a b c d f => exact .step a b (stp_congr he2 c hh) d f
  | call a b c d f => exact .call a b (evCall_congr he2 ▸ c) d f
  | acall a b c d f hf hnd hn hds hall hkey hs => exact .acall a b (evCall_congr he2 ▸ c) d f hf hnd hn hds hall hkey fun i o hi =>
      (hh _ (by have := (f.obs i o hi).1; simp [rh, this])).symm.trans (hs i o hi)
  | gstep a b c d f g h k => exact .gstep a (hg _ _ a ▸ b) c (stp_congr he2 d hh) f g h k
  | gcall a b c d f g h => exact .gcall a (hg _ _ a ▸ b) c (evCall_congr he2 ▸ d) f g h
  | gskip a b c => exact .gskip a (hg _ _ a ▸ b) c
def aft (ops : Array Oper) (j : Nat) : List Nat := ((ops[j]?).map fun o => (o.after.toList.filter (Region.binds .any)).map (·.on)).getD []
def pget (prec : List (List Nat)) (j : Nat) : List Nat := prec.getD j []
def ordered (prec : List (List Nat)) (j k : Nat) : Bool := (pget prec j).contains k || (pget prec k).contains j
def idst (is : List Ins) (j : Nat) : Option Nat := (is[j]?).bind (·.dst)
def drawOk (ops : Array Oper) (is : List Ins) (prec : List (List Nat)) : Bool :=
  (List.range is.length).all fun j =>
    (aft ops j).all (fun k => decide (k < j)) && (pget prec j).all (fun k => decide (k < j) && ((aft ops j).contains k || (aft ops j).any fun m => (pget prec m).contains k)) &&
    (List.range is.length).all fun k => k == j || (((idst is k).isNone || idst is j != idst is k) &&
      (match is[j]? with
        | some i => (match idst is k with
          | some t => !i.sl.contains t || ordered prec j k
          | none => true)
        | none => true))
def clash (prec : List (List Nat)) (L : List (List Nat × List Nat)) : Bool :=
  L.zipIdx.any fun x => !x.1.1.isEmpty && L.zipIdx.any fun y => x.2 != y.2 && !ordered prec x.2 y.2 && x.1.1.any fun i => y.1.2.contains i || y.1.1.contains i
def dvc (P : Program) (gl : Glob) (n1 : Nat) (prec : List (List Nat)) (K : St → Prop) : List Ins → List (List Nat × List Nat) → St → Prop
  | [], acc, s => clash prec acc.reverse = false ∧ K s
  | i :: r, acc, s =>
    match i.gd with
    | none => if i.op.isCall then (match evCall gl s.e i.op with
        | some (f, ds, c) => c ∧ ((∃ d, PCallF P gl f ds d ∧ dvc P gl n1 prec K r (([], []) :: acc) { e := eput s.e i.dst d, h := s.h, nx := s.nx + 1 }) ∨
            ∃ (ρ : List Nat) (ds0 : List DV) (H : Heap) (d : DV) (H' : Heap) (n' : Nat), ACall P gl f ρ.length ds0 H d H' n' ∧ (∃ fid, f = .func fid) ∧ ρ.Nodup ∧ n' ≤ ρ.length + 1 ∧ ds0.map (·.ren (rh ρ s.nx)) = ds ∧ (∀ i, i < ρ.length → (hget H i).isSome = true ∧ (hget H' i).isSome = true) ∧ (H'.map (·.1)).Nodup ∧ sameH ρ s.nx s.h H ∧
              dvc P gl n1 prec K r ((H'.map fun x => rh ρ s.nx x.1, ρ) :: acc) { e := eput s.e i.dst (d.ren (rh ρ s.nx)), h := upd s.h (renH ρ s.nx H'), nx := s.nx + 1 })
        | none => False)
      else match stp gl s.e (hget s.h) s.nx i.op with
        | some t => t.c ∧ t.al ≤ 1 ∧ dvc P gl n1 prec K r ((keys t.up, t.rd) :: acc) { e := eput s.e i.dst t.v, h := upd s.h t.up, nx := s.nx + 1 }
        | none => False
    | some (t, want) => match gval s.e t want with
      | none => False
      | some b => if i.op.isCall then (match evCall gl s.e i.op with
          | some (f, ds, c) => (b = true → c) ∧ ∃ d, (b = true → PCallF P gl f ds d) ∧ d.bel 0 = true ∧ dvc P gl n1 prec K r (([], []) :: acc) { e := eput s.e i.dst (.gd b d), h := s.h, nx := s.nx + 1 }
          | none => False)
        else match sg b (stp gl s.e (hget s.h) s.nx i.op) with
          | some t => t.up.isEmpty = true ∧ t.al = 0 ∧ t.v.bel n1 = true ∧ (b = true → t.c) ∧ dvc P gl n1 prec K r (([], t.rd) :: acc) { e := eput s.e i.dst (.gd b t.v), h := s.h, nx := s.nx + 1 }
          | none => False
def lrow (n : Ent) : List Nat × List Nat := (keys n.up, n.rd)
def allD : Nat → Bool := fun _ => true
theorem dvc_run {P : Program} {gl : Glob} {n1 : Nat} {prec : List (List Nat)} {K : St → Prop} : ∀ (is : List Ins) (acc : List (List Nat × List Nat)) (s : St), dvc P gl n1 prec K is acc s →
    ∃ L, RunOk P gl n1 is L s.e s.h s.nx ∧ clash prec (acc.reverse ++ L.map lrow) = false ∧ K { e := rpe allD L s.e, h := rph allD L s.h, nx := s.nx + L.length }
  | [], acc, s, h => ⟨[], trivial, by simpa using h.1, h.2⟩
  | i :: r, acc, s, h => by
    have fin : ∀ (n : Ent), EntOk P gl n1 i s.e (hget s.h) s.nx n → dvc P gl n1 prec K r (lrow n :: acc) { e := eput s.e n.dst n.v, h := upd s.h n.up, nx := s.nx + 1 } →
        ∃ L, RunOk P gl n1 (i :: r) L s.e s.h s.nx ∧ clash prec (acc.reverse ++ L.map lrow) = false ∧ K { e := rpe allD L s.e, h := rph allD L s.h, nx := s.nx + L.length } := by
      intro n hn hd
      obtain ⟨L, h1, h2, h3⟩ := dvc_run r _ _ hd
      refine ⟨n :: L, ⟨hn, h1⟩, by simpa using h2, ?_⟩
      have e1 : ∀ L (e : Env), rpe (fun k => allD (k + 1)) L e = rpe allD L e := fun _ _ => rfl
      simp only [rpe, rph, allD, if_true, List.length_cons]
      rw [show s.nx + (L.length + 1) = s.nx + 1 + L.length by omega]
      exact h3
    rw [dvc] at h
    split at h
    · rename_i hg
      split at h
      · rename_i hc
        split at h
        · rename_i hev
          obtain ⟨hcc, ⟨d, hp, hr⟩ | ⟨ρ, ds0, H, d, H', n', hp, hf, hnd, hn, hds, hall, hkey, hsame, hr⟩⟩ := h
          · exact fin ⟨i.dst, d, [], []⟩ (.call hg hc hev hcc hp) hr
          · refine fin ⟨i.dst, _, renH ρ s.nx H', ρ⟩ (.acall hg hc hev hcc hp hf hnd hn hds hall hkey fun i o hi => sameH_get hsame i o hi) ?_
            have e1 : ∀ (X : Heap), keys (renH ρ s.nx X) = X.map fun x => rh ρ s.nx x.1 := fun X => by
              induction X with
              | nil => rfl
              | cons y q ih => obtain ⟨k, ob⟩ := y; unfold keys at ih ⊢; simp [renH, ih]
            simp only [lrow, e1]
            exact hr
        · exact h.elim
      · rename_i hc
        split at h
        · rename_i hst
          obtain ⟨hcc, hal, hr⟩ := h
          exact fin ⟨i.dst, _, _, _⟩ (.step hg (by simpa using hc) hst hcc hal) hr
        · exact h.elim
    · rename_i hg
      split at h
      · exact h.elim
      · rename_i hb
        split at h
        · rename_i hc
          split at h
          · rename_i hev
            obtain ⟨hcc, d, hp, hbel, hr⟩ := h
            exact fin ⟨i.dst, _, [], []⟩ (.gcall hg hb hc hev hcc hp hbel) hr
          · exact h.elim
        · rename_i hc
          split at h
          · rename_i b _ _ hst
            obtain ⟨hu, hal, hbel, hcc, hr⟩ := h
            cases hs : stp gl s.e (hget s.h) s.nx i.op with
            | some t' =>
              rw [hs, sg_some] at hst
              obtain rfl := Option.some.inj hst
              exact fin ⟨i.dst, _, [], _⟩ (.gstep hg hb (by simpa using hc) hs (by simpa using hu) hal hbel hcc) hr
            | none =>
              rw [hs] at hst
              cases b with
              | true => simp [sg] at hst
              | false =>
                obtain rfl := Option.some.inj hst
                exact fin ⟨i.dst, _, [], []⟩ (.gskip hg hb (by simpa using hc)) hr
          · exact h.elim
theorem no_clash {prec : List (List Nat)} {L : List (List Nat × List Nat)} (h : clash prec L = false) {j k : Nat} {x y : List Nat × List Nat} (hj : L[j]? = some x) (hk : L[k]? = some y) (hne : j ≠ k) (ho : ordered prec j k = false) :
    ∀ i ∈ x.1, i ∉ y.2 ∧ i ∉ y.1 := by
  intro i hi
  unfold clash at h
  rw [List.any_eq_false] at h
  have h1 := h (x, j) (List.mem_zipIdx_iff_getElem?.2 hj)
  simp only [Bool.and_eq_true, not_and, Bool.not_eq_true] at h1
  have h2 := h1 (by cases hx : x.1 <;> simp_all)
  rw [List.any_eq_false] at h2
  have h3 := h2 (y, k) (List.mem_zipIdx_iff_getElem?.2 hk)
  simp only [Bool.and_eq_true, not_and, Bool.not_eq_true] at h3
  have h4 := h3 ⟨by simpa using hne, by simp [ho]⟩
  rw [List.any_eq_false] at h4
  have h5 := h4 i hi
  simpa using h5
end Go.Proofs.YthocoandbiaoiaaDoorV

namespace Go.Proofs.YthocoandbiaoiaaDoorV
open Go
section
variable {P : Program} {gl : Glob} {K : Nat → Prop} {w0 : World} {g0 : Gh} {n0 : Nat} {nt : NT}
theorem drawOk_at {ops : Array Oper} {is : List Ins} {prec : List (List Nat)} (h : drawOk ops is prec = true) {j : Nat} (hj : j < is.length) :
    (∀ k ∈ aft ops j, k < j) ∧ (∀ k ∈ pget prec j, k < j ∧ (k ∈ aft ops j ∨ ∃ m ∈ aft ops j, k ∈ pget prec m)) ∧
    ∀ k, k < is.length → k ≠ j → (∀ t, idst is k = some t → idst is j ≠ some t) ∧ ∀ i t, is[j]? = some i → idst is k = some t → t ∈ i.sl → ordered prec j k = true := by
  unfold drawOk at h
  rw [List.all_eq_true] at h
  have h := h j (List.mem_range.2 hj)
  simp only [Bool.and_eq_true] at h
  obtain ⟨⟨h1, h2⟩, h3⟩ := h
  rw [List.all_eq_true] at h1 h2 h3
  refine ⟨fun k hk => by simpa using h1 k hk, fun k hk => ?_, fun k hk hne => ?_⟩
  · have := h2 k hk
    simp only [Bool.and_eq_true, decide_eq_true_eq, Bool.or_eq_true, List.contains_iff_mem, List.any_eq_true] at this
    exact this
  · have := h3 k (List.mem_range.2 hk)
    simp only [Bool.or_eq_true, beq_iff_eq, hne, false_or, Bool.and_eq_true, bne_iff_ne, ne_eq] at this
    obtain ⟨h4, h5⟩ := this
    refine ⟨fun t ht => ?_, fun i t hi ht hm => ?_⟩
    · rcases h4 with h4 | h4
      · rw [ht] at h4; simp at h4
      · rw [ht] at h4; exact h4
    · rw [hi, ht] at h5
      simp only [Bool.or_eq_true, Bool.not_eq_true', List.contains_eq_mem, decide_eq_false_iff_not] at h5
      exact h5.resolve_left (fun h => h hm)
theorem regOk_at {nt : Nat} {ops : Array Oper} : ∀ {os : List Oper} {is : List Ins}, regOk P nt ops os is = true → os.length = is.length ∧ ∀ (j : Nat) (o : Oper) (i : Ins), os[j]? = some o → is[j]? = some i → insOk P nt ops o i = true
  | [], [], _ => ⟨rfl, by simp⟩
  | o :: r, i :: q, h => by
    simp only [regOk, Bool.and_eq_true] at h
    obtain ⟨h1, h2⟩ := regOk_at h.2
    refine ⟨by simp [h1], fun j o' i' ho hi => ?_⟩
    cases j with
    | zero => simp only [List.getElem?_cons_zero, Option.some.injEq] at ho hi; subst ho; subst hi; exact h.1
    | succ j => exact h2 j o' i' (by simpa using ho) (by simpa using hi)
  | [], _ :: _, h => by simp [regOk] at h
  | _ :: _, [], h => by simp [regOk] at h
theorem EntOk.dst {n1 : Nat} {i : Ins} {e : Env} {hl : Nat → Option Ob} {nid : Nat} {n : Ent} (h : EntOk P gl n1 i e hl nid n) : n.dst = i.dst := by cases h <;> rfl
theorem drawn_go {ro : Option Nat} {ops : Array Oper} {is : List Ins} {prec : List (List Nat)} {s : St} {L : List Ent} {Q : Exit → Act → World → Prop} (hreg : regOk P nt.n ops ops.toList is = true) (hd : drawOk ops is prec = true) (hrun : RunOk P gl s.nx is L s.e s.h s.nx) (hcl : clash prec (L.map lrow) = false)
    (hn0 : n0 ≤ s.nx) (hQ : ∀ a w, Sim gl K w0 n0 nt g0 { e := rpe allD L s.e, h := rph allD L s.h, nx := s.nx + L.length } a w → Q .normal a w) :
    ∀ (fuel : Nat) (listed : Array Bool) (a : Act) (w : World), listed.size = ops.size → listed.toList.count false ≤ fuel → (∀ k, listed.getD k false = true → ∀ m ∈ pget prec k, listed.getD m false = true) →
      GSim gl K w0 n0 nt g0 (rpe (fun k => listed.getD k false) L s.e) (rph (fun k => listed.getD k false) L s.h) (fun i => s.nx ≤ i ∧ ∀ k, listed.getD k false = true → i ≠ s.nx + k) a w → wpAnyIn (WF ro) 0 P .any ops Q fuel listed a w := by
  obtain ⟨hlen, hins⟩ := regOk_at hreg
  have hlen : ops.size = is.length := by simpa using hlen
  have hL := hrun.len
  -- when nothing is ready, all is done
  have hdone : ∀ (listed : Array Bool) (a : Act) (w : World), listed.size = ops.size → Region.ready .any ops listed = [] →
      GSim gl K w0 n0 nt g0 (rpe (fun k => listed.getD k false) L s.e) (rph (fun k => listed.getD k false) L s.h) (fun i => s.nx ≤ i ∧ ∀ k, listed.getD k false = true → i ≠ s.nx + k) a w → Q .normal a w := by
    intro listed a w hsz hr hs
    have hall : ∀ j, j < ops.size → listed.getD j false = true := by
      intro j
      induction j using Nat.strongRecOn with
      | _ j ih =>
        intro hj
        cases hD : listed.getD j false with
        | true => rfl
        | false =>
          exfalso
          have hD' : listed.getD j true = false := by
            have hlt : j < listed.size := by omega
            simp only [Array.getD_eq_getD_getElem?, Array.getElem?_eq_getElem hlt, Option.getD_some] at hD ⊢
            exact hD
          have : j ∈ Region.ready .any ops listed := by
            rw [mem_ready]
            have ho : ops[j]? = some ops[j] := Array.getElem?_eq_getElem hj
            refine ⟨hD', _, ho, fun e he hb => ?_⟩
            have hlt := (drawOk_at hd (by omega : j < is.length)).1 e.on (by
              simp only [aft, ho, Option.map_some, Option.getD_some, List.mem_map, List.mem_filter]
              exact ⟨e, ⟨by simpa using he, hb⟩, rfl⟩)
            exact ih e.on hlt (by omega)
          rw [hr] at this
          simp at this
    refine hQ a w ?_
    have h1 : GSim gl K w0 n0 nt g0 (rpe allD L s.e) (rph allD L s.h) (fun i => s.nx ≤ i ∧ ∀ k, listed.getD k false = true → i ≠ s.nx + k) a w := by
      refine hs.congr (fun t => rpe_congr L _ _ _ _ t (fun k n hk _ => ?_) rfl) (fun i => rph_congr L _ _ _ _ i (fun k n hk _ => ?_) rfl)
      · exact hall k (by have := (List.getElem?_eq_some_iff.1 hk).1; omega)
      · exact hall k (by have := (List.getElem?_eq_some_iff.1 hk).1; omega)
    have h2 := h1.frmono (fr' := fun i => s.nx + L.length ≤ i) fun i hi => ⟨by omega, fun k hk => by
      have : k < listed.size := by
        rcases Nat.lt_or_ge k listed.size with h | h
        · exact h
        · simp [Array.getElem?_eq_none h] at hk
      omega⟩
    obtain ⟨g, k1, k2, k3, k4⟩ := h2
    exact ⟨g, k1, by simp only; omega, k3, k4⟩
  intro fuel
  induction fuel with
  | zero =>
    intro listed a w hsz hcnt hcls hs
    have hr : Region.ready .any ops listed = [] := by
      rw [List.eq_nil_iff_forall_not_mem]
      intro j hj
      rw [mem_ready] at hj
      obtain ⟨h0, o, ho, _⟩ := hj
      have hlt : j < listed.size := by rw [hsz]; exact (Array.getElem?_eq_some_iff.1 ho).1
      simp only [Array.getD_eq_getD_getElem?, Array.getElem?_eq_getElem hlt, Option.getD_some] at h0
      have : 0 < listed.toList.count false := List.count_pos_iff.2 (by rw [← h0]; simp)
      omega
    exact ⟨hr, hdone listed a w hsz hr hs⟩
  | succ fuel ih =>
    intro listed a w hsz hcnt hcls hs
    refine ⟨fun hr => hdone listed a w hsz hr hs, fun j hj => ?_⟩
    rw [mem_ready] at hj
    obtain ⟨h0, o, ho, haf⟩ := hj
    have hjo : j < ops.size := (Array.getElem?_eq_some_iff.1 ho).1
    have hjl : j < listed.size := by omega
    have hji : j < is.length := by omega
    have hjL : j < L.length := by omega
    have hi : is[j]? = some is[j] := List.getElem?_eq_getElem hji
    have hn : L[j]? = some L[j] := List.getElem?_eq_getElem hjL
    have hDj : listed.getD j false = false := by
      simp only [Array.getD_eq_getD_getElem?, Array.getElem?_eq_getElem hjl, Option.getD_some] at h0 ⊢
      exact h0
    obtain ⟨d1, d2, d3⟩ := drawOk_at hd hji
    have hprec : ∀ m ∈ pget prec j, listed.getD m false = true := by
      intro m hm
      have haft : ∀ m ∈ aft ops j, listed.getD m false = true := by
        intro m hm
        simp only [aft, ho, Option.map_some, Option.getD_some, List.mem_map, List.mem_filter] at hm
        obtain ⟨x, ⟨hx, hb⟩, rfl⟩ := hm
        exact haf x (by simpa using hx) hb
      rcases (d2 m hm).2 with h | ⟨m', h1, h2⟩
      · exact haft m h
      · exact hcls m' (haft m' h1) m h2
    have hord : ∀ k, k ≠ j → ordered prec j k = true → listed.getD k false = below j k := by
      intro k hne hok
      simp only [ordered, Bool.or_eq_true, List.contains_iff_mem] at hok
      rcases hok with h | h
      · rw [hprec k h]; simp [below, (d2 k h).1]
      · have hk : listed.getD k false = false := by
          cases hD : listed.getD k false with
          | false => rfl
          | true => have := hcls k hD j h; rw [hDj] at this; exact absurd this (by simp)
        have hkl : k < is.length ∨ is.length ≤ k := Nat.lt_or_ge ..
        have : j < k := by
          rcases hkl with hk' | hk'
          · exact ((drawOk_at hd hk').2.1 j h).1
          · omega
        rw [hk]; simp [below]; omega
    have hself : listed.getD j false = below j j := by rw [hDj]; simp [below]
    have hent := hrun.at j _ _ hi hn
    have hent' : EntOk P gl s.nx is[j] (rpe (fun k => listed.getD k false) L s.e) (hget (rph (fun k => listed.getD k false) L s.h)) (s.nx + j) L[j] := by
      refine hent.congr (fun t ht => ?_) fun x hx => ?_
      · refine rpe_congr L _ _ _ _ t (fun k n hk hdst => ?_) rfl
        by_cases hkj : k = j
        · subst hkj; exact hself.symm
        · have hki : k < is.length := by have := (List.getElem?_eq_some_iff.1 hk).1; omega
          have hnd : idst is k = some t := by
            have := (hrun.at k _ _ (List.getElem?_eq_getElem hki) hk).dst
            simp only [idst, List.getElem?_eq_getElem hki, Option.bind_some]; rw [← this]; exact hdst
          exact (hord k hkj ((d3 k hki hkj).2 _ t hi hnd ht)).symm
      · refine rph_congr L _ _ _ _ x (fun k n hk hkey => ?_) rfl
        by_cases hkj : k = j
        · subst hkj; exact hself.symm
        · cases hoo : ordered prec j k with
          | true => exact (hord k hkj hoo).symm
          | false =>
            exfalso
            have hoo' : ordered prec k j = false := by unfold ordered at hoo ⊢; rw [Bool.or_comm]; exact hoo
            have := no_clash hcl (j := k) (k := j) (x := lrow n) (y := lrow L[j]) (by simp [hk]) (by simp [hn]) hkj hoo' x hkey
            exact this.1 hx
    refine hent'.sound (hins j o _ (by simpa using ho) hi) ho hs ?_ (fun x hx hf => by omega) fun a' w' hs' => ?_
    · refine ⟨by omega, fun k hk he => ?_⟩
      have : k = j := by omega
      subst this
      rw [hDj] at hk; exact absurd hk (by simp)
    · have hmore : (fun k => (listed.setIfInBounds j true).getD k false) = more (fun k => listed.getD k false) j := by
        funext k
        by_cases hk : k = j
        · subst hk; simp [more, hjl]
        · have hne : ¬ j = k := fun h => hk h.symm
          have hb : (k == j) = false := by simpa using hk
          simp only [more, hb, Bool.or_false]
          rw [getD_set_ne false hne]
      have hmk : ∀ k, (listed.setIfInBounds j true).getD k false = more (fun k => listed.getD k false) j k := fun k => congrFun hmore k
      refine ih _ a' w' (by simp [hsz]) ?_ (fun k hk m hm => ?_) ?_
      · have hlj : listed.toList[j]? = some false := by
          simp only [Array.getD_eq_getD_getElem?, Array.getElem?_eq_getElem hjl, Option.getD_some] at h0
          simp [hjl, h0]
        have hcs : (listed.setIfInBounds j true).toList.count false + 1 = listed.toList.count false := by
          rw [Array.toList_setIfInBounds, List.count_set (by simpa using hjl)]
          have hpos : 0 < listed.toList.count false := List.count_pos_iff.2 (List.mem_of_getElem? hlj)
          have hgj : listed.toList[j]'(by simpa using hjl) = false := by
            have := List.getElem?_eq_some_iff.1 hlj; exact this.2
          rw [hgj, if_pos (by simp), if_neg (by simp)]; omega
        omega
      · have hkk := congrFun hmore k
        have hmm := congrFun hmore m
        rw [hkk] at hk
        rw [hmm]
        simp only [more, Bool.or_eq_true, beq_iff_eq] at hk ⊢
        rcases hk with hk | hk
        · exact .inl (hcls k hk m hm)
        · subst hk; exact .inl (hprec m hm)
      · rw [hmore]
        refine (hs'.congr (fun t => ?_) fun i => ?_).frmono fun i hi => ⟨⟨hi.1, fun k hk => hi.2 k (by rw [hmk]; simp only [more, Bool.or_eq_true]; exact .inl hk)⟩, fun he => hi.2 j (by rw [hmk]; simp [more]) he⟩
        · refine (rpe_more L _ j L[j] s.e t hDj hn fun k n hk hDk t ht => ?_).symm
          have hkj : k ≠ j := fun h => by subst h; rw [hDj] at hDk; exact absurd hDk (by simp)
          have hki : k < is.length := by have := (List.getElem?_eq_some_iff.1 hk).1; omega
          have e1 := (hrun.at k _ _ (List.getElem?_eq_getElem hki) hk).dst
          have e2 := hent.dst
          intro hnt
          have hnd : idst is k = some t := by simp only [idst, List.getElem?_eq_getElem hki, Option.bind_some]; rw [← e1]; exact hnt
          have hjd : idst is j = some t := by simp only [idst, hi, Option.bind_some]; rw [← e2]; exact ht
          exact (d3 k hki hkj).1 t hnd hjd
        · refine (rph_more L _ j L[j] s.h i hDj hn fun k n hk hjk hDk x hx hxn => ?_).symm
          have hkj : k ≠ j := by omega
          cases hoo : ordered prec j k with
          | true => have := hord k hkj hoo; rw [hDk] at this; simp [below] at this; omega
          | false => exact (no_clash hcl (j := j) (k := k) (x := lrow L[j]) (y := lrow n) (by simp [hn]) (by simp [hk]) (Ne.symm hkj) hoo x hx).2 hxn
theorem drawn_sound {ro : Option Nat} {ops : Array Oper} {id : Nat} {is : List Ins} {prec : List (List Nat)} {s : St} {a : Act} {w : World} {Q : Exit → Act → World → Prop} {Ks : St → Prop} (hm : P.follows .mixedOrders = true) (hreg : regOk P nt.n ops ops.toList is = true) (hd : drawOk ops is prec = true)
    (hv : dvc P gl s.nx prec Ks is [] s) (hs : Sim gl K w0 n0 nt g0 s a w) (hQ : ∀ s a w, Ks s → Sim gl K w0 n0 nt g0 s a w → Q .normal a w) : (Code.region id ops true).wpIn (WF ro) 0 P Q a w := by
  obtain ⟨L, h1, h2, h3⟩ := dvc_run is [] s hv
  obtain ⟨g, k1, k2, k3, k4⟩ := hs
  refine wpIn_region_any hm (drawn_go hreg hd h1 (by simpa using h2) k2 (fun a w hs => hQ _ a w h3 hs) ops.size _ a _ (by simp) (by simp) (fun k hk => ?_) ?_)
  · simp [Array.getElem?_replicate] at hk
    split at hk <;> simp at hk
  · have hf : (fun k => (Array.replicate ops.size false).getD k false) = fun _ => false := by
      funext k; simp [Array.getElem?_replicate]; split <;> rfl
    rw [hf]
    have e1 : ∀ (L : List Ent) (e : Env), rpe (fun _ => false) L e = e := by
      intro L; induction L with
      | nil => intro e; rfl
      | cons n L ih => intro e; rw [rpe]; simpa using ih e
    have e2 : ∀ (L : List Ent) (e : Heap), rph (fun _ => false) L e = e := by
      intro L; induction L with
      | nil => intro e; rfl
      | cons n L ih => intro e; rw [rph]; simpa using ih e
    rw [e1, e2]
    have := k3.drew
    refine ⟨g, k1, fun i hi hf => by have := hf.1; omega, ?_, ?_⟩
    · exact (show SimH gl K w0 (hget s.h) (fun i => s.nx ≤ i) g w.drew from k3.drew).frmono fun i hi => hi.1
    · exact k4.mono (GLe.refl K _ _) fun i hi => hi.1
end
end Go.Proofs.YthocoandbiaoiaaDoorV

namespace Go.Proofs.YthocoandbiaoiaaDoorV
open Go
inductive Ex where
  | nrm
  | ext (id : Nat)
  | ret
structure Kp where
  sl : List Nat
  ob : List Nat
  nx : Nat
def DV.cold : DV → DV
  | .own id sz xs => (DV.own id sz xs).norm
  | .flit sz xs => (DV.flit sz xs).norm
  | d => d
inductive Gst where
  | keep (k : Kp)
  | own (t sz : Nat)
  | ownf (t off sz : Nat)
  | frz (t : Nat)
  | nrm (t : Nat)
inductive C where
  | skip
  | reg (is : List Ins)
  | dreg (is : List Ins) (prec : List (List Nat))
  | seq (x y : C)
  | cond (t : O) (x y : C)
  | blk (id : Nat) (x : C)
  | loop (k : Kp) (x : C)
  | ext (id : Nat)
  | ret
  | gh (k : Gst) (x : C)
  | rf (k : Kp) (g : O) (ps : List Nat) (x y : C)
def chk (P : Program) (nt : Nat) (top : Bool) : Code → C → Bool
  | .skip, .skip => true
  | .region _ ops false, .reg is => regOk P nt ops ops.toList is
  | .region _ ops true, .dreg is prec => P.follows .mixedOrders && regOk P nt ops ops.toList is && drawOk ops is prec
  | .seq a b, .seq x y => chk P nt top a x && chk P nt top b y
  | .cond c a b, .cond t x y => oOk c t && chk P nt top a x && chk P nt top b y
  | .block id a, .blk id' x => id == id' && chk P nt top a x
  | .loop a, .loop _ x => chk P nt top a x
  | .exit i, .ext j => i == j
  | .ret, .ret => true
  | c, .gh _ x => chk P nt top c x
  | .rangeFunc G ps as body, .rf _ g ps' x y => top && oOk G g && ps.toList == ps' && decide ps'.Nodup && ps'.all (fun p => decide (p < nt)) && chk P nt false as x && chk P nt false body y
  | _, _ => false
def kslots (e : Env) : List Nat → Env
  | [] => []
  | i :: r => match eget e i with
    | some d => (i, d) :: kslots e r
    | none => kslots e r
def kobs (h : Heap) : List Nat → Heap
  | [] => []
  | i :: r => match hget h i with
    | some d => (i, d) :: kobs h r
    | none => kobs h r
def Kp.st (k : Kp) (s : St) : St := { e := kslots s.e k.sl, h := kobs s.h k.ob, nx := k.nx }
def envNm (n : Nat) : Env → Prop
  | [] => True
  | (_, d) :: r => (d.nm fun i => i < n) ∧ envNm n r
def heapNm (n : Nat) : Heap → Prop
  | [] => True
  | (i, o) :: r => i < n ∧ (o.nm fun i => i < n) ∧ heapNm n r
def Kp.ok (n0 : Nat) (k : Kp) (s : St) : Prop := n0 ≤ k.nx ∧ k.nx ≤ s.nx ∧ envNm k.nx (kslots s.e k.sl) ∧ heapNm k.nx (kobs s.h k.ob)
def ownOf (sz : Nat) : DV → Option (List PV)
  | .nilS _ => some []
  | .flit sz' xs => if sz' = sz then some xs else none
  | _ => none
def exCode : Ex → Code
  | .ret => .ret
  | .ext id => .exit id
  | .nrm => .skip
def exJump : Ex → Option Ex
  | .nrm => none
  | e => some e
def gst (n0 : Nat) (k : Gst) (K : St → Prop) (s : St) : Prop :=
  match k with
  | .keep k => k.ok n0 s ∧ K (k.st s)
  | .own t sz => match eget s.e t with
    | some d => match ownOf sz d with
      | some xs => 0 < sz ∧ K { e := (t, .own s.nx sz xs) :: s.e, h := upd s.h [(s.nx, .tip sz xs.length)], nx := s.nx + 1 }
      | none => False
    | none => False
  | .ownf t off sz => match eget s.e t with
    | some (.ptr id o) => match hget s.h id with
      | some (.box cs) => match cs[o + off]? with
        | some d => match ownOf sz d with
          | some xs => 0 < sz ∧ K { e := s.e, h := upd s.h [(s.nx, .tip sz xs.length), (id, .box (cs.set (o + off) (.own s.nx sz xs)))], nx := s.nx + 1 }
          | none => False
        | none => False
      | _ => False
    | some (.mrow id o _ _) => match hget s.h id with
      | some (.box cs) => match cs[o + off]? with
        | some d => match ownOf sz d with
          | some xs => 0 < sz ∧ K { e := s.e, h := upd s.h [(s.nx, .tip sz xs.length), (id, .box (cs.set (o + off) (.own s.nx sz xs)))], nx := s.nx + 1 }
          | none => False
        | none => False
      | _ => False
    | _ => False
  | .frz t => match eget s.e t with
    | some (.ptr id 0) => match hget s.h id with
      | some (.box cs) => match pvs cs with
        | some ps => (∀ c ∈ ps, c.one = true) ∧ K { e := (t, .eptr ps) :: s.e, h := dropH [id] s.h, nx := s.nx }
        | none => False
      | _ => False
    | some (.mrow id 0 len sz) => match hget s.h id with
      | some (.box cs) => match pvs cs with
        | some ps => ∃ xs, flat xs = ps ∧ xs.length = len ∧ 0 < sz ∧ (∀ x ∈ xs, x.cells.length = sz) ∧ (∀ c ∈ ps, c.one = true) ∧ K { e := (t, .pv (.lst sz xs)) :: s.e, h := dropH [id] s.h, nx := s.nx }
        | none => False
      | _ => False
    | _ => False
  | .nrm t => match eget s.e t with
    | some (.ptr id 0) => match hget s.h id with
      | some (.box cs) => K { e := s.e, h := upd s.h [(id, .box (cs.map DV.cold))], nx := s.nx }
      | _ => False
    | some (.mrow id 0 _ _) => match hget s.h id with
      | some (.box cs) => K { e := s.e, h := upd s.h [(id, .box (cs.map DV.cold))], nx := s.nx }
      | _ => False
    | _ => False
def RfVC (P : Program) (gl : Glob) (n : Nat) (e0 : Env) (H0 : Heap) (ps : List Nat) (vx : (Ex → St → Prop) → St → Prop) (vy : (Ex → St → Prop) → St → Prop) (gf : FuncId) (a c : List DV) (Q : Ex → St → Prop) : Prop :=
  (∀ x ∈ a ++ c, x.nm fun i => i < n) ∧ ∃ (st : Option Ex) (H1 : Heap) (n1 : Nat) (d : DV), heapNm n H1 ∧
    (∀ (l : Nat) (R : LRec),
      (∀ (ds : List DV) (Ha : Heap) (st' : Option Ex) (Hb : Heap), ds.length = ps.length → (∀ x ∈ ds, x.nm fun i => i < n) → heapNm n Ha → heapNm n Hb →
        vx (fun e s => match e with | .nrm => vy (fun e s' => exJump e = st' ∧ ∃ ob, kobs s'.h ob = Hb) s | _ => False) { e := ps.zip ds ++ e0, h := Ha, nx := n } →
        ACall P gl (.yield l) (n + 1) ds ((n, .lrec l R none e0) :: Ha) (.pv (.bool st'.isNone)) ((n, .lrec l R (st'.map exCode) e0) :: Hb) (n + 1)) →
      ACall P gl (.func gf) (n + 1) ((a ++ [DV.fn (.yield l) [] []] ++ c).map DV.norm) ((n, .lrec l R none e0) :: H0) d ((n, .lrec l R (st.map exCode) e0) :: H1) n1) ∧
    (match st with | none => Q .nrm { e := e0, h := H1, nx := n } | some .nrm => False | some x => Q x { e := e0, h := H1, nx := n })
def vc (P : Program) (gl : Glob) (n0 : Nat) : C → (Ex → St → Prop) → St → Prop
  | .skip, Q, s => Q .nrm s
  | .reg is, Q, s => rvc P gl (Q .nrm) is s
  | .dreg is prec, Q, s => dvc P gl s.nx prec (Q .nrm) is [] s
  | .seq x y, Q, s => vc P gl n0 x (fun e s => match e with | .nrm => vc P gl n0 y Q s | e => Q e s) s
  | .cond t x y, Q, s => match evs gl s.e t with
    | some (.pv (.bool b), c) => c ∧ (b = true → vc P gl n0 x Q s) ∧ (b = false → vc P gl n0 y Q s)
    | _ => False
  | .blk id x, Q, s => vc P gl n0 x (fun e s => match e with | .ext j => if j = id then Q .nrm s else Q (.ext j) s | e => Q e s) s
  | .loop k x, Q, s => ∃ (α : Type) (mk : α → St) (ms : α → Nat) (inv : α → Prop), (k.ok n0 s ∧ ∃ y, inv y ∧ k.st s = mk y) ∧
      ∀ y, inv y → vc P gl n0 x (fun e s => match e with | .nrm => k.ok n0 s ∧ ∃ z, inv z ∧ ms z < ms y ∧ k.st s = mk z | e => Q e s) (mk y)
  | .ext id, Q, s => Q (.ext id) s
  | .ret, Q, s => Q .ret s
  | .gh k x, Q, s => gst n0 k (vc P gl n0 x Q) s
  | .rf k g ps x y, Q, s => k.ok n0 s ∧ (match evFn gl s.e g with
    | some (.func gf, a, c, q) => q ∧ RfVC P gl k.nx (kslots s.e k.sl) (kobs s.h k.ob) ps (vc P gl k.nx x) (vc P gl k.nx y) gf a c Q
    | _ => False)
def toEx : Exit → Option Ex
  | .normal => some .nrm
  | .exit id => some (.ext id)
  | .ret => some .ret
  | _ => none
theorem kslots_get : ∀ (l : List Nat) (e : Env) (i : Nat) (d : DV), eget (kslots e l) i = some d → eget e i = some d
  | [], _, _, _, h => by simp [kslots, eget] at h
  | j :: r, e, i, d, h => by
    rw [kslots] at h
    split at h
    · rename_i x hx
      rw [eget] at h
      split at h
      · rename_i he; rw [he, hx]; exact h
      · exact kslots_get r e i d h
    · exact kslots_get r e i d h
theorem kobs_get : ∀ (l : List Nat) (e : Heap) (i : Nat) (d : Ob), hget (kobs e l) i = some d → hget e i = some d
  | [], _, _, _, h => by simp [kobs, hget] at h
  | j :: r, e, i, d, h => by
    rw [kobs] at h
    split at h
    · rename_i x hx
      rw [hget] at h
      split at h
      · rename_i he; rw [he, hx]; exact h
      · exact kobs_get r e i d h
    · exact kobs_get r e i d h
theorem envNm_get {n : Nat} : ∀ {e : Env} {i : Nat} {d : DV}, envNm n e → eget e i = some d → d.nm fun i => i < n
  | [], _, _, _, h => by simp [eget] at h
  | (j, x) :: r, i, d, hn, h => by
    rw [eget] at h
    split at h
    · obtain rfl := Option.some.inj h; exact hn.1
    · exact envNm_get hn.2 h
theorem heapNm_get {n : Nat} : ∀ {e : Heap} {i : Nat} {d : Ob}, heapNm n e → hget e i = some d → i < n ∧ d.nm fun i => i < n
  | [], _, _, _, h => by simp [hget] at h
  | (j, x) :: r, i, d, hn, h => by
    rw [hget] at h
    split at h
    · rename_i he; subst he; obtain rfl := Option.some.inj h; exact ⟨hn.1, hn.2.1⟩
    · exact heapNm_get hn.2.2 h
section
variable {P : Program} {gl : Glob} {K : Nat → Prop} {w0 : World} {g0 : Gh} {n0 : Nat} {nt : NT}
theorem Sim.keep {s : St} {a : Act} {w : World} (h : Sim gl K w0 n0 nt g0 s a w) {k : Kp} (hk : k.ok n0 s) : Sim gl K w0 n0 nt g0 (k.st s) a w := by
  obtain ⟨g, hg, hn, hH, hE⟩ := h
  obtain ⟨k1, k2, k3, k4⟩ := hk
  let g' : Gh := { m := g.m, μ := fun i => if i < k.nx then g.μ i else none, τ := fun i => if i < k.nx then g.τ i else fun _ => none }
  have hgg : GLe K (fun i => i < k.nx) g g' := ⟨.refl _, fun _ _ _ => rfl, fun i hi => by simp [g', hi], fun i hi j v hv => by simp [g', hi, hv]⟩
  have hgd : ∀ d : DV, (d.nm fun i => i < k.nx) → d.nm fun i => ¬ k.nx ≤ i := fun d => DV.nm_mono (fun _ h => by omega) d
  have hold : ∀ i o, hget (k.st s).h i = some o → hget s.h i = some o ∧ i < k.nx ∧ o.nm fun i => i < k.nx := fun i o hi => ⟨kobs_get _ _ _ _ hi, heapNm_get k4 hi⟩
  have hOw : ∀ {i : Nat} {o : Ob} {B : Nat}, i < k.nx → (Owns g' i B o ↔ Owns g i B o) := fun {i o B} hi => by cases o <;> simp [Owns, g', hi]
  refine ⟨g', hg.trans (hgg.le fun i hi => by omega), k1, ?_, ?_⟩
  · exact
      { os := hH.os, tape := hH.tape, output := hH.output, size := hH.size, kept := hH.kept, old := hH.old, mem := hH.mem
        ids := fun i o hi hf => by have := (hold i o hi).2.1; simp only [Kp.st] at hf; omega
        low := fun i hf => by
          have : ¬ i < k.nx := by simp only [Kp.st] at hf; omega
          simp [g', this]
        obj := fun i o hi => (hH.obj i o (hold i o hi).1).mono hgg (hold i o hi).2.1 (hold i o hi).2.2 (by simp [g', (hold i o hi).2.1]) fun B _ => ⟨rfl, fun _ => rfl⟩
        nm := fun i o hi => Ob.nm_mono (fun _ h => by simp only [Kp.st]; omega) (hold i o hi).2.2
        inj := fun i j o o' B h1 h2 h3 h4 => hH.inj i j o o' B (hold i o h1).1 (hold j o' h2).1 ((hOw (hold i o h1).2.1).1 h3) ((hOw (hold j o' h2).2.1).1 h4)
        off := fun i o B h1 h2 => hH.off i o B (hold i o h1).1 ((hOw (hold i o h1).2.1).1 h2)
        glo := hH.glo }
  · refine ⟨hE.defers, hE.size, fun i d hi => ?_, fun i d hi => hgd d (envNm_get k3 hi)⟩
    obtain ⟨v, h1, h2⟩ := hE.val i d (kslots_get _ _ _ _ hi)
    exact ⟨v, h1, h2.mono hgg (envNm_get k3 hi)⟩
end
end Go.Proofs.YthocoandbiaoiaaDoorV
