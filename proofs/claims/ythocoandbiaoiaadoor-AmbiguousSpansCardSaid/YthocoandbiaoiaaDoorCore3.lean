/- Packed: Vw Vx Vy -/
import Derived.Test.YthocoandbiaoiaaDoorCore2
import Derived.Sort.LoopGhostIn
set_option linter.all false
namespace Go.Proofs.YthocoandbiaoiaaDoorV
open Go
def cutG (n' : Nat) (g : Gh) : Gh := { m := g.m, μ := fun i => if i < n' then g.μ i else none, τ := fun i => if i < n' then g.τ i else fun _ => none }
theorem cutG_le (K : Nat → Prop) (n' : Nat) (g : Gh) : GLe K (fun i => i < n') g (cutG n' g) := ⟨.refl _, fun _ _ _ => rfl, fun i hi => by simp [cutG, hi], fun i hi j v hv => by simp [cutG, hi, hv]⟩
theorem SimH.cut {gl : Glob} {K : Nat → Prop} {w0 w : World} {h h' : Heap} {fr : Nat → Prop} {g : Gh} {n' : Nat} (hH : SimH gl K w0 (hget h) fr g w) (hold : ∀ i o, hget h' i = some o → hget h i = some o ∧ i < n' ∧ o.nm fun i => i < n') :
    SimH gl K w0 (hget h') (fun i => n' ≤ i) (cutG n' g) w := by
  have hgg := cutG_le K n' g
  have hOw : ∀ {i : Nat} {o : Ob} {B : Nat}, i < n' → (Owns (cutG n' g) i B o ↔ Owns g i B o) := fun {i o B} hi => by cases o <;> simp [Owns, cutG, hi]
  exact
    { os := hH.os, tape := hH.tape, output := hH.output, size := hH.size, kept := hH.kept, old := hH.old, mem := hH.mem
      ids := fun i o hi hf => by have := (hold i o hi).2.1; omega
      low := fun i hf => by
        have : ¬ i < n' := by omega
        simp [cutG, this]
      obj := fun i o hi => (hH.obj i o (hold i o hi).1).mono hgg (hold i o hi).2.1 (hold i o hi).2.2 (by simp [cutG, (hold i o hi).2.1]) fun B _ => ⟨rfl, fun _ => rfl⟩
      nm := fun i o hi => Ob.nm_mono (fun _ h => by omega) (hold i o hi).2.2
      inj := fun i j o o' B h1 h2 h3 h4 => hH.inj i j o o' B (hold i o h1).1 (hold j o' h2).1 ((hOw (hold i o h1).2.1).1 h3) ((hOw (hold j o' h2).2.1).1 h4)
      off := fun i o B h1 h2 => hH.off i o B (hold i o h1).1 ((hOw (hold i o h1).2.1).1 h2)
      glo := hH.glo }
section
variable {gl : Glob} {K K' : Nat → Prop} {w0 w1 : World} {hl : Nat → Option Ob} {fr : Nat → Prop} {g : Gh} {w : World}
structure Chain (K : Nat → Prop) (w0 w1 : World) : Prop where
  os : w1.os = w0.os
  tape : w1.tape = w0.tape
  output : w1.output = w0.output
  size : w0.heap.size ≤ w1.heap.size
  kept : ∀ b, K b → w1.heap[b]? = w0.heap[b]?
  old : ∀ b, K b → b < w0.heap.size
theorem Chain.refl (hK : ∀ b, K b → b < w0.heap.size) : Chain K w0 w0 := ⟨rfl, rfl, rfl, Nat.le_refl _, fun _ _ => rfl, hK⟩
theorem SimH.chain (hH : SimH gl K w0 hl fr g w) : Chain K w0 w := ⟨hH.os, hH.tape, hH.output, hH.size, hH.kept, hH.old⟩
theorem Chain.trans {w2 : World} (h : Chain K w0 w1) (k : Chain K' w1 w2) (hK : ∀ b, K b → K' b) : Chain K w0 w2 :=
  ⟨k.os.trans h.os, k.tape.trans h.tape, k.output.trans h.output, Nat.le_trans h.size k.size, fun b hb => (k.kept b (hK b hb)).trans (h.kept b hb), h.old⟩
theorem SimH.rebase (hH : SimH gl K w0 hl fr g w) (hK : ∀ b, K' b → b < w.heap.size) (ho : ∀ i o b, hl i = some o → Owns g i b o → ¬ K' b) : SimH gl K' w hl fr g w :=
  { os := rfl, tape := rfl, output := rfl, size := Nat.le_refl _, kept := fun _ _ => rfl, old := hK, mem := hH.mem, ids := hH.ids, low := hH.low, obj := hH.obj, nm := hH.nm, inj := hH.inj, off := ho, glo := hH.glo }
theorem SimH.unbase (hH : SimH gl K' w1 hl fr g w) (hc : Chain K w0 w1) (hK : ∀ b, K b → K' b) : SimH gl K w0 hl fr g w :=
  have c := hc.trans hH.chain hK
  { os := c.os, tape := c.tape, output := c.output, size := c.size, kept := c.kept, old := c.old, mem := hH.mem, ids := hH.ids, low := hH.low, obj := hH.obj, nm := hH.nm, inj := hH.inj, off := fun i o b h1 h2 h3 => hH.off i o b h1 h2 (hK b h3), glo := hH.glo }
theorem SimH.put (hH : SimH gl K w0 hl fr g w) {b : Nat} (o' : Obj) (ho : ∀ i o, hl i = some o → ¬ Owns g i b o) (hm : ∀ x, g.m b x = none) (hb : ¬ K b) : SimH gl K w0 hl fr g (w.putObj b o') :=
  { os := hH.os, tape := hH.tape, output := hH.output, size := by simpa using hH.size
    kept := fun c hc => (World.putObj_heap_other fun he => hb (by subst he; exact hc)).trans (hH.kept c hc)
    old := hH.old
    mem := fun c x v h => by
      have hne : c ≠ b := fun he => by subst he; rw [hm] at h; simp at h
      have := hH.mem c x v h
      simp only [World.cell?, World.putObj_heap_other hne] at this ⊢; exact this
    ids := hH.ids, low := hH.low
    obj := fun i o hi => ORep.mono (K := K) (GLe.refl _ _ g) (hH.ids i o hi) (hH.nm i o hi) rfl (fun B hB => ⟨World.putObj_heap_other fun he => ho i o hi (by subst he; exact hB), fun _ => rfl⟩) (hH.obj i o hi)
    nm := hH.nm, inj := hH.inj, off := hH.off, glo := hH.glo }
theorem SimH.putBase (hH : SimH gl K' w1 hl fr g w) {b : Nat} (o' : Obj) (hb : K' b) (hm : ∀ x, g.m b x = none) : SimH gl K' (w.putObj b o') hl fr g (w.putObj b o') := by
  have h1 : SimH gl (fun c => K' c ∧ c ≠ b) w hl fr g w := hH.rebase (fun c hc => Nat.lt_of_lt_of_le (hH.old c hc.1) hH.size) fun i o c h1 h2 h3 => hH.off i o c h1 h2 h3.1
  have h2 := h1.put o' (fun i o h1 h2 => hH.off i o b h1 h2 hb) hm (fun h => h.2 rfl)
  exact h2.rebase (fun c hc => by simpa using Nat.lt_of_lt_of_le (hH.old c hc) hH.size) fun i o c h1 h2 h3 => hH.off i o c h1 h2 h3
theorem SimH.noMem (hH : SimH gl K w0 hl fr g w) {b : Nat} {o : Obj} (hb : w.heap[b]? = some o) (ho : ∀ c t f, o ≠ .cells c t f) (x : Nat) : g.m b x = none := by
  cases h : g.m b x with
  | none => rfl
  | some v =>
    have := hH.mem b x v h
    simp only [World.cell?, hb] at this
    cases o <;> simp at this
    exact absurd rfl (ho _ _ _)
end
section
variable {P : Program} {gl : Glob} {K : Nat → Prop} {w0 : World} {g0 : Gh} {n0 : Nat} {nt : NT}
theorem ownOf_sound {g : Gh} {d : DV} {v : Value} {sz : Nat} {xs : List PV} (h : ownOf sz d = some xs) (hz : 0 < sz) (hd : DRep g d v) : ∃ A, v = .slice A xs.length xs.length ∧ PRep g.m (.lst sz xs) v := by
  unfold ownOf at h
  split at h
  · obtain rfl := Option.some.inj h
    cases hd
    exact ⟨none, rfl, .lst [] rfl (Nat.le_refl _) (Nat.zero_le _) hz (by simp) (by simp [flat]) (by simp [flat]) (by simp) (.inl rfl)⟩
  · split at h
    · rename_i he
      subst he
      obtain rfl := Option.some.inj h
      cases hd
      rename_i B n hp
      obtain ⟨_, _, _, hA, _, hn, _⟩ := hp.lst_inv
      cases hA
      subst hn
      exact ⟨_, rfl, hp⟩
    · simp at h
  · simp at h
theorem Sim.own {s : St} {a : Act} {w : World} (h : Sim gl K w0 n0 nt g0 s a w) {t sz : Nat} {d : DV} (hd : eget s.e t = some d) {xs : List PV} (ho : ownOf sz d = some xs) (hz : 0 < sz) :
    Sim gl K w0 n0 nt g0 { e := (t, .own s.nx sz xs) :: s.e, h := upd s.h [(s.nx, .tip sz xs.length)], nx := s.nx + 1 } a w := by
  obtain ⟨g, hg, hn, hH, hE⟩ := h
  obtain ⟨v, hv, hr⟩ := hE.val _ _ hd
  obtain ⟨A, hA, hp⟩ := ownOf_sound ho hz hr
  have hlow := hH.low s.nx (Nat.le_refl _)
  obtain ⟨h1, h2⟩ := hH.setTip (id := s.nx) (sz := sz) (n := xs.length) (v := v) (.inl (Nat.le_refl _)) (w' := w) (m' := g.m) (.refl _) (fun _ _ _ => rfl) rfl rfl rfl (Nat.le_refl _) (fun _ _ _ => rfl) hH.mem (fun _ _ _ _ => rfl)
    (fun B hB => by
      obtain ⟨c, h1, h2⟩ := hB
      simp only [and_self, if_true, hA, Option.some.injEq, Value.slice.injEq] at h1
      omega)
    (.inl ⟨A, by simp [hA], fun k hk => by
      have : ¬ k = xs.length := by omega
      simp [this, hlow.2]⟩)
  have hfr : (fun i => s.nx ≤ i ∧ i ≠ s.nx) = fun i => s.nx + 1 ≤ i := by funext i; simp only [eq_iff_iff]; omega
  rw [hfr] at h1
  have hu := upf_upd [(s.nx, .tip sz xs.length)] s.h
  simp only [upf] at hu
  rw [hu] at h1
  have hE' := hE.mono (fr' := fun i => s.nx + 1 ≤ i) h2 fun i hi => by omega
  refine ⟨_, hg.trans (h2.le fun i hi => by omega), by simp only; omega, h1, ⟨hE'.defers, hE'.size, fun i x hi => ?_, fun i x hi => ?_⟩⟩
  · simp only [eget] at hi
    split at hi
    · rename_i he
      subst he
      obtain rfl := Option.some.inj hi
      exact ⟨v, hv, .own hp (by simp)⟩
    · exact hE'.val i x hi
  · simp only [eget] at hi
    split at hi
    · obtain rfl := Option.some.inj hi
      exact DV.nm_own.2 (by simp only; omega)
    · exact hE'.nm i x hi
theorem Sim.ownf {s : St} {a : Act} {w : World} (h : Sim gl K w0 n0 nt g0 s a w) {id o sz : Nat} {cs : List DV} {d : DV} (hob : hget s.h id = some (.box cs)) (hd : cs[o]? = some d) {xs : List PV} (ho : ownOf sz d = some xs) (hz : 0 < sz) :
    Sim gl K w0 n0 nt g0 { e := s.e, h := upd s.h [(s.nx, .tip sz xs.length), (id, .box (cs.set o (.own s.nx sz xs)))], nx := s.nx + 1 } a w := by
  obtain ⟨g, hg, hn, hH, hE⟩ := h
  obtain ⟨B, vs, el, hB, hhb, hlen, hone, hrep, hmB⟩ := hH.obj _ _ hob
  have hid : id < s.nx := by have := hH.ids _ _ hob; omega
  have hlt : o < vs.size := by have := (List.getElem?_eq_some_iff.1 hd).1; omega
  have hr := hrep o d vs[o] hd (by simp [hlt])
  obtain ⟨A, hA, hp⟩ := ownOf_sound ho hz hr
  have hlow := hH.low s.nx (Nat.le_refl _)
  obtain ⟨h1, h2⟩ := hH.setTip (id := s.nx) (sz := sz) (n := xs.length) (v := vs[o]) (.inl (Nat.le_refl _)) (w' := w) (m' := g.m) (.refl _) (fun _ _ _ => rfl) rfl rfl rfl (Nat.le_refl _) (fun _ _ _ => rfl) hH.mem (fun _ _ _ _ => rfl)
    (fun B hB => by
      obtain ⟨c, h1, h2⟩ := hB
      simp only [and_self, if_true, hA, Option.some.injEq, Value.slice.injEq] at h1
      omega)
    (.inl ⟨A, by simp [hA], fun k hk => by
      have : ¬ k = xs.length := by omega
      simp [this, hlow.2]⟩)
  have hfr : (fun i => s.nx ≤ i ∧ i ≠ s.nx) = fun i => s.nx + 1 ≤ i := by funext i; simp only [eq_iff_iff]; omega
  rw [hfr] at h1
  have hne : id ≠ s.nx := by omega
  have h3 := h1.setObj (id := id) (o := .box cs) (o' := .box (cs.set o (.own s.nx sz xs))) (by simp [fupd, hne, hob]) (B := B) hB (w' := w) rfl rfl rfl rfl (fun _ _ => rfl) (fun x v hx => by rw [show _ = none from hmB x] at hx; cases hx) (fun B' hB' => by
      simp only [Owns] at hB'
      rw [hB] at hB'; exact (Option.some.inj hB').symm) ⟨B, vs, el, hB, hhb, by simpa using hlen, hone, fun j c v hc hv => by
      rw [List.getElem?_set] at hc
      split at hc
      · rename_i he; subst he
        split at hc
        · obtain rfl := Option.some.inj hc
          have : v = vs[o] := by simp [hlt] at hv; exact hv.symm
          subst this
          exact .own hp (by simp)
        · simp at hc
      · exact (hrep j c v hc hv).mono h2 (hH.nm _ _ hob c (List.mem_of_getElem? hc)), hmB⟩ (fun c hc => by
      rcases List.mem_or_eq_of_mem_set hc with hc | rfl
      · exact DV.nm_mono (fun i hi => by omega) c (hH.nm _ _ hob c hc)
      · exact DV.nm_own.2 (by omega))
  have hu := upf_upd [(s.nx, .tip sz xs.length), (id, .box (cs.set o (.own s.nx sz xs)))] s.h
  simp only [upf] at hu
  rw [hu] at h3
  exact ⟨_, hg.trans (h2.le fun i hi => by omega), Nat.le_trans hn (Nat.le_succ _), h3, hE.mono h2 fun i hi => Nat.le_trans (Nat.le_succ _) hi⟩
theorem DV.norm_nm {p : Nat → Prop} {d : DV} (h : d.nm p) : d.norm.nm p := by
  unfold DV.norm
  split
  · exact DV.nm_pv
  · exact h
theorem DV.cold_nm {p : Nat → Prop} {d : DV} (h : d.nm p) : d.cold.nm p := by
  unfold DV.cold
  split
  · exact DV.norm_nm h
  · exact DV.norm_nm h
  · exact h
theorem cold_sound {g : Gh} {d : DV} {v : Value} (h : DRep g d v) : DRep g d.cold v := by
  unfold DV.cold
  split
  · exact norm_sound h
  · exact norm_sound h
  · exact h
theorem Sim.nrm {s : St} {a : Act} {w : World} (h : Sim gl K w0 n0 nt g0 s a w) {id : Nat} {cs : List DV} (hob : hget s.h id = some (.box cs)) :
    Sim gl K w0 n0 nt g0 { e := s.e, h := upd s.h [(id, .box (cs.map DV.cold))], nx := s.nx } a w := by
  obtain ⟨g, hg, hn, hH, hE⟩ := h
  obtain ⟨B, vs, el, hB, hhb, hlen, hone, hrep, hmB⟩ := hH.obj _ _ hob
  have h3 := hH.setObj (id := id) (o := .box cs) (o' := .box (cs.map DV.cold)) hob (B := B) hB (w' := w) rfl rfl rfl rfl (fun _ _ => rfl) (fun x v hx => by rw [show _ = none from hmB x] at hx; cases hx) (fun B' hB' => by
      simp only [Owns] at hB'
      rw [hB] at hB'; exact (Option.some.inj hB').symm) ⟨B, vs, el, hB, hhb, by simpa using hlen, hone, fun j c v hc hv => by
      rw [List.getElem?_map] at hc
      obtain ⟨c', hc', rfl⟩ := Option.map_eq_some_iff.1 hc
      exact cold_sound (hrep j c' v hc' hv), hmB⟩ (fun c hc => by
      obtain ⟨c', hc', rfl⟩ := List.mem_map.1 hc
      exact DV.cold_nm (hH.nm _ _ hob c' hc'))
  have hu := upf_upd [(id, .box (cs.map DV.cold))] s.h
  simp only [upf] at hu
  rw [hu] at h3
  exact ⟨_, hg, hn, h3, hE⟩
theorem SimH.frz {h : Heap} {fr : Nat → Prop} {g : Gh} {w : World} (hH : SimH gl K w0 (hget h) fr g w) {id : Nat} {ps : List PV} (hob : hget h id = some (.box (ps.map .pv))) :
    ∃ g' B, SimH gl K w0 (hget (dropH [id] h)) fr g' w ∧ GLe K (fun i => ¬ fr i) g g' ∧ g.μ id = some B ∧ ∀ (j : Nat) (c : PV), ps[j]? = some c → ∃ v, g'.m B j = some v ∧ PRep g'.m c v ∧ v.oneCell' = true := by
  obtain ⟨B, vs, el, hB, hhb, hlen, hone, hrep, hmB⟩ := hH.obj _ _ hob
  rw [List.length_map] at hlen
  let m' : Mem := fun b o => if b = B then (if o < ps.length then vs[o]? else none) else g.m b o
  let g' : Gh := { m := m', μ := g.μ, τ := g.τ }
  have hm : MemLe g.m m' := fun b o v hv => by
    simp only [m']; rw [if_neg]
    · exact hv
    · intro he; subst he; rw [hmB] at hv; simp at hv
  have hgg : GLe K (fun i => ¬ fr i) g g' := ⟨hm, fun b hb o => by
    simp only [g', m']; rw [if_neg]; intro he; subst he; exact hH.off _ _ _ hob hB hb, fun _ _ => rfl, fun _ _ _ _ h => h⟩
  have hget' : ∀ i, hget (dropH [id] h) i = if i = id then none else hget h i := fun i => by rw [dropH_get]; simp
  have hsub : ∀ i o, hget (dropH [id] h) i = some o → hget h i = some o ∧ i ≠ id := fun i o hi => by
    rw [hget'] at hi; split at hi
    · simp at hi
    · exact ⟨hi, by assumption⟩
  have hOw : ∀ {i : Nat} {o : Ob} {b : Nat}, Owns g' i b o ↔ Owns g i b o := fun {i o b} => by cases o <;> simp [Owns, g']
  refine ⟨g', B, ?_, hgg, hB, fun j c hc => ?_⟩
  · exact
      { os := hH.os, tape := hH.tape, output := hH.output, size := hH.size, kept := hH.kept, old := hH.old
        mem := fun b o v hv => by
          simp only [g', m'] at hv
          split at hv
          · rename_i he; subst he
            split at hv
            · rw [cell_of_heap hhb]; exact hv
            · simp at hv
          · exact hH.mem b o v hv
        ids := fun i o hi => hH.ids i o (hsub i o hi).1
        low := hH.low
        obj := fun i o hi => (hH.obj i o (hsub i o hi).1).mono hgg (hH.ids i o (hsub i o hi).1) (hH.nm i o (hsub i o hi).1) rfl fun b hb => ⟨rfl, fun x => by
          simp only [g', m']; rw [if_neg]; intro he; subst he; exact (hsub i o hi).2 (hH.inj _ _ _ _ b (hsub i o hi).1 hob hb hB)⟩
        nm := fun i o hi => hH.nm i o (hsub i o hi).1
        inj := fun i j o o' b h1 h2 h3 h4 => hH.inj i j o o' b (hsub i o h1).1 (hsub j o' h2).1 (hOw.1 h3) (hOw.1 h4)
        off := fun i o b h1 h2 => hH.off i o b (hsub i o h1).1 (hOw.1 h2)
        glo := fun b cs hb j c hc => let ⟨k1, u, k2, k3⟩ := hH.glo b cs hb j c hc; ⟨k1, u, hm _ _ _ k2, k3.mono hm⟩ }
  · have hj : j < ps.length := (List.getElem?_eq_some_iff.1 hc).1
    have hjv : j < vs.size := by omega
    refine ⟨vs[j], by simp [g', m', hj, hjv], ((hrep j (.pv c) vs[j] (by simp [hc]) (by simp [hjv])).pv_inv).mono hm, hone _ (by simp)⟩
theorem Sim.frz {s : St} {a : Act} {w : World} (h : Sim gl K w0 n0 nt g0 s a w) {t id : Nat} {ps : List PV} (hob : hget s.h id = some (.box (ps.map .pv))) {d d' : DV} (hd : eget s.e t = some d) (hd' : d'.nm fun _ => False)
    (hr : ∀ (g' : Gh) (B : Nat) (v : Value), DRep g' d v → g'.μ id = some B → (∀ (j : Nat) (c : PV), ps[j]? = some c → ∃ v, g'.m B j = some v ∧ PRep g'.m c v ∧ v.oneCell' = true) → DRep g' d' v) :
    Sim gl K w0 n0 nt g0 { e := (t, d') :: s.e, h := dropH [id] s.h, nx := s.nx } a w := by
  obtain ⟨g, hg, hn, hH, hE⟩ := h
  obtain ⟨g', B, h1, h2, h3, h4⟩ := hH.frz hob
  obtain ⟨v, hv, hrv⟩ := hE.val _ _ hd
  have hE' := hE.mono h2 fun i hi => hi
  refine ⟨g', hg.trans (h2.le fun i hi => by omega), hn, h1, ⟨hE'.defers, hE'.size, fun i x hi => ?_, fun i x hi => ?_⟩⟩
  · simp only [eget] at hi
    split at hi
    · rename_i he
      subst he
      obtain rfl := Option.some.inj hi
      exact ⟨v, hv, hr g' B v (hrv.mono h2 (hE.nm _ _ hd)) ((h2.μ id (hH.ids _ _ hob)).trans h3) h4⟩
    · exact hE'.val i x hi
  · simp only [eget] at hi
    split at hi
    · obtain rfl := Option.some.inj hi
      exact DV.nm_mono (fun _ h => h.elim) _ hd'
    · exact hE'.nm i x hi
end
theorem frz_row {g' : Gh} {id len sz B : Nat} {xs : List PV} {v : Value} (hv : DRep g' (.mrow id 0 len sz) v) (hB : g'.μ id = some B) (hc : ∀ (j : Nat) (c : PV), (flat xs)[j]? = some c → ∃ v, g'.m B j = some v ∧ PRep g'.m c v ∧ v.oneCell' = true)
    (hxl : xs.length = len) (hz : 0 < sz) (hcs : ∀ x ∈ xs, x.cells.length = sz) (hone : ∀ c ∈ flat xs, c.one = true) : DRep g' (.pv (.lst sz xs)) v := by
  cases hv with
  | mrow hμ hcap hmx =>
    rename_i cap B'
    rw [hB] at hμ; obtain rfl := Option.some.inj hμ
    have hex : ∀ l : List PV, ∀ o, (∀ (j : Nat) (c : PV), l[j]? = some c → ∃ v, g'.m B (o + j) = some v ∧ PRep g'.m c v ∧ v.oneCell' = true) →
        ∃ vs : List Value, vs.length = l.length ∧ (∀ (j : Nat) (u : PV) (v : Value), l[j]? = some u → vs[j]? = some v → PRep g'.m u v) ∧ ∀ (j : Nat) (v : Value), vs[j]? = some v → g'.m B (o + j) = some v := by
      intro l
      induction l with
      | nil => intro o _; exact ⟨[], rfl, by simp, by simp⟩
      | cons c r ih =>
        intro o h
        obtain ⟨v, h1, h2, _⟩ := h 0 c rfl
        obtain ⟨vs, h3, h4, h5⟩ := ih (o + 1) (fun j c hj => by have := h (j + 1) c (by simpa using hj); rwa [show o + (j + 1) = o + 1 + j by omega] at this)
        refine ⟨v :: vs, by simp [h3], fun j u v' hu hv' => ?_, fun j v' hv' => ?_⟩
        · cases j with
          | zero => simp at hu hv'; subst hu; subst hv'; exact h2
          | succ j => exact h4 j u v' (by simpa using hu) (by simpa using hv')
        · cases j with
          | zero => simp at hv'; subst hv'; exact h1
          | succ j => have := h5 j v' (by simpa using hv'); rwa [show o + 1 + j = o + (j + 1) by omega] at this
    obtain ⟨vs, h1, h2, h3⟩ := hex (flat xs) 0 (by simpa using hc)
    exact .pv (.lst vs hxl hcap hmx hz hcs hone h1 h2 (.inr ⟨B, 0, rfl, h3⟩))
/-! ### Bodies -/
def markOf (D : Nat) : Deferred := { target := .collected D, args := #[] }
def SimD (gl : Glob) (K : Nat → Prop) (w0 : World) (n0 nt : Nat) (g0 : Gh) (s : St) (a : Act) (w : World) : Prop :=
  ∃ (K1 : Nat → Prop) (w1 : World) (Ds : List Nat), (∀ b, K b → K1 b) ∧ Chain K w0 w1 ∧ Ds.Nodup ∧ (∀ D ∈ Ds, K1 D ∧ ¬ K D ∧ w1.heap[D]? = some (.deferred (some []))) ∧ Sim gl K1 w1 n0 ⟨nt, Ds.map markOf⟩ g0 s a w
def Left (gl : Glob) (K : Nat → Prop) (w0 : World) (n0 nt : Nat) (g0 : Gh) (Q : Ex → St → Prop) (e : Exit) (a : Act) (w : World) : Prop :=
  ∃ x s, toEx e = some x ∧ Q x s ∧ SimD gl K w0 n0 nt g0 s a w
theorem regOk_len {P : Program} {nt : Nat} {ops : Array Oper} : ∀ {os : List Oper} {is : List Ins}, regOk P nt ops os is = true → os.length = is.length
  | [], [], _ => rfl
  | _ :: os, _ :: is, h => by simp only [regOk, Bool.and_eq_true] at h; simp [regOk_len h.2]
  | [], _ :: _, h => by simp [regOk] at h
  | _ :: _, [], h => by simp [regOk] at h
def Sound (P : Program) (gl : Glob) (nt : Nat) (t : C) : Prop :=
  ∀ (c : Code) (top : Bool) (ro : Option Nat), chk P nt top c t = true → (top = true → ro = none) → ∀ (K : Nat → Prop) (w0 : World) (n0 : Nat) (g0 : Gh) (Q : Ex → St → Prop) (s : St) (a : Act) (w : World),
    vc P gl n0 t Q s → SimD gl K w0 n0 nt g0 s a w → c.wpIn (WF ro) 0 P (Left gl K w0 n0 nt g0 Q) a w
section
variable {P : Program} {gl : Glob} {nt : Nat}
theorem foldl_set_get : ∀ (l : List (Nat × Value)) (t : Array Value) (i : Nat), (l.map (·.1)).Nodup → (∀ x ∈ l, x.1 < t.size) →
    (l.foldl (fun t (x : Nat × Value) => t.setIfInBounds x.1 x.2) t).size = t.size ∧
    (l.foldl (fun t (x : Nat × Value) => t.setIfInBounds x.1 x.2) t)[i]? = (match l.find? (fun x => x.1 == i) with | some x => some x.2 | none => t[i]?)
  | [], t, i, _, _ => ⟨rfl, rfl⟩
  | (p, v) :: l, t, i, hn, hl => by
    simp only [List.map_cons, List.nodup_cons] at hn
    obtain ⟨h1, h2⟩ := foldl_set_get l (t.setIfInBounds p v) i hn.2 (fun x hx => by simpa using hl x (.tail _ hx))
    rw [List.foldl_cons]
    refine ⟨by rw [h1]; simp, ?_⟩
    rw [h2, List.find?_cons]
    by_cases hp : p = i
    · subst hp
      have hnone : l.find? (fun x => x.1 == p) = none := by
        rw [List.find?_eq_none]
        intro x hx he
        exact hn.1 (List.mem_map.2 ⟨x, hx, by simpa using he⟩)
      have := hl (p, v) (.head _)
      simp [hnone, this]
    · have : (p == i) = false := by simpa using hp
      simp only [this]
      cases l.find? (fun x => x.1 == i) with
      | some x => rfl
      | none => simp [Array.getElem?_setIfInBounds_ne hp]
theorem eget_zip {e0 : Env} : ∀ {ps : List Nat} {ds : List DV}, ps.length = ds.length → ∀ (i : Nat) (d : DV), eget (ps.zip ds ++ e0) i = some d → (∃ j : Nat, ps[j]? = some i ∧ ds[j]? = some d) ∨ (i ∉ ps ∧ eget e0 i = some d)
  | [], [], _, i, d, h => .inr ⟨by simp, h⟩
  | p :: ps, x :: ds, hl, i, d, h => by
    simp only [List.zip_cons_cons, List.cons_append, eget] at h
    split at h
    · rename_i he; subst he
      exact .inl ⟨0, rfl, h⟩
    · rename_i hne
      rcases eget_zip (by simpa using hl) i d h with ⟨j, h1, h2⟩ | ⟨h1, h2⟩
      · exact .inl ⟨j + 1, by simpa using h1, by simpa using h2⟩
      · exact .inr ⟨by simp [hne, h1], h2⟩
  | [], _ :: _, hl, _, _, _ => by simp at hl
  | _ :: _, [], hl, _, _, _ => by simp at hl
theorem runEx {e : Exit} {x : Ex} (h : toEx e = some x) : (e = .normal ∧ x = .nrm) ∨ (∃ i, e = .exit i ∧ x = .ext i) ∨ (e = .ret ∧ x = .ret) := by
  cases e <;> simp only [toEx, Option.some.injEq, reduceCtorEq] at h <;> subst h <;> simp
theorem round_ok {x y : C} (ihx : Sound P gl nt x) (ihy : Sound P gl nt y) {asg body : Code} (hx : chk P nt false asg x = true) (hy : chk P nt false body y = true) {ps : Array Tmp} (hps : ps.toList.Nodup) (hpn : ∀ p ∈ ps.toList, p < nt) {n l : Nat} {R : LRec} (hR : R.tn = nt ∧ R.ps = ps ∧ R.asg = asg ∧ R.body = body)
    {e0 : Env} (he0 : envNm n e0) {ds : List DV} {Ha Hb : Heap} {st' : Option Ex} (hlen : ds.length = ps.toList.length) (hds : ∀ x ∈ ds, x.nm fun i => i < n) (hHa : heapNm n Ha) (hHb : heapNm n Hb)
    (hv : vc P gl n x (fun e s => match e with | .nrm => vc P gl n y (fun e s' => exJump e = st' ∧ ∃ ob, kobs s'.h ob = Hb) s | _ => False) { e := ps.toList.zip ds ++ e0, h := Ha, nx := n }) :
    ACall P gl (.yield l) (n + 1) ds ((n, .lrec l R none e0) :: Ha) (.pv (.bool st'.isNone)) ((n, .lrec l R (st'.map exCode) e0) :: Hb) (n + 1) where
  enter := fun _ h => by simp at h
  isFn := .inr ⟨l, rfl⟩
  le := Nat.le_refl _
  args := fun d hd => DV.nm_mono (fun _ h => by omega) d (hds d hd)
  obs := fun i o hi => by
    simp only [hget] at hi
    split at hi
    · rename_i he; subst he; obtain rfl := Option.some.inj hi
      exact ⟨by omega, fun i d hi => DV.nm_mono (fun _ h => by omega) d (envNm_get he0 hi)⟩
    · have := heapNm_get hHa hi
      exact ⟨by omega, Ob.nm_mono (fun _ h => by omega) this.2⟩
  res := DV.nm_pv
  obs' := fun i o hi => by
    simp only [hget] at hi
    split at hi
    · rename_i he; subst he; obtain rfl := Option.some.inj hi
      exact ⟨by omega, fun i d hi => DV.nm_mono (fun _ h => by omega) d (envNm_get he0 hi)⟩
    · have := heapNm_get hHb hi
      exact ⟨by omega, Ob.nm_mono (fun _ h => by omega) this.2⟩
  run := by
    intro K w0 g w vs hH hl ha
    obtain ⟨rfl, rfl, rfl, rfl⟩ := hR
    have hob : hget ((n, Ob.lrec l R none e0) :: Ha) n = some (.lrec l R none e0) := by simp [hget]
    obtain ⟨hμ, ⟨tmps, hrec, htn, hval⟩, hml⟩ := hH.obj _ _ hob
    have hlK : ¬ K l := hH.off _ _ l hob hμ
    have hlsz : l < w.heap.size := (Array.getElem?_eq_some_iff.1 hrec).1
    have hysz : vs.size = R.ps.size := by rw [← hl, hlen]; simp
    have hyr := run_yield (P := P) (args := vs) hrec hysz
    refine ⟨_, _, _, _, hyr, ?_⟩
    -- the objects without the record
    have hget' : ∀ i o, hget Ha i = some o → hget ((n, Ob.lrec l R none e0) :: Ha) i = some o ∧ i < n ∧ o.nm fun i => i < n := fun i o hi => by
      have := heapNm_get hHa hi
      exact ⟨by simp only [hget]; rw [if_neg (by omega)]; exact hi, this.1, this.2⟩
    have hcut := hH.cut (n' := n) hget'
    let K2 : Nat → Prop := fun b => K b ∨ b = l
    have hoff2 : ∀ i o b, hget Ha i = some o → Owns (cutG n g) i b o → ¬ K2 b := fun i o b hi hb hk => by
      have hi' := hget' i o hi
      have hOw : Owns g i b o := by
        have : Owns (cutG n g) i b o ↔ Owns g i b o := by cases o <;> simp [Owns, cutG, hi'.2.1]
        exact this.1 hb
      rcases hk with hk | rfl
      · exact hH.off i o b hi'.1 hOw hk
      · have := hH.inj i n o _ b hi'.1 hob hOw hμ
        omega
    have hbase := hcut.rebase (K' := K2) (fun b hb => by
      rcases hb with hb | rfl
      · exact Nat.lt_of_lt_of_le (hH.old b hb) hH.size
      · exact hlsz) hoff2
    -- the round's temporaries
    let T : Array Value := (R.ps.zip vs).foldl (fun tmps (t, a) => tmps.setIfInBounds t a) tmps
    have hT : ∀ i, T.size = tmps.size ∧ T[i]? = (match (R.ps.toList.zip vs.toList).find? (fun x => x.1 == i) with | some x => some x.2 | none => tmps[i]?) := fun i => by
      have := foldl_set_get (R.ps.toList.zip vs.toList) tmps i (by
        rw [List.map_fst_zip (by simp [← hysz])]; exact hps) (fun x hx => by
        have := List.of_mem_zip hx
        have h2 : x.1 < R.tn := hpn x.1 this.1
        rw [htn]; exact h2)
      have hz : (R.ps.zip vs).foldl (fun tmps (x : Nat × Value) => tmps.setIfInBounds x.1 x.2) tmps = (R.ps.toList.zip vs.toList).foldl (fun t (x : Nat × Value) => t.setIfInBounds x.1 x.2) tmps := by
        rw [← Array.foldl_toList]; simp
      rw [← hz] at this
      exact this
    have hmono : GLe (fun _ => False) (fun i => i < n) g (cutG n g) := cutG_le _ n g
    have hE : SimE ⟨R.tn, []⟩ (eget (R.ps.toList.zip ds ++ e0)) (fun i => n ≤ i) (cutG n g) { tmps := T, defers := [] } := by
      refine ⟨rfl, by simp only; rw [(hT 0).1, htn], fun i d hi => ?_, fun i d hi => ?_⟩
      · rcases eget_zip (by simp [hlen]) i d hi with ⟨j, h1, h2⟩ | ⟨h1, h2⟩
        · have hjv : j < vs.size := by rw [← hl]; exact (List.getElem?_eq_some_iff.1 h2).1
          refine ⟨vs[j], ?_, (ha j d vs[j] h2 (by simp [hjv])).mono hmono (hds d (List.mem_of_getElem? h2))⟩
          rw [(hT i).2]
          have hz : (R.ps.toList.zip vs.toList)[j]? = some (i, vs[j]) := by
            rw [List.getElem?_zip_eq_some]; exact ⟨h1, by simp [hjv]⟩
          have hjl : j < (R.ps.toList.zip vs.toList).length := (List.getElem?_eq_some_iff.1 hz).1
          cases hf : (R.ps.toList.zip vs.toList).find? (fun x => x.1 == i) with
          | none =>
            rw [List.find?_eq_none] at hf
            have := hf _ (List.mem_of_getElem? hz)
            simp at this
          | some q =>
            have hq1 := List.find?_some hf
            have hq2 := List.mem_of_find?_eq_some hf
            obtain ⟨k, hk, hkq⟩ := List.getElem_of_mem hq2
            have hkz : (R.ps.toList.zip vs.toList)[k]? = some q := by rw [List.getElem?_eq_getElem hk, hkq]
            obtain ⟨q1, q2⟩ := q
            rw [List.getElem?_zip_eq_some] at hkz
            have hq1 : q1 = i := by simpa using hq1
            subst hq1
            have hkk : k < R.ps.toList.length := (List.getElem?_eq_some_iff.1 hkz.1).1
            have hjj : j < R.ps.toList.length := (List.getElem?_eq_some_iff.1 h1).1
            have : k = j := (List.getElem_inj hps).1 (by
              have e1 := (List.getElem?_eq_some_iff.1 hkz.1).2
              have e2 := (List.getElem?_eq_some_iff.1 h1).2
              rw [e1, e2])
            subst this
            have := hkz.2
            simp [hjv] at this
            simp [this]
        · obtain ⟨v, k1, k2⟩ := hval i d h2
          refine ⟨v, ?_, k2.mono hmono (envNm_get he0 h2)⟩
          rw [(hT i).2]
          have : (R.ps.toList.zip vs.toList).find? (fun x => x.1 == i) = none := by
            rw [List.find?_eq_none]
            intro q hq he
            have he : q.1 = i := by simpa using he
            exact h1 (he ▸ (List.of_mem_zip hq).1)
          rw [this]; exact k1
      · rcases eget_zip (by simp [hlen]) i d hi with ⟨j, h1, h2⟩ | ⟨h1, h2⟩
        · exact DV.nm_mono (fun _ h => by omega) d (hds d (List.mem_of_getElem? h2))
        · exact DV.nm_mono (fun _ h => by omega) d (envNm_get he0 h2)
    have hsim : SimD gl K2 w n R.tn (cutG n g) { e := R.ps.toList.zip ds ++ e0, h := Ha, nx := n } { tmps := T, defers := [] } w :=
      ⟨K2, w, [], fun _ h => h, .refl hbase.old, .nil, by simp, cutG n g, .refl _ _ _, Nat.le_refl _, hbase, hE⟩
    refine roundIn_of_wpIn trivial (wpIn_mono (ihx R.asg false (some l) hx (by simp) K2 w n (cutG n g) _ _ _ w hv hsim) ?_)
    rintro e a1 W1 ⟨z, s1, he, hq, hs1⟩
    rcases runEx he with ⟨rfl, rfl⟩ | ⟨i, rfl, rfl⟩ | ⟨rfl, rfl⟩
    rotate_left
    · exact hq.elim
    · exact hq.elim
    obtain ⟨K3, w3, Ds, k1, k2, k3, k4, g1, k5, k6, k7, k8⟩ := hs1
    have hl3 : K3 l := k1 l (.inr rfl)
    have hrec1 : W1.heap[l]? = w.heap[l]? := (k7.kept l hl3).trans (k2.kept l (.inr rfl))
    have hmem1 : ∀ x, g1.m l x = none := fun x => k7.noMem (hrec1.trans hrec) (by simp) x
    refine ⟨_, run_beginRound (hrec1.trans hrec) rfl, ?_⟩
    have hput := k7.putBase (.loop { state := .busy, pending := none, fn := R.fn, tmps, params := R.ps, assign := R.asg, body := R.body, defers := R.D }) hl3 hmem1
    generalize hW2 : W1.putObj l (.loop { state := .busy, pending := none, fn := R.fn, tmps, params := R.ps, assign := R.asg, body := R.body, defers := R.D }) = W2 at hput
    have hW2' : ∀ b, b ≠ l → W2.heap[b]? = W1.heap[b]? := fun b hb => by rw [← hW2]; exact World.putObj_heap_other hb
    have hrec2 : W2.heap[l]? = some (.loop { state := .busy, pending := none, fn := R.fn, tmps, params := R.ps, assign := R.asg, body := R.body, defers := R.D }) := by
      rw [← hW2]; exact World.putObj_heap_same (Array.getElem?_eq_some_iff.1 (hrec1.trans hrec)).1
    have hDl : ∀ D ∈ Ds, D ≠ l := fun D hD he => (k4 D hD).2.1 (he ▸ .inr rfl)
    have hsim2 : SimD gl K2 W2 n R.tn g1 s1 a1 W2 :=
      ⟨K3, W2, Ds, k1, .refl (fun b hb => hput.old b (k1 b hb)), k3, fun D hD => ⟨(k4 D hD).1, (k4 D hD).2.1, by
        rw [hW2' D (hDl D hD)]; exact (k7.kept D (k4 D hD).1).trans (k4 D hD).2.2⟩, g1, .refl _ _ _, k6, hput, k8⟩
    refine wpIn_mono (ihy R.body false (some l) hy (by simp) K2 W2 n g1 _ _ _ W2 hq hsim2) ?_
    rintro e a3 W3 ⟨z, s3, he, ⟨hj, ob, hob3⟩, hs3⟩
    obtain ⟨K5, w5, Ds5, p1, p2, p3, p4, g3, p5, p6, p7, p8⟩ := hs3
    have hrec3 : W3.heap[l]? = some (.loop { state := .busy, pending := none, fn := R.fn, tmps, params := R.ps, assign := R.asg, body := R.body, defers := R.D }) :=
      ((p7.kept l (p1 l (.inr rfl))).trans (p2.kept l (.inr rfl))).trans hrec2
    have hmem3 : ∀ x, g3.m l x = none := fun x => p7.noMem hrec3 (by simp) x
    -- all that is behind the round
    have fin : ∀ jump, st'.map exCode = jump → ∃ v w', (Instr.endRound l jump).run P W3 = .ok v w' ∧ ∃ v' g', Ending.returned v = .returned v' ∧ DRep g' (.pv (.bool st'.isNone)) v' ∧ SimH gl K w0 (hget ((n, .lrec l R (st'.map exCode) e0) :: Hb)) (fun i => n + 1 ≤ i) g' w' ∧ GLe K (fun i => i < n + 1) g g' := by
      intro jump hjump
      refine ⟨_, _, run_endRound (P := P) jump hrec3, ?_⟩
      have hg13 : GLe K (fun i => i < n) (cutG n g) g3 := by
        have a1 : GLe K (fun i => i < n) (cutG n g) g1 := ⟨k5.m, fun b hb => k5.fix b (k1 b (.inl hb)), k5.μ, k5.τ⟩
        exact a1.trans ⟨p5.m, fun b hb => p5.fix b (p1 b (.inl hb)), p5.μ, p5.τ⟩
      have hgg : GLe K (fun i => i < n) g g3 := (cutG_le K n g).trans hg13
      let g4 : Gh := { m := g3.m, μ := fun i => if i < n then g3.μ i else if i = n then some l else none, τ := fun i => if i < n then g3.τ i else if i = n then g.τ n else fun _ => none }
      have hg34 : GLe K (fun i => i < n) g3 g4 := ⟨.refl _, fun _ _ _ => rfl, fun i hi => by simp [g4, hi], fun i hi j v hv => by simp [g4, hi, hv]⟩
      have hg4 : GLe K (fun i => i < n + 1) g g4 := ⟨hgg.m, hgg.fix, fun i hi => by
          by_cases hin : i < n
          · simp only [g4, hin, if_true]; exact hgg.μ i hin
          · have : i = n := by omega
            subst this; simp [g4, hμ], fun i hi j v hτ => by
          by_cases hin : i < n
          · simp only [g4, hin, if_true]; exact hgg.τ i hin j v hτ
          · have : i = n := by omega
            subst this; simp only [g4, Nat.lt_irrefl, if_false, if_true]; exact hτ⟩
      have hbs : ∀ i o, hget Hb i = some o → hget s3.h i = some o ∧ i < n ∧ o.nm fun i => i < n := fun i o hi => by
        rw [← hob3] at hi
        have h1 := kobs_get _ _ _ _ hi
        rw [hob3] at hi
        exact ⟨h1, heapNm_get hHb hi⟩
      have hOw4 : ∀ {i : Nat} {o : Ob} {b : Nat}, i < n → (Owns g4 i b o ↔ Owns g3 i b o) := fun {i o b} hi => by cases o <;> simp [Owns, g4, hi]
      let r' : Loop := { state := if jump.isNone then .ready else .done, pending := jump, fn := R.fn, tmps, params := R.ps, assign := R.asg, body := R.body, defers := R.D }
      have hlsz3 : l < W3.heap.size := (Array.getElem?_eq_some_iff.1 hrec3).1
      have hother : ∀ b, b ≠ l → (W3.putObj l (.loop r')).heap[b]? = W3.heap[b]? := fun b hb => World.putObj_heap_other hb
      have hchain : Chain K w0 W3 := by
        have c1 : Chain K w0 w := hH.chain
        have c2 : Chain K2 w W1 := k2.trans k7.chain k1
        have c3 : Chain K2 W2 W3 := p2.trans p7.chain p1
        exact ⟨(c3.os.trans (by rw [← hW2]; exact c2.os)).trans c1.os, (c3.tape.trans (by rw [← hW2]; exact c2.tape)).trans c1.tape, (c3.output.trans (by rw [← hW2]; exact c2.output)).trans c1.output,
          Nat.le_trans c1.size (Nat.le_trans c2.size (Nat.le_trans (by rw [← hW2]; simp) c3.size)), fun b hb => by
            rw [c3.kept b (.inl hb), hW2' b (fun he => hlK (he ▸ hb)), c2.kept b (.inl hb), c1.kept b hb], hH.old⟩
      refine ⟨_, g4, rfl, ?_, ?_, hg4⟩
      · rw [← hjump]; cases st' <;> exact .pv .bool
      · have hcase : ∀ i o, hget ((n, Ob.lrec l R (st'.map exCode) e0) :: Hb) i = some o → (i = n ∧ o = .lrec l R (st'.map exCode) e0) ∨ (i ≠ n ∧ hget Hb i = some o) := fun i o hi => by
          simp only [hget] at hi
          split at hi
          · rename_i he; exact .inl ⟨he, (Option.some.inj hi).symm⟩
          · rename_i he; exact .inr ⟨he, hi⟩
        have hnotl : ∀ i o, hget Hb i = some o → ¬ Owns g4 i l o := fun i o hi hb => by
          have h := hbs i o hi
          exact p7.off i o l h.1 ((hOw4 h.2.1).1 hb) (p1 l (.inr rfl))
        exact
          { os := hchain.os, tape := hchain.tape, output := hchain.output, size := by simpa using hchain.size
            kept := fun b hb => (hother b (fun he => hlK (he ▸ hb))).trans (hchain.kept b hb)
            old := hH.old
            mem := fun b x v hv => by
              have hne : b ≠ l := fun he => by subst he; simp only [g4] at hv; rw [hmem3] at hv; simp at hv
              have := p7.mem b x v hv
              simp only [World.cell?, World.putObj_heap_other hne] at this ⊢; exact this
            ids := fun i o hi hf => by
              rcases hcase i o hi with ⟨rfl, _⟩ | ⟨_, hi⟩
              · omega
              · have := (hbs i o hi).2.1; omega
            low := fun i hi => by
              have h1 : ¬ i < n := by omega
              have h2 : ¬ i = n := by omega
              simp [g4, h1, h2]
            obj := fun i o hi => by
              rcases hcase i o hi with ⟨rfl, rfl⟩ | ⟨_, hi⟩
              · refine ⟨by simp [g4], ⟨tmps, ?_, htn, fun j d hj => ?_⟩, fun x => hmem3 x⟩
                · rw [World.putObj_heap_same hlsz3, ← hjump]
                  cases st' <;> rfl
                · obtain ⟨v, q1, q2⟩ := hval j d hj
                  exact ⟨v, q1, q2.mono hg4 (DV.nm_mono (fun _ h => by omega) d (envNm_get he0 hj))⟩
              · have h := hbs i o hi
                exact (p7.obj i o h.1).mono hg34 h.2.1 h.2.2 (by simp [g4, h.2.1]) fun b hb => ⟨hother b fun he => p7.off i o b h.1 hb (p1 b (he ▸ .inr rfl)), fun _ => rfl⟩
            nm := fun i o hi => by
              rcases hcase i o hi with ⟨rfl, rfl⟩ | ⟨_, hi⟩
              · exact fun j d hj => DV.nm_mono (fun _ h => by omega) d (envNm_get he0 hj)
              · exact Ob.nm_mono (fun _ h => by omega) (hbs i o hi).2.2
            inj := fun i j o o' b hi hj h1 h2 => by
              rcases hcase i o hi with ⟨hin, rfl⟩ | ⟨hin, hi'⟩ <;> rcases hcase j o' hj with ⟨hjn, rfl⟩ | ⟨hjn, hj'⟩
              · rw [hin, hjn]
              · rw [hin] at h1
                simp only [Owns, g4, Nat.lt_irrefl, if_false, if_true, Option.some.injEq] at h1
                subst h1; exact absurd h2 (hnotl j o' hj')
              · rw [hjn] at h2
                simp only [Owns, g4, Nat.lt_irrefl, if_false, if_true, Option.some.injEq] at h2
                subst h2; exact absurd h1 (hnotl i o hi')
              · have a1 := hbs i o hi'
                have a2 := hbs j o' hj'
                exact p7.inj i j o o' b a1.1 a2.1 ((hOw4 a1.2.1).1 h1) ((hOw4 a2.2.1).1 h2)
            off := fun i o b hi h1 hb => by
              rcases hcase i o hi with ⟨hin, rfl⟩ | ⟨hin, hi⟩
              · rw [hin] at h1
                simp only [Owns, g4, Nat.lt_irrefl, if_false, if_true, Option.some.injEq] at h1
                exact hlK (h1 ▸ hb)
              · have a1 := hbs i o hi
                exact p7.off i o b a1.1 ((hOw4 a1.2.1).1 h1) (p1 b (.inl hb))
            glo := p7.glo }
    rcases runEx he with ⟨rfl, rfl⟩ | ⟨i, rfl, rfl⟩ | ⟨rfl, rfl⟩
    · exact fin none (by rw [← hj]; rfl)
    · exact fin (some (.exit i)) (by rw [← hj]; rfl)
    · exact fin (some .ret) (by rw [← hj]; rfl)
theorem SimD.keep {K : Nat → Prop} {w0 : World} {n0 : Nat} {g0 : Gh} {s : St} {a : Act} {w : World} (h : SimD gl K w0 n0 nt g0 s a w) {k : Kp} (hk : k.ok n0 s) : SimD gl K w0 n0 nt g0 (k.st s) a w :=
  let ⟨K1, w1, Ds, h1, h2, h3, h4, h5⟩ := h; ⟨K1, w1, Ds, h1, h2, h3, h4, h5.keep hk⟩
theorem gst_sound {K : Nat → Prop} {w0 : World} {n0 : Nat} {nt : NT} {g0 : Gh} {s : St} {a : Act} {w : World} {k : Gst} {Kc : St → Prop} (h : gst n0 k Kc s) (hs : Sim gl K w0 n0 nt g0 s a w) : ∃ s', Kc s' ∧ Sim gl K w0 n0 nt g0 s' a w := by
  unfold gst at h
  split at h
  · exact ⟨_, h.2, hs.keep h.1⟩
  · split at h
    · split at h
      · exact ⟨_, h.2, hs.own (by assumption) (by assumption) h.1⟩
      · exact h.elim
    · exact h.elim
  · split at h
    · split at h
      · split at h
        · split at h
          · exact ⟨_, h.2, hs.ownf (by assumption) (by assumption) (by assumption) h.1⟩
          · exact h.elim
        · exact h.elim
      · exact h.elim
    · split at h
      · split at h
        · split at h
          · exact ⟨_, h.2, hs.ownf (by assumption) (by assumption) (by assumption) h.1⟩
          · exact h.elim
        · exact h.elim
      · exact h.elim
    · exact h.elim
  · split at h
    · rename_i id hd
      split at h
      · rename_i cs hob
        split at h
        · rename_i ps hps
          obtain rfl := pvs_sound (g := ⟨fun _ _ => none, fun _ => none, fun _ _ => none⟩) hps
          refine ⟨_, h.2, hs.frz hob hd DV.nm_eptr fun g' B v hv hB hc => ?_⟩
          cases hv with
          | ptr hμ =>
            rw [hB] at hμ; obtain rfl := Option.some.inj hμ
            refine .eptr fun j c hj => ?_
            obtain ⟨u, q1, q2, _⟩ := hc j c hj
            exact ⟨h.1 c (List.mem_of_getElem? hj), u, by simpa using q1, q2⟩
        · exact h.elim
      · exact h.elim
    · rename_i id len sz hd
      split at h
      · rename_i cs hob
        split at h
        · rename_i ps hps
          obtain rfl := pvs_sound (g := ⟨fun _ _ => none, fun _ => none, fun _ _ => none⟩) hps
          obtain ⟨xs, rfl, hxl, hz, hcs, hone, hk⟩ := h
          refine ⟨_, hk, hs.frz hob hd DV.nm_pv fun g' B v hv hB hc => ?_⟩
          exact frz_row hv hB hc hxl hz hcs hone
        · exact h.elim
      · exact h.elim
    · exact h.elim
  · split at h
    · split at h
      · exact ⟨_, h, hs.nrm (by assumption)⟩
      · exact h.elim
    · split at h
      · exact ⟨_, h, hs.nrm (by assumption)⟩
      · exact h.elim
    · exact h.elim
theorem _root_.Go.Proofs.YthocoandbiaoiaaDoorV.ORep.kind {g : Gh} {w : World} {id B : Nat} {o : Ob} (h : ORep g w id o) (hB : Owns g id B o) : ∃ x, w.heap[B]? = some x ∧ ∀ ds, x ≠ .deferred ds := by
  cases o with
  | box cs =>
    obtain ⟨B', vs, e, h1, h2, _⟩ := h
    simp only [Owns] at hB
    rw [hB] at h1; obtain rfl := Option.some.inj h1
    exact ⟨_, h2, by simp⟩
  | tip sz n =>
    obtain ⟨c, hc, hlt⟩ := hB
    rcases h with ⟨A, h2, _⟩ | ⟨B', vs, e, c', h1, _, h2, _⟩
    · rw [h2] at hc
      simp only [Option.some.injEq, Value.slice.injEq] at hc
      omega
    · rw [h1] at hc
      simp only [Option.some.injEq, Value.slice.injEq, Addr.mk.injEq] at hc
      obtain ⟨⟨rfl, _⟩, _⟩ := hc
      exact ⟨_, h2, by simp⟩
  | mp es =>
    obtain ⟨B', en, clock, h1, h2, _⟩ := h
    simp only [Owns] at hB
    rw [hB] at h1; obtain rfl := Option.some.inj h1
    exact ⟨_, h2, by simp⟩
  | lrec l r st e =>
    obtain ⟨h1, ⟨tmps, h2, _⟩, _⟩ := h
    simp only [Owns] at hB
    rw [hB] at h1; obtain rfl := Option.some.inj h1
    exact ⟨_, h2, by simp⟩
theorem rf_ok {x y : C} (ihx : Sound P gl nt x) (ihy : Sound P gl nt y) {k : Kp} {g : O} {ps : List Nat} {G : Operand} {ps' : Array Tmp} {asg body : Code} (hc : chk P nt true (.rangeFunc G ps' asg body) (.rf k g ps x y) = true)
    {K : Nat → Prop} {w0 : World} {n0 : Nat} {g0 : Gh} {Q : Ex → St → Prop} {s : St} {a : Act} {w : World} (hv : vc P gl n0 (.rf k g ps x y) Q s) (hs : SimD gl K w0 n0 nt g0 s a w) :
    (Code.rangeFunc G ps' asg body).wpIn (WF none) 0 P (Left gl K w0 n0 nt g0 Q) a w := by
  simp only [chk, Bool.and_eq_true, Bool.true_and, beq_iff_eq, decide_eq_true_eq, List.all_eq_true] at hc
  obtain ⟨⟨⟨⟨⟨hG, hps⟩, hpn⟩, hpl⟩, hx⟩, hy⟩ := hc
  subst hps
  obtain ⟨hk, hv⟩ := hv
  split at hv
  case h_2 => exact hv.elim
  rename_i gf fa fc q hev
  obtain ⟨hq, hac, st, H1, n1, d, hH1, hit, hQ⟩ := hv
  obtain ⟨K1, w1, Ds, h1, h2, h3, h4, h5⟩ := hs
  -- the function that is ranged over
  have hgv : ∃ va vc, a.eval G = .func (.func gf) va vc ∧ fa.length = va.size ∧ fc.length = vc.size ∧ ∀ g, SimH gl K1 w1 (hget s.h) (fun i => s.nx ≤ i) g w → SimE ⟨nt, Ds.map markOf⟩ (eget s.e) (fun i => s.nx ≤ i) g a →
      (∀ (j : Nat) (d : DV) (v : Value), fa[j]? = some d → va[j]? = some v → DRep g d v) ∧ (∀ (j : Nat) (d : DV) (v : Value), fc[j]? = some d → vc[j]? = some v → DRep g d v) := by
    have hf := hev
    unfold evFn at hf
    split at hf
    · rename_i f2 a2 c2 q2 hev2
      simp only [Option.some.injEq, Prod.mk.injEq, Fn.func.injEq] at hf
      obtain ⟨rfl, rfl, rfl, rfl⟩ := hf
      obtain ⟨g, _, _, hH, hE⟩ := id h5
      have hX := (evs_sound hH hE hG hev2 hq).1
      generalize hvv : a.eval G = v at hX
      cases hX
      rename_i va vc ha hc ha' hc'
      refine ⟨va, vc, rfl, by assumption, by assumption, fun g hH hE => ?_⟩
      have hX := (evs_sound hH hE hG hev2 hq).1
      rw [hvv] at hX
      cases hX
      exact ⟨by assumption, by assumption⟩
    · simp at hf
    · simp at hf
  obtain ⟨va, vc', hgv, hal, hcl, hgrep⟩ := hgv
  obtain ⟨g, hg, hn, hH, hE⟩ := id h5
  obtain ⟨hk1, hk2, hk3, hk4⟩ := hk
  obtain ⟨hra, hrc⟩ := hgrep g hH hE
  obtain ⟨n, hn'⟩ : ∃ n, k.nx = n := ⟨_, rfl⟩
  obtain ⟨e0, he0⟩ : ∃ e0, kslots s.e k.sl = e0 := ⟨_, rfl⟩
  obtain ⟨H0, hH0⟩ : ∃ H0, kobs s.h k.ob = H0 := ⟨_, rfl⟩
  rw [hn', he0] at hk3
  rw [hn', hH0] at hk4
  rw [hn', he0, hH0] at hit
  rw [hn', he0] at hQ
  rw [hn'] at hk1 hk2 hac hH1
  have hev0 : ∀ {i d}, eget e0 i = some d → eget s.e i = some d := fun {i d} hi => kslots_get _ _ _ _ (he0 ▸ hi)
  obtain ⟨D, hD⟩ : ∃ D, D = w.heap.size := ⟨_, rfl⟩
  obtain ⟨l, hl⟩ : ∃ l, l = w.heap.size + 1 := ⟨_, rfl⟩
  have hc1 := hH.cut (n' := n) (h' := H0) fun i o hi => ⟨kobs_get _ _ _ _ (hH0 ▸ hi), heapNm_get hk4 hi⟩
  refine wpIn_rangeFunc fun fn _ => ?_
  let R : LRec := { fn, tn := nt, ps := ps', asg, body, D }
  let rcd : Loop := { state := .ready, pending := none, fn, tmps := a.tmps, params := ps', assign := asg, body, defers := D }
  obtain ⟨wA, hwa⟩ : ∃ wA, wA = w.alloc (.deferred (some [])) := ⟨_, rfl⟩
  obtain ⟨W1, hw1⟩ : ∃ W1, W1 = wA.alloc (.loop rcd) := ⟨_, rfl⟩
  have hwA : wA.heap.size = l := by rw [hwa, hl]; simp
  have hA := hc1.alloc (.deferred (some []))
  rw [← hwa] at hA
  have hgm : GLe K1 (fun i => i < n) (cutG n g) { cutG n g with μ := fun i => if i = n then some l else (cutG n g).μ i } := ⟨.refl _, fun _ _ _ => rfl, fun i hi => by
    have : ¬ i = n := by omega
    simp [this], fun _ _ _ _ h => h⟩
  have hnew := SimH.newObj hA (id := n) (Nat.le_refl _) l hwA.symm (.lrec l R none e0) (.loop rcd) (fun B' h => by simpa [Owns] using h.symm)
    (fun i d hi => DV.nm_mono (fun _ h => by omega) d (envNm_get hk3 hi)) ⟨by simp, ⟨a.tmps, by rw [heap_alloc, if_pos hwA.symm], hE.size, fun i d hi => by
      obtain ⟨v, q1, q2⟩ := hE.val i d (hev0 hi)
      exact ⟨v, q1, (q2.mono (cutG_le K1 n g) (envNm_get hk3 hi)).mono hgm (envNm_get hk3 hi)⟩⟩, fun o => by
      have := hA.memnew o
      rw [hwA] at this; exact this⟩
  obtain ⟨hN, hgN⟩ := hnew
  generalize hg2 : ({ cutG n g with μ := fun i => if i = n then some l else (cutG n g).μ i } : Gh) = g2 at hN hgN
  have hfu : fupd (hget H0) n (.lrec l R none e0) = hget ((n, .lrec l R none e0) :: H0) := by
    funext j; simp [fupd, hget]
  have hfr : (fun i => n ≤ i ∧ i ≠ n) = fun i => n + 1 ≤ i := by funext i; simp only [eq_iff_iff]; omega
  rw [hfu, hfr, ← hw1] at hN
  have hDheap : W1.heap[D]? = some (.deferred (some [])) := by
    rw [hw1, heap_alloc, if_neg (by omega), hwa, heap_alloc, if_pos hD]
  have hK1lt : ∀ b, K1 b → b < w.heap.size := fun b hb => Nat.lt_of_lt_of_le (hH.old b hb) hH.size
  have hW1sz : W1.heap.size = w.heap.size + 2 := by rw [hw1, hwa]; simp
  let K2 : Nat → Prop := fun b => K1 b ∨ b = D
  have hbase := hN.rebase (K' := K2) (fun b hb => by
      rcases hb with hb | rfl
      · have := hK1lt b hb; omega
      · omega) (fun i o b hi hb hk => by
      rcases hk with hk | rfl
      · exact hN.off i o b hi hb hk
      · obtain ⟨x, hx, hne⟩ := (hN.obj i o hi).kind hb
        rw [hDheap] at hx
        exact hne _ (Option.some.inj hx).symm)
  have hcall := hit l R fun ds Ha st' Hb hlen hds hHa hHb hvx => round_ok ihx ihy hx hy hpn hpl ⟨rfl, rfl, rfl, rfl⟩ hk3 hlen hds hHa hHb hvx
  have hmono2 : ∀ {d : DV} {v : Value}, (d.nm fun i => i < n) → DRep g d v → DRep g2 d v := fun {d v} hd h => (h.mono (cutG_le K1 n g) hd).mono (hgN.le (p' := fun i => i < n) fun i hi => by omega) hd
  have hyrep : ∀ g, DRep g (.fn (.yield l) [] []) (.func (.yield l) #[] #[]) := fun g => .fn rfl rfl (by simp) (by simp)
  have hrun := hcall.run K2 W1 g2 W1 (va ++ #[.func (.yield l) #[] #[]] ++ vc') hbase (by simp [hal, hcl]; omega) (norm_nth (nth_append (by simp [hal]) (nth_append hal (fun j d v h1 h2 => hmono2 (hac d (by simp [List.mem_of_getElem? h1])) (hra j d v h1 h2)) fun j d v hj hv => by
      rcases j with _ | j <;> simp at hj hv
      subst hj; subst hv; exact hyrep _) fun j d v h1 h2 => hmono2 (hac d (by simp [List.mem_of_getElem? h1])) (hrc j d v h1 h2)))
  have hrun' : Calls P gf (va ++ #[.func (.yield l) #[] #[]] ++ vc') W1 _ := hrun
  have e1 : (rangeCall G l).args.map a.eval = #[.func (.yield l) #[] #[]] := by simp [rangeCall, Act.eval]
  have h2' : (resolve a.eval (rangeCall G l) 0).run P W1 = .ok { target := .fn (.func gf) vc', args := va ++ #[.func (.yield l) #[] #[]] } W1 := by
    simp only [resolve, e1, hgv, Deferred.ofValue, Sem.run_pure]
  have h3' : (invoke (.fn (.func gf) vc') (va ++ #[.func (.yield l) #[] #[]])).run P W1 = .ok (.enter gf (va ++ #[.func (.yield l) #[] #[]] ++ vc')) W1 := by
    simp only [invoke, hcall.enter gf rfl]
  have h4' : (Instr.enterLoop fn a.tmps ps' asg body none).run P w = .ok (l, [markOf D]) W1 := by
    have := run_enterLoop_outer (P := P) (w := w) fn a.tmps ps' asg body
    have hl' : l = D + 1 := by omega
    rw [← hD, ← hl'] at this
    rw [hw1, hwa]
    exact this
  refine ⟨l, [markOf D], W1, { target := .fn (.func gf) vc', args := va ++ #[.func (.yield l) #[] #[]] }, W1, gf, va ++ #[.func (.yield l) #[] #[]] ++ vc', W1, h4', h2', fun _ _ => trivial, h3', fun h => by simp [WF, Fence.wide] at h, ?_⟩
  refine callsIn_WF.2 (Calls.mono hrun' ?_)
  rintro e w' ⟨v, g3, rfl, hdv, hH3, hg3⟩
  have hobn : hget ((n, Ob.lrec l R (st.map exCode) e0) :: H1) n = some (.lrec l R (st.map exCode) e0) := by simp [hget]
  obtain ⟨hμ3, ⟨tmps3, hrec3, _⟩, hml3⟩ := hH3.obj _ _ hobn
  have hend := run_endLoop (P := P) hrec3 (by cases st <;> simp)
  refine ⟨_, _, hend, ?_⟩
  have hlK2 : ¬ K2 l := fun h => by
    rcases h with h | h
    · have := hK1lt l h; omega
    · omega
  have hsub : ∀ i o, hget H1 i = some o → hget ((n, Ob.lrec l R (st.map exCode) e0) :: H1) i = some o ∧ i < n ∧ o.nm fun i => i < n := fun i o hi => by
    have := heapNm_get hH1 hi
    exact ⟨by simp only [hget]; rw [if_neg (by omega)]; exact hi, this.1, this.2⟩
  have hcut := (hH3.cut (n' := n) hsub).put (b := l) (.loop { state := .exhausted, pending := st.map exCode, fn := R.fn, tmps := tmps3, params := R.ps, assign := R.asg, body := R.body, defers := R.D }) (fun i o hi hb => by
      have h := hsub i o hi
      have hOw : Owns g3 i l o := by
        have : Owns (cutG n g3) i l o ↔ Owns g3 i l o := by cases o <;> simp [Owns, cutG, h.2.1]
        exact this.1 hb
      have := hH3.inj i n o _ l h.1 hobn hOw hμ3
      omega) hml3 hlK2
  have hchain1 : Chain K1 w1 W1 := hN.chain
  have hg0D : ∀ o, g0.m D o = none := fun o => by
    cases h : g0.m D o with
    | none => rfl
    | some v => exact absurd (hH.memlt (hg.m _ _ _ h)) (by omega)
  have hggn : GLe K1 (fun i => i < n) g g2 := (cutG_le K1 n g).trans (hgN.le fun i hi => by omega)
  have hg23 : GLe K2 (fun i => i < n) g2 (cutG n g3) := (hg3.le (p' := fun i => i < n) fun i hi => by omega).trans (cutG_le K2 n g3)
  have hgg3 : GLe K1 (fun i => i < n) g (cutG n g3) := hggn.trans ⟨hg23.m, fun b hb => hg23.fix b (.inl hb), hg23.μ, hg23.τ⟩
  have hsd : SimD gl K w0 n0 nt g0 { e := e0, h := H1, nx := n } { a with defers := [markOf D] ++ a.defers } (w'.putObj l (.loop { state := .exhausted, pending := st.map exCode, fn := R.fn, tmps := tmps3, params := R.ps, assign := R.asg, body := R.body, defers := R.D })) := by
    refine ⟨K2, W1, D :: Ds, fun b hb => .inl (h1 b hb), h2.trans hchain1 h1, List.nodup_cons.2 ⟨fun hDD => ?_, h3⟩, fun D' hD' => ?_, cutG n g3, ?_, hk1, hcut, ?_, ?_, fun i d hi => ?_, fun i d hi => ?_⟩
    · have := hK1lt D (h4 D hDD).1; omega
    · rcases List.mem_cons.1 hD' with rfl | hD'
      · exact ⟨.inr rfl, fun h => by have := hK1lt D' (h1 D' h); omega, hDheap⟩
      · exact ⟨.inl (h4 D' hD').1, (h4 D' hD').2.1, (hchain1.kept D' (h4 D' hD').1).trans (h4 D' hD').2.2⟩
    · have hfin : GLe K1 (fun i => i < n0) g0 (cutG n g3) := hg.trans (hgg3.le fun i hi => by omega)
      refine ⟨hfin.m, fun b hb o => ?_, hfin.μ, hfin.τ⟩
      rcases hb with hb | hb
      · exact hfin.fix b hb o
      · rw [hb, hg0D o]
        have : w'.heap[D]? = some (.deferred (some [])) := (hH3.kept D (.inr rfl)).trans hDheap
        exact hH3.noMem this (by simp) o
    · simp [hE.defers]
    · exact hE.size
    · obtain ⟨v, q1, q2⟩ := hE.val i d (hev0 hi)
      exact ⟨v, q1, q2.mono hgg3 (envNm_get hk3 hi)⟩
    · exact DV.nm_mono (fun _ h => by simp only; omega) d (envNm_get hk3 hi)
  cases st with
  | none => exact ⟨.nrm, _, rfl, hQ, hsd⟩
  | some x =>
    cases x with
    | nrm => exact hQ.elim
    | ext i => exact wpIn_exit ⟨.ext i, _, rfl, hQ, hsd⟩
    | ret => exact wpIn_ret ⟨.ret, _, rfl, hQ, hsd⟩
theorem vc_sound : ∀ (t : C), Sound P gl nt t := by
  intro t
  induction t with
  | skip =>
    intro c top ro hc hro K w0 n0 g0 Q s a w hv hs
    cases c <;> simp only [chk, Bool.false_eq_true] at hc
    exact wpIn_skip ⟨.nrm, s, rfl, hv, hs⟩
  | reg is =>
    intro c top ro hc hro K w0 n0 g0 Q s a w hv hs
    cases c <;> try (simp only [chk, Bool.false_eq_true] at hc; done)
    rename_i id ops draw
    cases draw
    case true => simp [chk] at hc
    simp only [chk] at hc
    obtain ⟨K1, w1, Ds, h1, h2, h3, h4, h5⟩ := hs
    refine wpIn_region ?_
    have := rvc_sound (ro := ro) (nt := ⟨nt, Ds.map markOf⟩) (Q := Left gl K w0 n0 nt g0 Q) (fun s a w k1 k2 => ⟨.nrm, s, rfl, k1, K1, w1, Ds, h1, h2, h3, h4, k2⟩) is ops.toList 0 s a w hc (fun k => by simp) hv h5
    rw [← regOk_len hc] at this
    simpa [List.range_eq_range'] using this
  | dreg is prec =>
    intro c top ro hc hro K w0 n0 g0 Q s a w hv hs
    cases c <;> try (simp only [chk, Bool.false_eq_true] at hc; done)
    rename_i id ops draw
    cases draw
    case false => simp [chk] at hc
    simp only [chk, Bool.and_eq_true] at hc
    obtain ⟨K1, w1, Ds, h1, h2, h3, h4, h5⟩ := hs
    exact drawn_sound (nt := ⟨nt, Ds.map markOf⟩) hc.1.1 hc.1.2 hc.2 hv h5 fun s a w k1 k2 => ⟨.nrm, s, rfl, k1, K1, w1, Ds, h1, h2, h3, h4, k2⟩
  | seq x y ihx ihy =>
    intro c top ro hc hro K w0 n0 g0 Q s a w hv hs
    cases c <;> simp only [chk, Bool.false_eq_true, Bool.and_eq_true] at hc
    refine wpIn_seq (wpIn_mono (ihx _ top ro hc.1 hro K w0 n0 g0 _ s a w hv hs) ?_)
    rintro e a' w' ⟨z, s', he, hq, hs'⟩
    cases e <;> simp only [toEx, Option.some.injEq, reduceCtorEq] at he <;> subst he
    · exact ihy _ top ro hc.2 hro K w0 n0 g0 _ s' a' w' hq hs'
    · exact ⟨_, s', rfl, hq, hs'⟩
    · exact ⟨_, s', rfl, hq, hs'⟩
  | cond t x y ihx ihy =>
    intro c top ro hc hro K w0 n0 g0 Q s a w hv hs
    cases c <;> simp only [chk, Bool.false_eq_true, Bool.and_eq_true] at hc
    simp only [vc] at hv
    split at hv
    · rename_i b q hev
      obtain ⟨K1, w1, Ds, h1, h2, h3, h4, g, h5, h6, hH, hE⟩ := id hs
      have hb := (evs_sound hH hE hc.1.1 hev hv.1).1.bool_inv
      exact wpIn_cond_split hb (fun h => ihx _ top ro hc.1.2 hro K w0 n0 g0 _ s a w (hv.2.1 h) hs) (fun h => ihy _ top ro hc.2 hro K w0 n0 g0 _ s a w (hv.2.2 h) hs)
    · exact hv.elim
  | blk id x ih =>
    intro c top ro hc hro K w0 n0 g0 Q s a w hv hs
    cases c <;> simp only [chk, Bool.false_eq_true, Bool.and_eq_true, beq_iff_eq] at hc
    obtain ⟨rfl, hc⟩ := hc
    refine wpIn_block (wpIn_mono (ih _ top ro hc hro K w0 n0 g0 _ s a w hv hs) ?_)
    rintro e a' w' ⟨z, s', he, hq, hs'⟩
    cases e <;> simp only [toEx, Option.some.injEq, reduceCtorEq] at he <;> subst he
    · exact ⟨_, s', rfl, hq, hs'⟩
    · simp only [Exit.inBlock]
      simp only at hq
      split
      · rename_i h; rw [if_pos h] at hq; exact ⟨_, s', rfl, hq, hs'⟩
      · rename_i h; rw [if_neg h] at hq; exact ⟨_, s', rfl, hq, hs'⟩
    · exact ⟨_, s', rfl, hq, hs'⟩
  | loop k x ih =>
    intro c top ro hc hro K w0 n0 g0 Q s a w hv hs
    cases c <;> simp only [chk, Bool.false_eq_true] at hc
    obtain ⟨α, mk, ms, inv, ⟨hk, y, hy, he⟩, hround⟩ := hv
    refine wpIn_loop_ghost (fun n a w => ∃ y, inv y ∧ ms y = n ∧ SimD gl K w0 n0 nt g0 (mk y) a w) (ms y) ⟨y, hy, rfl, he ▸ hs.keep hk⟩ ?_
    rintro n a' w' ⟨z, hz, rfl, hs'⟩
    refine wpIn_mono (ih _ top ro hc hro K w0 n0 g0 _ _ a' w' (hround z hz) hs') ?_
    rintro e a2 w2 ⟨q, s2, he, hq, hs2⟩
    cases e <;> simp only [toEx, Option.some.injEq, reduceCtorEq] at he <;> subst he
    · obtain ⟨hk2, y2, hy2, hlt, he2⟩ := hq
      exact ⟨_, hlt, y2, hy2, rfl, he2 ▸ hs2.keep hk2⟩
    · exact ⟨_, s2, rfl, hq, hs2⟩
    · exact ⟨_, s2, rfl, hq, hs2⟩
  | ext id =>
    intro c top ro hc hro K w0 n0 g0 Q s a w hv hs
    cases c <;> simp only [chk, Bool.false_eq_true, beq_iff_eq] at hc
    subst hc
    exact wpIn_exit ⟨_, s, rfl, hv, hs⟩
  | ret =>
    intro c top ro hc hro K w0 n0 g0 Q s a w hv hs
    cases c <;> simp only [chk, Bool.false_eq_true] at hc
    exact wpIn_ret ⟨_, s, rfl, hv, hs⟩
  | gh k x ih =>
    intro c top ro hc hro K w0 n0 g0 Q s a w hv hs
    have hc' : chk P nt top c x = true := by cases c <;> simpa [chk] using hc
    simp only [vc] at hv
    obtain ⟨K1, w1, Ds, h1, h2, h3, h4, h5⟩ := hs
    obtain ⟨s', k1, k2⟩ := gst_sound hv h5
    exact ih c top ro hc' hro K w0 n0 g0 Q s' a w k1 ⟨K1, w1, Ds, h1, h2, h3, h4, k2⟩
  | rf k g ps x y ihx ihy =>
    intro c top ro hc hro K w0 n0 g0 Q s a w hv hs
    cases c <;> try (simp only [chk, Bool.false_eq_true] at hc; done)
    have ht : top = true := by simp only [chk, Bool.and_eq_true] at hc; exact hc.1.1.1.1.1.1
    subst ht
    obtain rfl := hro rfl
    exact rf_ok ihx ihy hc hv hs
end
end Go.Proofs.YthocoandbiaoiaaDoorV

namespace Go.Proofs.YthocoandbiaoiaaDoorV
open Go
inductive Rv where
  | raw (t : Nat)
  | tmp (t : Nat)
  | cell (t : Nat) (n : Option Nat)
def rvOk (P : Program) : ResultVar → Rv → Bool
  | .tmp t, .raw t' => t == t'
  | .tmp t, .tmp t' => t == t'
  | .cell t ty, .cell t' n => t == t' && shapeOk P ty n
  | _, _ => false
def rvsOk (P : Program) : List ResultVar → List Rv → Bool
  | [], [] => true
  | x :: r, y :: q => rvOk P x y && rvsOk P r q
  | _, _ => false
def Rv.out : Rv → DV → DV
  | .raw _, d => d
  | _, d => d.norm
def rget (s : St) : Rv → Option DV
  | .raw t => eget s.e t
  | .tmp t => eget s.e t
  | .cell t n => match eget s.e t with
    | some d => match at_ (hget s.h) d with
      | some (cs, _) => take_ n cs
      | none => none
    | none => none
def rgets (s : St) : List Rv → Option (List DV)
  | [] => some []
  | r :: q => match rget s r, rgets s q with
    | some d, some ds => some (r.out d :: ds)
    | _, _ => none
def retv (s : St) (rs : List Rv) : Option DV :=
  match rgets s rs with
  | some [d] => some d
  | some ds => some (.tup ds)
  | none => none
def rone (tmps : Array Value) : ResultVar → Sem Value
  | .tmp t => pure (tmps.getD t undef)
  | .cell x t => do loadVar t (← asAddr (tmps.getD x undef))
theorem results_eq (fn : Func) (tmps : Array Value) : results fn tmps = (do
    let vs ← fn.results.mapM (rone tmps)
    pure (if h : vs.size = 1 then vs[0] else .tuple vs) : Sem Value) := by
  unfold results
  congr 1
section
variable {P : Program} {gl : Glob} {K : Nat → Prop} {w0 : World} {g0 : Gh} {n0 : Nat} {nt : NT}
theorem rget_sound {s : St} {a : Act} {w : World} {g : Gh} (hH : SimH gl K w0 (hget s.h) (fun i => s.nx ≤ i) g w) (hE : SimE nt (eget s.e) (fun i => s.nx ≤ i) g a) {r : ResultVar} {q : Rv} (hk : rvOk P r q = true) {d : DV} (h : rget s q = some d) :
    ∃ v, (rone a.tmps r).run P w = .ok v w ∧ DRep g d v := by
  cases r <;> cases q <;> simp only [rvOk, Bool.false_eq_true, Bool.and_eq_true, beq_iff_eq] at hk
  · subst hk
    obtain ⟨v, h1, h2⟩ := hE.val _ _ h
    exact ⟨v, by simp [rone, h1], h2⟩
  · subst hk
    obtain ⟨v, h1, h2⟩ := hE.val _ _ h
    exact ⟨v, by simp [rone, h1], h2⟩
  · obtain ⟨rfl, hk⟩ := hk
    rename_i x ty n
    obtain ⟨td, h7, h8⟩ := shapeOk_sound hk
    have h8' : match n with | none => td.isRow = false | some n => td.isRow = true ∧ (P.info? ty).map (·.size) = some n := by
      cases n with
      | none => exact h8
      | some n => exact ⟨h8.1, h8.2.2⟩
    simp only [rget] at h
    split at h
    · rename_i x hx
      split at h
      · rename_i cs rd hat
        obtain ⟨v, h1, h2⟩ := hE.val _ _ hx
        obtain ⟨B, o, hv, _⟩ := at_sound hH h2 hat
        obtain ⟨u, h3, h4, _⟩ := load_sound (P := P) hH h2 hat h h7 (by cases n <;> exact h8')
        refine ⟨u, ?_, h4⟩
        subst hv
        simp only [Instr.loadAt, Instr.sureAddr, Sem.run_bind, Sem.run_pure, Result.andThen_ok] at h3
        simp only [rone, Array.getD_eq_getD_getElem?, h1, Option.getD_some, asAddr, Sem.run_bind, Sem.run_pure, Result.andThen_ok, h3]
      · simp at h
    · simp at h
theorem rgets_sound {s : St} {a : Act} {w : World} {g : Gh} (hH : SimH gl K w0 (hget s.h) (fun i => s.nx ≤ i) g w) (hE : SimE nt (eget s.e) (fun i => s.nx ≤ i) g a) : ∀ {rs : List ResultVar} {qs : List Rv}, rvsOk P rs qs = true → ∀ {ds : List DV}, rgets s qs = some ds →
    ∃ vs : List Value, (rs.mapM (rone a.tmps)).run P w = .ok vs w ∧ ds.length = vs.length ∧
      ∀ (j : Nat) (d : DV) (v : Value), ds[j]? = some d → vs[j]? = some v → DRep g d v
  | [], [], _, ds, h => by
    simp only [rgets, Option.some.injEq] at h; subst h
    exact ⟨[], by simp, rfl, by simp⟩
  | r :: rs, q :: qs, hk, ds, h => by
    simp only [rvsOk, Bool.and_eq_true] at hk
    simp only [rgets] at h
    split at h
    · rename_i d es h1 h2
      obtain rfl := Option.some.inj h
      obtain ⟨v, k1, k2⟩ := rget_sound hH hE hk.1 h1
      obtain ⟨vs, k3, k4, k5⟩ := rgets_sound hH hE hk.2 h2
      refine ⟨v :: vs, ?_, by simp [k4], fun j x u hx hu => ?_⟩
      · simp only [List.mapM_cons, Sem.run_bind, k1, Result.andThen_ok, k3, Sem.run_pure]
      · cases j with
        | zero => simp only [List.getElem?_cons_zero, Option.some.injEq] at hx hu; subst hx; subst hu; cases q <;> first | exact k2 | exact norm_sound k2
        | succ j => exact k5 j x u (by simpa using hx) (by simpa using hu)
    · simp at h
  | [], _ :: _, hk, _, _ => by simp [rvsOk] at hk
  | _ :: _, [], hk, _, _ => by simp [rvsOk] at hk
theorem retv_sound {s : St} {a : Act} {w : World} {g : Gh} (hH : SimH gl K w0 (hget s.h) (fun i => s.nx ≤ i) g w) (hE : SimE nt (eget s.e) (fun i => s.nx ≤ i) g a) {fn : Func} {qs : List Rv} (hk : rvsOk P fn.results.toList qs = true) {d : DV} (h : retv s qs = some d) :
    ∃ v, (results fn a.tmps).run P w = .ok v w ∧ DRep g d v := by
  unfold retv at h
  have key : ∀ ds, rgets s qs = some ds → ∃ vs : Array Value, (results fn a.tmps).run P w = .ok (if h : vs.size = 1 then vs[0] else .tuple vs) w ∧ ds.length = vs.size ∧ ∀ (j : Nat) (d : DV) (v : Value), ds[j]? = some d → vs[j]? = some v → DRep g d v := by
    intro ds hds
    obtain ⟨vs, h1, h2, h3⟩ := rgets_sound hH hE hk hds
    refine ⟨vs.toArray, ?_, by simp [h2], fun j d v hd hv => h3 j d v hd (by simpa using hv)⟩
    rw [results_eq, Sem.run_bind, Array.mapM_eq_mapM_toList, Sem.run_map, h1]
    simp only [Result.andThen_ok, Sem.run_pure]
  split at h
  · rename_i d' hds
    obtain rfl := Option.some.inj h
    obtain ⟨vs, h1, h2, h3⟩ := key _ hds
    have hs : vs.size = 1 := by simpa using h2.symm
    rw [dif_pos hs] at h1
    exact ⟨_, h1, h3 0 _ _ rfl (by simp [hs])⟩
  · rename_i ds hne hds
    obtain rfl := Option.some.inj h
    obtain ⟨vs, h1, h2, h3⟩ := key _ hds
    have hs : ¬ vs.size = 1 := by
      intro hs
      match ds, h2 with
      | [x], _ => exact hne x rfl
      | [], h2 => simp at h2; omega
      | _ :: _ :: _, h2 => simp at h2; omega
    rw [dif_neg hs] at h1
    exact ⟨_, h1, .tup h2 h3⟩
  · simp at h
end
def argEnv : Nat → List DV → Env
  | _, [] => []
  | k, d :: r => (k, d) :: argEnv (k + 1) r
theorem argEnv_get : ∀ (ds : List DV) (k i : Nat) (d : DV), eget (argEnv k ds) i = some d → k ≤ i ∧ ds[i - k]? = some d
  | [], _, _, _, h => by simp [argEnv, eget] at h
  | x :: r, k, i, d, h => by
    simp only [argEnv, eget] at h
    split at h
    · rename_i he; subst he; simpa using h
    · rename_i hne
      obtain ⟨h1, h2⟩ := argEnv_get r (k + 1) i d h
      refine ⟨by omega, ?_⟩
      have : i - k = i - (k + 1) + 1 := by omega
      rw [this]; simpa using h2
structure FnOk (P : Program) (f : FuncId) (nt : Nat) (t : C) (rs : List Rv) : Prop where
  enter : ∀ vs w, (callFunc f vs).run P w = .ok (.enter f vs) w
  text : ∃ fn c, P.funcs[f]? = some fn ∧ fn.body = some c ∧ fn.ntmps = nt ∧ chk P nt true c t = true ∧ rvsOk P fn.results.toList rs = true
def Done (rs : List Rv) (d : DV) (e : Ex) (s : St) : Prop := (match e with | .ext _ => False | _ => True) ∧ retv s rs = some d
def Done0 (e : Ex) : Prop := match e with | .ext _ => False | _ => True
theorem leavesM {P : Program} {gl : Glob} {K : Nat → Prop} {w0 : World} {hl : Nat → Option Ob} {fr : Nat → Prop} {g : Gh} {fn : Func} {tmps : Array Value} {R : Ending → World → Prop} (hR : ∀ w', SimH gl K w0 hl fr g w' → ∃ v, (results fn tmps).run P w' = .ok v w' ∧ R (.returned v) w') :
    ∀ (Ds : List Nat) (w : World), Ds.Nodup → (∀ D ∈ Ds, ¬ K D ∧ w.heap[D]? = some (.deferred (some [])) ∧ (∀ i o, hl i = some o → ¬ Owns g i D o) ∧ ∀ x, g.m D x = none) → SimH gl K w0 hl fr g w →
      LeavesInM Fence.wide 0 P fn tmps R (Ds.map markOf) .returning w
  | [], w, _, _, hH => by
    obtain ⟨v, h1, h2⟩ := hR w hH
    exact ⟨v, h1, h2⟩
  | D :: Ds, w, hn, hD, hH => by
    have h := hD D (.head _)
    rw [List.nodup_cons] at hn
    refine ⟨by simp, .inl ⟨D, _, rfl, run_takeDeferred h.2.1, leavesM hR Ds _ hn.2 (fun D' hD' => ?_) (hH.put _ h.2.2.1 h.2.2.2 h.1)⟩⟩
    have h' := hD D' (.tail _ hD')
    refine ⟨h'.1, ?_, h'.2.2⟩
    have hne : D' ≠ D := fun he => hn.1 (he ▸ hD')
    rw [World.putObj_heap_other hne]
    exact h'.2.1
theorem FnOk.body {P : Program} {gl : Glob} {f : FuncId} {nt : Nat} {t : C} {rs : List Rv} (hf : FnOk P f nt t rs) {n : Nat} {ds : List DV} {H : Heap} (hn : ds.length ≤ nt) (hds : ∀ x ∈ ds, x.nm fun i => i < n) {Q : Ex → St → Prop} (hQ : ∀ e s, Q e s → Done0 e)
    (h : (∀ x ∈ ds, x.wf) → vc P gl n t Q { e := argEnv 0 ds, h := H, nx := n }) {K : Nat → Prop} {w0 : World} {g : Gh} {w : World} {vs : Array Value} (hH : SimH gl K w0 (hget H) (fun i => n ≤ i) g w) (hl : ds.length = vs.size)
    (ha : ∀ (j : Nat) (d : DV) (v : Value), ds[j]? = some d → vs[j]? = some v → DRep g d v) {R : Ending → World → Prop}
    (hR : ∀ (e : Ex) (s : St) (g1 : Gh) (w1 : World) (tmps : Array Value) (fn : Func), Q e s → rvsOk P fn.results.toList rs = true → n ≤ s.nx → GLe K (fun i => i < n) g g1 → SimH gl K w0 (hget s.h) (fun i => s.nx ≤ i) g1 w1 →
      SimE ⟨nt, []⟩ (eget s.e) (fun i => s.nx ≤ i) g1 { tmps, defers := [] } → ∃ v, (results fn tmps).run P w1 = .ok v w1 ∧ R (.returned v) w1) : Calls P f vs w R := by
  obtain ⟨fn, c, h1, h2, h3, h4, h5⟩ := hf.text
  subst h3
  have hs : SimD gl K w0 n fn.ntmps g { e := argEnv 0 ds, h := H, nx := n } { tmps := vs ++ Array.replicate (fn.ntmps - vs.size) undef, defers := [] } w := by
    refine ⟨K, w0, [], fun _ h => h, .refl hH.old, .nil, by simp, g, GLe.refl _ _ _, Nat.le_refl _, hH, ⟨rfl, by simp; omega, fun i x hi => ?_, fun i x hi => ?_⟩⟩
    · obtain ⟨_, hi⟩ := argEnv_get _ _ _ _ hi
      simp only [Nat.sub_zero] at hi
      have hlt : i < vs.size := by rw [← hl]; exact (List.getElem?_eq_some_iff.1 hi).1
      exact ⟨vs[i], by simp [Array.getElem?_append, hlt], ha i x _ hi (by simp [hlt])⟩
    · obtain ⟨_, hi⟩ := argEnv_get _ _ _ _ hi
      exact DV.nm_mono (fun _ hf => by simp only; omega) x (hds x (List.mem_of_getElem? hi))
  have hw := vc_sound (nt := fn.ntmps) t c true none h4 (fun _ => rfl) K w0 n g Q _ _ w (h fun x hx => by
    obtain ⟨j, hj, rfl⟩ := List.getElem_of_mem hx
    exact (ha j _ _ (List.getElem?_eq_getElem hj) (Array.getElem?_eq_getElem (by omega))).wf) hs
  refine callsIn_wide.1 (callsIn_of_wp_marks (F := Fence.wide) (n := 0) h1 h2 trivial (wpIn_mono hw ?_))
  rintro e a' w' ⟨x, s, he, hq, K1, w1, Ds, k1, k2, k3, k4, g1, k5, k6, k7, k8⟩
  have hx := hQ x s hq
  have key : LeavesInM Fence.wide 0 P fn a'.tmps R a'.defers .returning w' := by
    rw [k8.defers]
    refine leavesM (gl := gl) (K := K) (w0 := w0) (hl := hget s.h) (fr := fun i => s.nx ≤ i) (g := g1) (fun w2 hw2 => hR x s g1 w2 a'.tmps fn hq h5 k6 ⟨k5.m, fun b hb => k5.fix b (k1 b hb), k5.μ, k5.τ⟩ hw2 ⟨rfl, k8.size, k8.val, k8.nm⟩) Ds w' k3 (fun D hD => ?_) (k7.unbase k2 k1)
    have h := k4 D hD
    have hd : w'.heap[D]? = some (.deferred (some [])) := (k7.kept D h.1).trans h.2.2
    exact ⟨h.2.1, hd, fun i o h1 h2 => k7.off i o D h1 h2 h.1, fun x => k7.noMem hd (by simp) x⟩
  rcases runEx he with ⟨rfl, rfl⟩ | ⟨i, rfl, rfl⟩ | ⟨rfl, rfl⟩
  · exact key
  · exact hx.elim
  · exact key
theorem FnOk.pcall {P : Program} {gl : Glob} {f : FuncId} {nt : Nat} {t : C} {rs : List Rv} (hf : FnOk P f nt t rs) {ds : List DV} {d : DV} (hn : ds.length ≤ nt) (hds : ∀ x ∈ ds, x.nm fun _ => False) (hd : d.nm fun _ => False)
    (h : (∀ x ∈ ds, x.wf) → vc P gl 0 t (Done rs d) { e := argEnv 0 ds, h := [], nx := 0 }) : PCall P gl f ds d where
  enter := hf.enter
  args := hds
  res := hd
  run := by
    intro K w0 g w vs hH hl ha
    have e1 : hget [] = (fun _ => none : Nat → Option Ob) := by funext i; rfl
    have e2 : (fun i => 0 ≤ i : Nat → Prop) = fun _ => True := by funext i; simp
    refine hf.body (n := 0) (H := []) hn (fun x hx => DV.nm_mono (fun _ h => h.elim) x (hds x hx)) (fun e s hq => hq.1) h (by rw [e1, e2]; exact hH) hl ha fun e s g1 w1 tmps fn hq h5 hnx hg hH1 hE1 => ?_
    obtain ⟨v, hv, hdv⟩ := retv_sound hH1 hE1 h5 hq.2
    let g' : Gh := { m := g1.m, μ := fun _ => none, τ := fun _ _ => none }
    have hg' : GLe K (fun _ => False) g1 g' := ⟨.refl _, fun _ _ _ => rfl, fun _ h => h.elim, fun _ h => h.elim⟩
    refine ⟨v, hv, v, g', rfl, hdv.mono hg' hd, ?_, ⟨hg.m, hg.fix, fun _ h => h.elim, fun _ h => h.elim⟩⟩
    exact { os := hH1.os, tape := hH1.tape, output := hH1.output, size := hH1.size, kept := hH1.kept, old := hH1.old, mem := hH1.mem, ids := fun _ _ h => by simp at h
            low := fun _ _ => ⟨rfl, fun _ => rfl⟩, obj := fun _ _ h => by simp at h, nm := fun _ _ h => by simp at h, inj := fun _ _ _ _ _ h => by simp at h, off := fun _ _ _ h => by simp at h, glo := hH1.glo }
def DoneH (rs : List Rv) (d : DV) (H' : Heap) (n' : Nat) (e : Ex) (s : St) : Prop := (match e with | .ext _ => False | _ => True) ∧ retv s rs = some d ∧ ∃ ob, kobs s.h ob = H' ∧ n' ≤ s.nx
theorem FnOk.acall {P : Program} {gl : Glob} {f : FuncId} {nt : Nat} {t : C} {rs : List Rv} (hf : FnOk P f nt t rs) {n n' : Nat} {ds : List DV} {d : DV} {H H' : Heap} (hn : ds.length ≤ nt) (hle : n ≤ n') (hds : ∀ x ∈ ds, x.nm fun i => i < n) (hob : heapNm n H)
    (hd : d.nm fun i => i < n') (hob' : heapNm n' H') (h : (∀ x ∈ ds, x.wf) → vc P gl n t (DoneH rs d H' n') { e := argEnv 0 ds, h := H, nx := n }) : ACall P gl (.func f) n ds H d H' n' where
  enter := fun fid h => by obtain rfl := Fn.func.inj h; exact hf.enter
  isFn := .inl ⟨f, rfl⟩
  le := hle
  args := hds
  obs := fun i o hi => heapNm_get hob hi
  res := hd
  obs' := fun i o hi => heapNm_get hob' hi
  run := by
    intro K w0 g w vs hH hl ha
    refine hf.body (n := n) (H := H) hn hds (fun e s hq => hq.1) h hH hl ha fun e s g1 w1 tmps fn hq h5 hnx hg hH1 hE1 => ?_
    obtain ⟨hx, hr, ob, rfl, hnx'⟩ := hq
    obtain ⟨v, hv, hdv⟩ := retv_sound hH1 hE1 h5 hr
    refine ⟨v, hv, v, cutG n' g1, rfl, hdv.mono (cutG_le K n' g1) hd, hH1.cut fun i o hi => ⟨kobs_get _ _ _ _ hi, heapNm_get hob' hi⟩, hg.trans ((cutG_le K n' g1).le fun i hi => by omega)⟩
end Go.Proofs.YthocoandbiaoiaaDoorV

namespace Go.Proofs.YthocoandbiaoiaaDoorV
open Go
theorem FnOk.mk' {P : Program} {f : FuncId} {nt : Nat} {t : C} {rs : List Rv} {fn : Func} {c : Code} (h1 : P.funcs[f]? = some fn) (h2 : fn.body = some c) (h3 : (fn.name == "runtime.NumGoroutine") = false) (h4 : fn.ntmps = nt)
    (h5 : chk P nt true c t = true) (h6 : rvsOk P fn.results.toList rs = true) : FnOk P f nt t rs where
  enter vs w := by
    have h3' : ¬ fn.name = "runtime.NumGoroutine" := by simpa using h3
    simp [callFunc, h1, h2, h3']
  text := ⟨fn, c, h1, h2, h4, h5, h6⟩
/-! ### Working a body out: one rule for each form, so that what comes later is not looked into before its state is known -/
section
variable {P : Program} {gl : Glob} {n0 : Nat}
def Gc (b : Bool) (c : Prop) : Prop := b = true → c
def Gd (b : Bool) : Prop := b = true
def gand (a b : Bool) : Bool := a && b
@[simp] theorem Gc_true {b : Bool} : Gc b True = True := by simp [Gc]
@[simp] theorem Gc_and {b : Bool} {c d : Prop} : Gc b (c ∧ d) = (Gc b c ∧ Gc b d) := by
  simp only [Gc, eq_iff_iff]; exact ⟨fun h => ⟨fun hb => (h hb).1, fun hb => (h hb).2⟩, fun h hb => ⟨h.1 hb, h.2 hb⟩⟩
def Gl (b : Bool) (c : Prop) : Prop := b = true → c
def Gu (c : Prop) : Prop := c
@[simp] theorem Gl_true {b : Bool} : Gl b True = True := by simp [Gl]
@[simp] theorem Gu_true : Gu True = True := by simp only [Gu]
@[simp] theorem Gu_and {c d : Prop} : Gu (c ∧ d) = (Gu c ∧ Gu d) := by simp only [Gu]
@[simp] theorem Gu_Gl {b : Bool} {c : Prop} : Gu (Gl b c) = Gc b c := by simp only [Gu, Gl, Gc]
@[simp low] theorem Gu_eq {c : Prop} : Gu c ↔ c := ⟨fun h => h, fun h => h⟩
@[simp] theorem Gc_Gl {a x : Bool} {c : Prop} : Gc a (Gl x c) = Gc (gand a x) c := by simp [Gc, Gl, gand]
@[simp] theorem Gc_self {b : Bool} : Gc b (Gd b) = True := by simp [Gc, Gd]
@[simp] theorem Gc_andl {a b x : Bool} (h : Gc a (Gd b)) : Gc (gand a x) (Gd b) = True := by
  simp only [Gc, gand, Bool.and_eq_true, Gd, eq_iff_iff, iff_true]; exact fun hb => h hb.1
@[simp low] theorem Gc_eq {b : Bool} {c : Prop} : Gc b c ↔ (b = true → c) := ⟨fun h => h, fun h => h⟩
@[simp] theorem gand_true {a b : Bool} : (gand a b = true) = (a = true ∧ b = true) := by simp [gand]
@[simp] theorem gand_false {a b : Bool} : (gand a b = false) = (a = true → b = false) := by cases a <;> simp [gand]
def gw (w b : Bool) : Bool := if w then b else !b
@[simp] theorem gw_true {b : Bool} : gw true b = b := rfl
@[simp] theorem gw_false {b : Bool} : gw false b = !b := rfl
def kseq (P : Program) (gl : Glob) (n0 : Nat) (y : C) (Q : Ex → St → Prop) : Ex → St → Prop := fun e s => match e with | .nrm => vc P gl n0 y Q s | e => Q e s
def kblk (id : Nat) (Q : Ex → St → Prop) : Ex → St → Prop := fun e s => match e with | .ext j => if j = id then Q .nrm s else Q (.ext j) s | e => Q e s
def kround (n0 : Nat) (k : Kp) {α : Type} (mk : α → St) (ms : α → Nat) (inv : α → Prop) (y : α) (Q : Ex → St → Prop) : Ex → St → Prop := fun e s => match e with | .nrm => k.ok n0 s ∧ ∃ z, inv z ∧ ms z < ms y ∧ k.st s = mk z | e => Q e s
def vcond (P : Program) (gl : Glob) (n0 : Nat) (x y : C) (Q : Ex → St → Prop) (s : St) : Option (DV × Prop) → Prop
  | some (.pv (.bool b), c) => c ∧ (b = true → vc P gl n0 x Q s) ∧ (b = false → vc P gl n0 y Q s)
  | _ => False
def Loop (P : Program) (gl : Glob) (n0 : Nat) (k : Kp) (x : C) (Q : Ex → St → Prop) (s : St) : Prop := vc P gl n0 (.loop k x) Q s
@[simp] theorem vc_skip {Q s} : vc P gl n0 .skip Q s = Q .nrm s := rfl
@[simp] theorem vc_reg {is Q s} : vc P gl n0 (.reg is) Q s = rvc P gl (Q .nrm) is s := rfl
@[simp] theorem vc_dreg {is pr Q s} : vc P gl n0 (.dreg is pr) Q s = dvc P gl s.nx pr (Q .nrm) is [] s := rfl
@[simp] theorem vc_seq {x y Q s} : vc P gl n0 (.seq x y) Q s = vc P gl n0 x (kseq P gl n0 y Q) s := rfl
@[simp] theorem vc_blk {id x Q s} : vc P gl n0 (.blk id x) Q s = vc P gl n0 x (kblk id Q) s := rfl
@[simp] theorem vc_ext {id Q s} : vc P gl n0 (.ext id) Q s = Q (.ext id) s := rfl
@[simp] theorem vc_ret {Q s} : vc P gl n0 .ret Q s = Q .ret s := rfl
@[simp] theorem vc_gh {k x Q s} : vc P gl n0 (.gh k x) Q s = gst n0 k (vc P gl n0 x Q) s := rfl
theorem vc_rf {k g ps x y Q s} : vc P gl n0 (.rf k g ps x y) Q s = (k.ok n0 s ∧ (match evFn gl s.e g with
    | some (.func gf, a, c, q) => q ∧ RfVC P gl k.nx (kslots s.e k.sl) (kobs s.h k.ob) ps (vc P gl k.nx x) (vc P gl k.nx y) gf a c Q
    | _ => False)) := by rw [vc]; rfl
@[simp] theorem vc_loop {k x Q s} : vc P gl n0 (.loop k x) Q s = Loop P gl n0 k x Q s := rfl
theorem vcond_eq {t x y Q s} : vc P gl n0 (.cond t x y) Q s = vcond P gl n0 x y Q s (evs gl s.e t) := rfl
@[simp] theorem vc_cond {t x y Q s} : vc P gl n0 (.cond t x y) Q s = vcond P gl n0 x y Q s (evs gl s.e t) := rfl
@[simp] theorem vcond_some {x y Q s b c} : vcond P gl n0 x y Q s (some (.pv (.bool b), c)) = (Gu c ∧ (b = true → vc P gl n0 x Q s) ∧ (b = false → vc P gl n0 y Q s)) := rfl
@[simp] theorem kseq_nrm {y Q s} : kseq P gl n0 y Q .nrm s = vc P gl n0 y Q s := rfl
@[simp] theorem kseq_ext {y Q i s} : kseq P gl n0 y Q (.ext i) s = Q (.ext i) s := rfl
@[simp] theorem kseq_ret {y Q s} : kseq P gl n0 y Q .ret s = Q .ret s := rfl
@[simp] theorem kblk_nrm {id Q s} : kblk id Q .nrm s = Q .nrm s := rfl
@[simp] theorem kblk_ext {id Q j s} : kblk id Q (.ext j) s = if j = id then Q .nrm s else Q (.ext j) s := rfl
@[simp] theorem kblk_ret {id Q s} : kblk id Q .ret s = Q .ret s := rfl
@[simp] theorem kround_nrm {k : Kp} {α : Type} {mk : α → St} {ms inv y Q s} : kround n0 k mk ms inv y Q .nrm s = (k.ok n0 s ∧ ∃ z, inv z ∧ ms z < ms y ∧ k.st s = mk z) := rfl
@[simp] theorem kround_ext {k : Kp} {α : Type} {mk : α → St} {ms inv y Q i s} : kround n0 k mk ms inv y Q (.ext i) s = Q (.ext i) s := rfl
@[simp] theorem kround_ret {k : Kp} {α : Type} {mk : α → St} {ms inv y Q s} : kround n0 k mk ms inv y Q .ret s = Q .ret s := rfl
theorem Loop.intro {α : Type} (mk : α → St) (ms : α → Nat) (inv : α → Prop) {k : Kp} {x : C} {Q : Ex → St → Prop} {s : St} (y : α) (h1 : k.ok n0 s) (h2 : inv y) (h3 : k.st s = mk y)
    (h : ∀ y, inv y → vc P gl n0 x (kround n0 k mk ms inv y Q) (mk y)) : Loop P gl n0 k x Q s := ⟨α, mk, ms, inv, ⟨h1, y, h2, h3⟩, h⟩
def kroundN (n0 : Nat) (k : Kp) (mk : Nat → St) (N : Nat) (inv : Nat → Prop) (i : Nat) (Q : Ex → St → Prop) : Ex → St → Prop := fun e s => match e with | .nrm => k.ok n0 s ∧ i < N ∧ inv (i + 1) ∧ k.st s = mk (i + 1) | e => Q e s
@[simp] theorem kroundN_nrm {k : Kp} {mk N inv i Q s} : kroundN n0 k mk N inv i Q .nrm s = (k.ok n0 s ∧ i < N ∧ inv (i + 1) ∧ k.st s = mk (i + 1)) := rfl
@[simp] theorem kroundN_ext {k : Kp} {mk N inv i Q j s} : kroundN n0 k mk N inv i Q (.ext j) s = Q (.ext j) s := rfl
@[simp] theorem kroundN_ret {k : Kp} {mk N inv i Q s} : kroundN n0 k mk N inv i Q .ret s = Q .ret s := rfl
theorem CallNext.mono {f : Fn} {ds : List DV} {s : St} {dst : Option Nat} {K K' : St → Prop} (hK : ∀ s, K s → K' s) (h : CallNext P gl f ds s dst K) : CallNext P gl f ds s dst K' := by
  rcases h with ⟨d, h1, h2⟩ | ⟨ρ, ds0, H, d, H', n', h1, h2, h3, h4, h5, h6⟩
  · exact .inl ⟨d, h1, fun hw => hK _ (h2 hw)⟩
  · exact .inr ⟨ρ, ds0, H, d, H', n', h1, h2, h3, h4, h5, fun hw => hK _ (h6 hw)⟩
theorem rvc_mono {K K' : St → Prop} (hK : ∀ s, K s → K' s) : ∀ (is : List Ins) (s : St), rvc P gl K is s → rvc P gl K' is s
  | [], s, h => hK s h
  | i :: r, s, h => by
    rw [rvc] at h ⊢
    cases hg : i.gd with
    | none =>
      simp only [hg] at h ⊢
      by_cases hc : i.op.isCall = true
      · simp only [hc, if_true] at h ⊢
        cases he : evCall gl s.e i.op with
        | none => simp [he] at h
        | some x =>
          obtain ⟨f, ds, c⟩ := x
          simp only [he] at h ⊢
          exact ⟨h.1, h.2.mono (rvc_mono hK r)⟩
      · simp only [hc] at h ⊢
        cases he : stp gl s.e (hget s.h) s.nx i.op with
        | none => simp [he] at h
        | some x => simp [he] at h ⊢; exact ⟨h.1, rvc_mono hK r _ h.2⟩
    | some g =>
      obtain ⟨t, w⟩ := g
      simp only [hg] at h ⊢
      cases hv : gval s.e t w with
      | none => simp [hv] at h
      | some b =>
        simp only [hv] at h ⊢
        by_cases hT : i.op.isT = true
        · simp only [hT, if_true] at h ⊢
          refine ⟨h.1, ?_⟩
          replace h := h.2
          cases he : evCall gl s.e i.op with
          | none => simp [he] at h
          | some x =>
            obtain ⟨f, ds, c⟩ := x
            simp only [he] at h ⊢
            exact ⟨h.1, h.2.mono (rvc_mono hK r)⟩
        rw [if_neg hT] at h ⊢
        by_cases hc : i.op.isCall = true
        · simp only [hc, if_true] at h ⊢
          cases he : evCall gl s.e i.op with
          | none => simp [he] at h
          | some x =>
            obtain ⟨f, ds, c⟩ := x
            simp only [he] at h ⊢
            obtain ⟨h1, d, h2, h3, h4⟩ := h
            exact ⟨h1, d, h2, h3, rvc_mono hK r _ h4⟩
        · rw [if_neg hc] at h ⊢
          cases he : sg b (stp gl s.e (hget s.h) s.nx i.op) with
          | none => simp [he] at h
          | some x => simp only [he] at h ⊢; exact ⟨h.1, rvc_mono hK r _ h.2⟩
theorem dvc_mono {n1 : Nat} {pr : List (List Nat)} {K K' : St → Prop} (hK : ∀ s, K s → K' s) : ∀ (is : List Ins) (acc : List (List Nat × List Nat)) (s : St), dvc P gl n1 pr K is acc s → dvc P gl n1 pr K' is acc s
  | [], acc, s, h => ⟨h.1, hK s h.2⟩
  | i :: r, acc, s, h => by
    rw [dvc] at h ⊢
    cases hg : i.gd with
    | none =>
      simp only [hg] at h ⊢
      by_cases hc : i.op.isCall = true
      · simp only [hc, if_true] at h ⊢
        cases he : evCall gl s.e i.op with
        | none => simp [he] at h
        | some x =>
          obtain ⟨f, ds, c⟩ := x
          simp only [he] at h ⊢
          refine ⟨h.1, ?_⟩
          rcases h.2 with ⟨d, h1, h2⟩ | ⟨ρ, ds0, H, d, H', n', h1, h2, h3, h4, h5, h6, h7, h8, h9⟩
          · exact .inl ⟨d, h1, dvc_mono hK r _ _ h2⟩
          · exact .inr ⟨ρ, ds0, H, d, H', n', h1, h2, h3, h4, h5, h6, h7, h8, dvc_mono hK r _ _ h9⟩
      · simp only [hc] at h ⊢
        cases he : stp gl s.e (hget s.h) s.nx i.op with
        | none => simp [he] at h
        | some x => simp [he] at h ⊢; exact ⟨h.1, h.2.1, dvc_mono hK r _ _ h.2.2⟩
    | some g =>
      obtain ⟨t, w⟩ := g
      simp only [hg] at h ⊢
      cases hv : gval s.e t w with
      | none => simp [hv] at h
      | some b =>
        simp only [hv] at h ⊢
        by_cases hc : i.op.isCall = true
        · simp only [hc, if_true] at h ⊢
          cases he : evCall gl s.e i.op with
          | none => simp [he] at h
          | some x =>
            obtain ⟨f, ds, c⟩ := x
            simp only [he] at h ⊢
            obtain ⟨h1, d, h2, h3, h4⟩ := h
            exact ⟨h1, d, h2, h3, dvc_mono hK r _ _ h4⟩
        · simp only [hc] at h ⊢
          cases he : sg b (stp gl s.e (hget s.h) s.nx i.op) with
          | none => simp [he] at h
          | some x => simp [he] at h ⊢; exact ⟨h.1, h.2.1, h.2.2.1, h.2.2.2.1, dvc_mono hK r _ _ h.2.2.2.2⟩
theorem gst_mono {k : Gst} {K K' : St → Prop} (hK : ∀ s, K s → K' s) {s : St} (h : gst n0 k K s) : gst n0 k K' s := by
  unfold gst at h ⊢
  repeat' split at h
  all_goals (first | exact h.elim | skip)
  all_goals (try simp_all)
  all_goals (first | (obtain ⟨xs, h1, h2, h3, h4, h5, h6⟩ := h; exact ⟨xs, h1, h2, h3, h4, h5, hK _ h6⟩) | skip)
theorem vc_mono : ∀ (c : C) {Q Q' : Ex → St → Prop} {s : St}, (∀ e s, Q e s → Q' e s) → vc P gl n0 c Q s → vc P gl n0 c Q' s
  | .skip, _, _, _, hQ, h => hQ _ _ h
  | .reg is, _, _, s, hQ, h => rvc_mono (hQ .nrm) is s h
  | .dreg is pr, _, _, s, hQ, h => dvc_mono (hQ .nrm) is [] s h
  | .seq x y, _, _, s, hQ, h => by
    rw [vc] at h ⊢
    exact vc_mono x (fun e s h => by cases e <;> first | exact vc_mono y hQ h | exact hQ _ _ h) h
  | .cond t x y, _, _, s, hQ, h => by
    rw [vc] at h ⊢
    split at h
    · exact ⟨h.1, fun hb => vc_mono x hQ (h.2.1 hb), fun hb => vc_mono y hQ (h.2.2 hb)⟩
    · exact h.elim
  | .blk id x, _, _, s, hQ, h => by
    rw [vc] at h ⊢
    refine vc_mono x (fun e s h => ?_) h
    cases e with
    | nrm => exact hQ _ _ h
    | ext j => simp only at h ⊢; split at h <;> simp_all
    | ret => exact hQ _ _ h
  | .loop k x, _, _, s, hQ, h => by
    rw [vc] at h ⊢
    obtain ⟨α, mk, ms, inv, h1, h2⟩ := h
    refine ⟨α, mk, ms, inv, h1, fun y hy => vc_mono x (fun e s h => ?_) (h2 y hy)⟩
    cases e with
    | nrm => exact h
    | ext j => exact hQ _ _ h
    | ret => exact hQ _ _ h
  | .ext id, _, _, _, hQ, h => hQ _ _ h
  | .ret, _, _, _, hQ, h => hQ _ _ h
  | .gh k x, _, _, s, hQ, h => by rw [vc] at h ⊢; exact gst_mono (fun s => vc_mono x hQ) h
  | .rf k g ps x y, _, _, s, hQ, h => by
    rw [vc] at h ⊢
    refine ⟨h.1, ?_⟩
    have h2 := h.2
    split at h2
    · refine ⟨h2.1, h2.2.1, ?_⟩
      obtain ⟨st, H1, n1, d, k1, k2, k3⟩ := h2.2.2
      refine ⟨st, H1, n1, d, k1, k2, ?_⟩
      split at k3
      · exact hQ _ _ k3
      · exact k3.elim
      · exact hQ _ _ k3
    · exact h2.elim
theorem Loop.nat (mk : Nat → St) (N : Nat) (inv : Nat → Prop) {k : Kp} {x : C} {Q : Ex → St → Prop} {s : St} (h1 : k.ok n0 s) (h2 : inv 0) (h3 : k.st s = mk 0)
    (h : ∀ i, i ≤ N → inv i → vc P gl n0 x (kroundN n0 k mk N inv i Q) (mk i)) : Loop P gl n0 k x Q s :=
  Loop.intro mk (fun i => N - i) (fun i => i ≤ N ∧ inv i) 0 h1 ⟨by omega, h2⟩ h3 fun i hi => vc_mono x (fun e s hq => by
    cases e with
    | nrm => exact ⟨hq.1, i + 1, ⟨hq.2.1, hq.2.2.1⟩, by have := hq.2.1; show N - (i + 1) < N - i; omega, hq.2.2.2⟩
    | ext j => exact hq
    | ret => exact hq) (h i hi.1 hi.2)
def gvd (w : Bool) : Option DV → Option Bool
  | some (.pv (.bool b)) => some (gw w b)
  | some (.gd c (.pv (.bool b))) => some (gand c (gw w b))
  | _ => none
theorem gval_eq {e : Env} {t : Nat} {w : Bool} : gval e t w = gvd w (eget e t) := by
  unfold gval gvd; split <;> rename_i h <;> simp [h] <;> first | (cases w <;> simp [gand]; done) | skip
theorem ok_gd {b : Bool} {d : DV} : DV.ok (.gd b d) = (Gd b ∧ d.ok) := rfl
theorem stp_mov {e : Env} {hl : Nat → Option Ob} {nid : Nat} {x} : stp gl e hl nid (.mov x) = ((evs gl e x).map fun d => { v := d.1, c := d.2 }) := rfl
theorem stp_un {e : Env} {hl : Nat → Option Ob} {nid : Nat} {op} {x} : stp gl e hl nid (.un op x) = (match evs gl e x with
    | some (d, c) => (un op d).map fun r => { v := r, c := c }
    | none => none) := rfl
theorem stp_bin {e : Env} {hl : Nat → Option Ob} {nid : Nat} {op} {x} {y} : stp gl e hl nid (.bin op x y) = (match evs gl e x, evs gl e y with
    | some (a, c), some (b, d) => (bin op a b).map fun r => { v := r.1, c := c ∧ d ∧ r.2 }
    | _, _ => none) := rfl
theorem stp_beq {e : Env} {hl : Nat → Option Ob} {nid : Nat} {neg} {x} {y} : stp gl e hl nid (.beq neg x y) = (match evs gl e x, evs gl e y with
    | some (.pv (.bool p), c), some (.pv (.bool q), d) => some { v := .pv (.bool ((p == q) != neg)), c := c ∧ d }
    | _, _ => none) := rfl
theorem stp_isnil {e : Env} {hl : Nat → Option Ob} {nid : Nat} {neg} {k} {x} : stp gl e hl nid (.isnil neg k x) = (match evs gl e x with
    | some (a, c) => (isNil k a).map fun r => { v := .pv (.bool (r.1 != neg)), c := c ∧ r.2 }
    | none => none) := rfl
theorem stp_conv {e : Env} {hl : Nat → Option Ob} {nid : Nat} {k} {x} : stp gl e hl nid (.conv k x) = (match evs gl e x with
    | some (.pv (.int _ n), c) => some { v := .pv (.int k (k.wrap n)), c := c }
    | _ => none) := rfl
theorem stp_idc {e : Env} {hl : Nat → Option Ob} {nid : Nat} {x} : stp gl e hl nid (.idc x) = (match evs gl e x with
    | some (.pv (.str s), c) => some { v := .pv (.str s), c := c }
    | _ => none) := rfl
theorem stp_b2s {e : Env} {hl : Nat → Option Ob} {nid : Nat} {x} : stp gl e hl nid (.b2s x) = (match evs gl e x with
    | some (d, c) => match elems d with
      | some (1, xs) => (bytesOf xs).map fun l => { v := .pv (.str ⟨l.toArray⟩), c := c }
      | _ => none
    | none => none) := rfl
theorem stp_alloc {e : Env} {hl : Nat → Option Ob} {nid : Nat} {z} : stp gl e hl nid (.alloc z) = (some { v := .ptr nid 0, up := [(nid, .box z)], al := 1 }) := rfl
theorem stp_box {e : Env} {hl : Nat → Option Ob} {nid : Nat} {n} {x} : stp gl e hl nid (.box n x) = (match evs gl e x with
    | some (d, c) => if (dcells d).length = n ∧ 0 < n then some { v := .ptr nid 0, up := [(nid, .box (dcells d))], al := 1, c := c } else none
    | none => none) := rfl
theorem stp_build {e : Env} {hl : Nat → Option Ob} {nid : Nat} {z} {ps} : stp gl e hl nid (.build z ps) = (match evAll gl e (ps.map (·.2)) with
    | some (ds, c) => (fillz z ((ps.map (·.1)).zip ds)).map fun cs => { v := mkAgg cs, c := c }
    | none => none) := rfl
theorem stp_lit {e : Env} {hl : Nat → Option Ob} {nid : Nat} {sz} {ps} : stp gl e hl nid (.lit sz ps) = (match evAll gl e ps with
    | some (ds, c) => match toPVall ds with
      | some xs => if xs.all (fun x => x.cells.length == sz) && decide (0 < sz) then some { v := .flit sz xs, c := c } else none
      | none => none
    | none => none) := rfl
theorem stp_litm {e : Env} {hl : Nat → Option Ob} {nid : Nat} {sz} {ps} : stp gl e hl nid (.litm sz ps) = (match evAll gl e ps with
    | some (ds, c) => if ds.all (fun x => (dcells x).length == sz) && decide (0 < sz) then some { v := .mrow nid 0 ds.length sz, up := [(nid, .box (ds.flatMap dcells))], al := 1, c := c } else none
    | none => none) := rfl
theorem stp_load {e : Env} {hl : Nat → Option Ob} {nid : Nat} {n} {x} : stp gl e hl nid (.load n x) = (match evs gl e x with
    | some (d, c) => match at_ hl d with
      | some (cs, rd) => (take_ n cs).map fun v => { v := v, rd := rd, c := c }
      | none => none
    | none => none) := rfl
theorem stp_store {e : Env} {hl : Nat → Option Ob} {nid : Nat} {n} {x} {y} : stp gl e hl nid (.store n x y) = (match evs gl e x, evs gl e y with
    | some (.ptr id off, c), some (d, c') => match hl id with
      | some (.box cs) => if off + n ≤ cs.length ∧ (dcells d).length = n ∧ 0 < n then some { v := .junk, up := [(id, .box (setFrom cs off (dcells d)))], rd := [id], c := c ∧ c' } else none
      | _ => none
    | _, _ => none) := rfl
theorem stp_nilc {e : Env} {hl : Nat → Option Ob} {nid : Nat} {x} : stp gl e hl nid (.nilc x) = (match evs gl e x with
    | some (.ptr id off, c) => some { v := .ptr id off, c := c }
    | some (.eptr cs, c) => some { v := .eptr cs, c := c }
    | _ => none) := rfl
theorem stp_fad {e : Env} {hl : Nat → Option Ob} {nid : Nat} {off} {x} : stp gl e hl nid (.fad off x) = (match evs gl e x with
    | some (.ptr id o, c) => some { v := .ptr id (o + off), c := c }
    | some (.eptr cs, c) => some { v := .eptr (cs.drop off), c := c }
    | _ => none) := rfl
theorem stp_fld {e : Env} {hl : Nat → Option Ob} {nid : Nat} {off} {n} {x} : stp gl e hl nid (.fld off n x) = (match evs gl e x with
    | some (d, c) => if d.isAg then (take_ n ((dcells d).drop off)).map fun v => { v := v, c := c } else none
    | none => none) := rfl
theorem stp_iad {e : Env} {hl : Nat → Option Ob} {nid : Nat} {sz} {x} {i} : stp gl e hl nid (.iad sz x i) = (match evs gl e x, evs gl e i with
    | some (d, c), some (.pv (.int _ i), c') => match d with
      | .mrow id off len sz' => if sz' = sz then some { v := .ptr id (off + i.toNat * sz), c := c ∧ c' ∧ 0 ≤ i ∧ i < (len : Int) } else none
      | d => match elems d with
        | some (sz', xs) => if sz' = sz then some { v := .eptr (nth xs i).cells, c := c ∧ c' ∧ 0 ≤ i ∧ i < (xs.length : Int) } else none
        | none => none
    | _, _ => none) := rfl
theorem stp_iada {e : Env} {hl : Nat → Option Ob} {nid : Nat} {len} {sz} {x} {i} : stp gl e hl nid (.iada len sz x i) = (match evs gl e x, evs gl e i with
    | some (.ptr id off, c), some (.pv (.int _ i), c') => some { v := .ptr id (off + i.toNat * sz), c := c ∧ c' ∧ 0 ≤ i ∧ i < (len : Int) }
    | some (.eptr cs, c), some (.pv (.int _ i), c') => some { v := .eptr (cs.drop (i.toNat * sz)), c := c ∧ c' ∧ 0 ≤ i ∧ i < (len : Int) }
    | _, _ => none) := rfl
theorem stp_ixs {e : Env} {hl : Nat → Option Ob} {nid : Nat} {x} {i} : stp gl e hl nid (.ixs x i) = (match evs gl e x, evs gl e i with
    | some (.pv (.str b), c), some (.pv (.int _ i), c') => some { v := .pv (.int .u8 (bt b i)), c := c ∧ c' ∧ 0 ≤ i ∧ i < (b.size : Int) }
    | _, _ => none) := rfl
theorem stp_mkf {e : Env} {hl : Nat → Option Ob} {nid : Nat} {f} {a} {k} : stp gl e hl nid (.mkf f a k) = (match evAll gl e a, evAll gl e k with
    | some (as, c), some (ks, c') => some { v := .fn f as ks, c := c ∧ c' }
    | _, _ => none) := rfl
theorem stp_mkm {e : Env} {hl : Nat → Option Ob} {nid : Nat} : stp gl e hl nid (.mkm) = (some { v := .mref nid, up := [(nid, .mp [])], al := 1 }) := rfl
theorem stp_mks {e : Env} {hl : Nat → Option Ob} {nid : Nat} {sz} {bytes} {z} {x} : stp gl e hl nid (.mks sz bytes z x) = (match evs gl e x with
    | some (.pv (.int _ n), c) => some { v := .mrow nid 0 n.toNat sz, up := [(nid, .box (List.replicate n.toNat z).flatten)], al := 1, c := c ∧ 0 ≤ n ∧ n * bytes ≤ 140737488351232 }
    | _ => none) := rfl
theorem stp_mkz {e : Env} {hl : Nat → Option Ob} {nid : Nat} {bytes} {z} {x} : stp gl e hl nid (.mkz bytes z x) = (match evs gl e x with
    | some (.pv (.int _ n), c) => some { v := .flit 1 (List.replicate n.toNat z), c := c ∧ 0 ≤ n ∧ n * bytes ≤ 140737488351232 }
    | _ => none) := rfl
theorem stp_mkc {e : Env} {hl : Nat → Option Ob} {nid : Nat} {sz} {bytes} {x} : stp gl e hl nid (.mkc sz bytes x) = (match evs gl e x with
    | some (.pv (.int _ n), c) => some { v := .own nid sz [], up := [(nid, .tip sz 0)], al := 1, c := c ∧ 0 ≤ n ∧ n * bytes ≤ 140737488355328 }
    | _ => none) := rfl
theorem stp_bad {e : Env} {hl : Nat → Option Ob} {nid : Nat} : stp gl e hl nid (.bad) = (some { v := .junk, c := False }) := rfl
theorem stp_ceq {e : Env} {hl : Nat → Option Ob} {nid : Nat} {neg} {kds} {x} {y} : stp gl e hl nid (.ceq neg kds x y) = (match evs gl e x, evs gl e y with
    | some (.pv (.agg p), c), some (.pv (.agg q), d) => (ceqs kds p q).map fun b => { v := .pv (.bool (b != neg)), c := c ∧ d }
    | _, _ => none) := rfl
theorem stp_cut {e : Env} {hl : Nat → Option Ob} {nid : Nat} {sz} {x} {lo} {hi} : stp gl e hl nid (.cut sz x lo hi) = (match evs gl e x with
    | some (d, c) => match elems d with
      | some (sz', xs) => match evLo gl e lo, evHi gl e xs.length hi with
        | some (l, cl), some (h, ch) => if sz' = sz then some { v := .pv (.lst sz ((xs.take h.toNat).drop l.toNat)), c := c ∧ cl ∧ ch ∧ 0 ≤ l ∧ l ≤ h ∧ h ≤ (xs.length : Int) } else none
        | _, _ => none
      | none => none
    | none => none) := rfl
theorem stp_cut3 {e : Env} {hl : Nat → Option Ob} {nid : Nat} {sz} {x} {lo} {hi} {mx} : stp gl e hl nid (.cut3 sz x lo hi mx) = (match evs gl e x with
    | some (d, c) => match elems d with
      | some (sz', xs) => match evInt gl e lo, evInt gl e hi, evInt gl e mx with
        | some (l, cl), some (h, ch), some (m, cm) => if sz' = sz then some { v := .pv (.lst sz ((xs.take h.toNat).drop l.toNat)), c := c ∧ cl ∧ ch ∧ cm ∧ 0 ≤ l ∧ l ≤ h ∧ h ≤ m ∧ m ≤ (xs.length : Int) } else none
        | _, _, _ => none
      | none => none
    | none => none) := rfl
theorem stp_cuts {e : Env} {hl : Nat → Option Ob} {nid : Nat} {x} {lo} {hi} : stp gl e hl nid (.cuts x lo hi) = (match evs gl e x with
    | some (.pv (.str b), c) => match evLo gl e lo, evHi gl e b.size hi with
      | some (l, cl), some (h, ch) => some { v := .pv (.str (b.extract l.toNat h.toNat)), c := c ∧ cl ∧ ch ∧ 0 ≤ l ∧ l ≤ h ∧ h ≤ (b.size : Int) }
      | _, _ => none
    | _ => none) := rfl
theorem stp_ext {e : Env} {hl : Nat → Option Ob} {nid : Nat} {x} {i} : stp gl e hl nid (.ext x i) = (match evs gl e x with
    | some (.tup vs, c) => vs[i]?.map fun d => { v := d, c := c }
    | _ => none) := rfl
theorem stp_lens {e : Env} {hl : Nat → Option Ob} {nid : Nat} {x} : stp gl e hl nid (.lens x) = (match evs gl e x with
    | some (.pv (.str b), c) => some { v := .pv (.int .i64 b.size), c := c }
    | _ => none) := rfl
theorem stp_len {e : Env} {hl : Nat → Option Ob} {nid : Nat} {x} : stp gl e hl nid (.len x) = (match evs gl e x with
    | some (.mrow _ _ n _, c) => some { v := .pv (.int .i64 n), c := c }
    | some (d, c) => (elems d).map fun x => { v := .pv (.int .i64 x.2.length), c := c }
    | none => none) := rfl
theorem stp_mx {e : Env} {hl : Nat → Option Ob} {nid : Nat} {x} {y} : stp gl e hl nid (.mx x y) = (match evs gl e x, evs gl e y with
    | some (.pv (.int k x), c), some (.pv (.int k' y), c') => if k = k' then some { v := .pv (.int k (max x y)), c := c ∧ c' } else none
    | _, _ => none) := rfl
theorem stp_mn {e : Env} {hl : Nat → Option Ob} {nid : Nat} {x} {y} : stp gl e hl nid (.mn x y) = (match evs gl e x, evs gl e y with
    | some (.pv (.int k x), c), some (.pv (.int k' y), c') => if k = k' then some { v := .pv (.int k (min x y)), c := c ∧ c' } else none
    | _, _ => none) := rfl
theorem stp_app {e : Env} {hl : Nat → Option Ob} {nid : Nat} {sz} {bytes} {x} {y} : stp gl e hl nid (.app sz bytes x y) = (match evs gl e x, evs gl e y with
    | some (d, c), some (b, c') => match elems b with
      | some (sz', ys) => match d with
        | .nilS _ => if sz' = sz then some { v := .own nid sz ys, up := [(nid, .tip sz ys.length)], al := 1, c := c ∧ c' ∧ ys.length * bytes ≤ 140737488355328 } else none
        | .flit sz'' xs => if sz' = sz ∧ sz'' = sz then some { v := .own nid sz (xs ++ ys), up := [(nid, .tip sz (xs.length + ys.length))], al := 1, c := c ∧ c' ∧ (xs.length + ys.length) * bytes ≤ 140737488355328 } else none
        | .own id sz'' xs => match hl id with
          | some (.tip sz3 n) => if sz' = sz ∧ sz'' = sz ∧ sz3 = sz then some { v := .own id sz (xs ++ ys), up := [(id, .tip sz (xs.length + ys.length))], rd := [id], c := c ∧ c' ∧ n = xs.length ∧ (xs.length + ys.length) * bytes ≤ 140737488355328 } else none
          | _ => none
        | _ => none
      | none => none
    | _, _ => none) := rfl
theorem stp_appm {e : Env} {hl : Nat → Option Ob} {nid : Nat} {sz} {bytes} {x} {y} : stp gl e hl nid (.appm sz bytes x y) = (match evs gl e x, evs gl e y with
    | some (d, c), some (b, c') => match elems b with
      | some (sz', ys) => match ownOf0 sz d with
        | true => if sz' = sz then some { v := .mrow nid 0 ys.length sz, up := [(nid, .box ((flat ys).map .pv))], al := 1, c := c ∧ c' ∧ ys ≠ [] ∧ ys.length * bytes ≤ 140737488355328 } else none
        | false => none
      | none => none
    | _, _ => none) := rfl
theorem stp_look {e : Env} {hl : Nat → Option Ob} {nid : Nat} {kd} {z} {x} {k} {ok} : stp gl e hl nid (.look kd z x k ok) = (match evs gl e x, evs gl e k with
    | some (.mref id, c), some (.pv k, c') => match hl id with
      | some (.mp es) => some { v := if ok then .tup [(mlook es k).getD z, .pv (.bool (mlook es k).isSome)] else (mlook es k).getD z, rd := [id], c := c ∧ c' ∧ keysOk kd k es }
      | _ => none
    | some (.nilM, c), some (.pv k, c') => some { v := if ok then .tup [z, .pv (.bool false)] else z, c := c ∧ c' ∧ keysOk kd k [] }
    | _, _ => none) := rfl
theorem stp_mup {e : Env} {hl : Nat → Option Ob} {nid : Nat} {kd} {x} {k} {v} : stp gl e hl nid (.mup kd x k v) = (match evs gl e x, evs gl e k, evs gl e v with
    | some (.mref id, c), some (.pv k, c'), some (d, c'') => match hl id with
      | some (.mp es) => some { v := .junk, up := [(id, .mp (mput es k d))], rd := [id], c := c ∧ c' ∧ c'' ∧ keysOk kd k es }
      | _ => none
    | _, _, _ => none) := rfl
theorem stp_ment {e : Env} {hl : Nat → Option Ob} {nid : Nat} {kd} {z} {x} {k} : stp gl e hl nid (.ment kd z x k) = (match evs gl e x, evs gl e k with
    | some (.mref id, c), some (.pv k, c') => match hl id with
      | some (.mp es) => match mfind k es 0 with
        | some (i, d) => some { v := .tup [d, .stmp id i], up := [(id, .mp (es.set i (k, d)))], rd := [id], c := c ∧ c' ∧ keysOk kd k es }
        | none => some { v := .tup [z, .stmp id es.length], up := [(id, .mp (es ++ [(k, z)]))], rd := [id], c := c ∧ c' ∧ keysOk kd k es }
      | _ => none
    | _, _ => none) := rfl
theorem stp_mest {e : Env} {hl : Nat → Option Ob} {nid : Nat} {x} {s} {v} : stp gl e hl nid (.mest x s v) = (match evs gl e x, evs gl e s, evs gl e v with
    | some (.mref id, c), some (.stmp id' i, c'), some (d, c'') => match hl id with
      | some (.mp es) => match es[i]? with
        | some y => if id' = id then some { v := .junk, up := [(id, .mp (es.set i (y.1, d)))], rd := [id], c := c ∧ c' ∧ c'' } else none
        | none => none
      | _ => none
    | _, _, _ => none) := rfl
theorem stp_mlen {e : Env} {hl : Nat → Option Ob} {nid : Nat} {x} : stp gl e hl nid (.mlen x) = (match evs gl e x with
    | some (.mref id, c) => match hl id with
      | some (.mp es) => some { v := .pv (.int .i64 es.length), rd := [id], c := c ∧ es.length ≤ maxLen }
      | _ => none
    | some (.nilM, c) => some { v := .pv (.int .i64 0), c := c }
    | _ => none) := rfl
theorem stp_land {e : Env} {hl : Nat → Option Ob} {n : Nat} {x y : O} : stp gl e hl n (.land x y) = match evs gl e x, evs gl e y with
    | some (.pv (.bool p), c), some (.pv (.bool q), d) => some { v := .pv (.bool (p && q)), c := c ∧ Gl p d }
    | _, _ => none := rfl
theorem stp_lor {e : Env} {hl : Nat → Option Ob} {n : Nat} {x y : O} : stp gl e hl n (.lor x y) = match evs gl e x, evs gl e y with
    | some (.pv (.bool p), c), some (.pv (.bool q), d) => some { v := .pv (.bool (p || q)), c := c ∧ Gl (!p) d }
    | _, _ => none := by
  have h : ∀ (p : Bool) (d : Prop), (p = false → d) = Gl (!p) d := by simp [Gl]
  simp only [stp, h]; rfl
theorem stp_pick {e : Env} {hl : Nat → Option Ob} {n : Nat} {c x y : O} : stp gl e hl n (.pick c x y) = match evs gl e c, evs gl e x, evs gl e y with
    | some (.pv (.bool b), c), some (.pv (.bool p), cp), some (.pv (.bool q), cq) => some { v := .pv (.bool (if b then p else q)), c := c ∧ Gl b cp ∧ Gl (!b) cq }
    | _, _, _ => none := by
  have h : ∀ (p : Bool) (d : Prop), (p = false → d) = Gl (!p) d := by simp [Gl]
  have h' : ∀ (p : Bool) (d : Prop), (p = true → d) = Gl p d := by simp [Gl]
  simp only [stp, h, h']; rfl
def rnext (P : Program) (gl : Glob) (K : St → Prop) (r : List Ins) (s : St) (dst : Option Nat) : Option Stp → Prop
  | some t => t.c ∧ rvc P gl K r (s.step t dst)
  | none => False
def rgnext (P : Program) (gl : Glob) (K : St → Prop) (r : List Ins) (s : St) (dst : Option Nat) : Option Bool → Option Stp → Prop
  | some b, some t => gok b t s.nx ∧ rvc P gl K r (gnx s b t dst)
  | some false, none => rvc P gl K r (s.put dst (.gd false (.pv (.bool false))))
  | _, _ => False
def rcall (P : Program) (gl : Glob) (K : St → Prop) (r : List Ins) (s : St) (dst : Option Nat) : Option (Fn × List DV × Prop) → Prop
  | some (f, ds, c) => c ∧ CallNext P gl f ds s dst (rvc P gl K r)
  | none => False
def rgcall (P : Program) (gl : Glob) (K : St → Prop) (r : List Ins) (s : St) (dst : Option Nat) : Option Bool → Option (Fn × List DV × Prop) → Prop
  | some b, some (f, ds, c) => (b = true → c) ∧ ∃ d, (b = true → PCallF P gl f ds d) ∧ d.bel 0 = true ∧ rvc P gl K r (s.put dst (.gd b d))
  | _, _ => False
@[simp] theorem rvc_nil {K s} : rvc P gl K [] s = K s := rfl
theorem rvc_step {K d op r s} (h : op.isCall = false) : rvc P gl K (⟨d, none, op⟩ :: r) s = rnext P gl K r s d (stp gl s.e (hget s.h) s.nx op) := by
  rw [rvc]; simp only [h]; cases stp gl s.e (hget s.h) s.nx op <;> simp [rnext]
theorem rvc_call {K d op r s} (h : op.isCall = true) : rvc P gl K (⟨d, none, op⟩ :: r) s = rcall P gl K r s d (evCall gl s.e op) := by
  rw [rvc]; simp only [h]; cases evCall gl s.e op <;> simp [rcall]
theorem rvc_gstep {K d t w op r s} (h : op.isCall = false) : rvc P gl K (⟨d, some (t, w), op⟩ :: r) s = rgnext P gl K r s d (gval s.e t w) (stp gl s.e (hget s.h) s.nx op) := by
  rw [rvc]; simp only [h, IOp.isT_not h]; rcases gval s.e t w with _ | _ | _ <;> cases stp gl s.e (hget s.h) s.nx op <;> simp [rgnext, sg, DV.bel, gok, gnx]
theorem rvc_gcall {K d t w op r s} (h : op.isCall = true) (hT : op.isT = false) : rvc P gl K (⟨d, some (t, w), op⟩ :: r) s = rgcall P gl K r s d (gval s.e t w) (evCall gl s.e op) := by
  rw [rvc]; simp only [h, hT]; cases gval s.e t w <;> cases evCall gl s.e op <;> simp [rgcall]
def rtcall (P : Program) (gl : Glob) (K : St → Prop) (r : List Ins) (s : St) (dst : Option Nat) : Option Bool → Option (Fn × List DV × Prop) → Prop
  | some b, some (f, ds, c) => b = true ∧ c ∧ CallNext P gl f ds s dst (rvc P gl K r)
  | _, _ => False
theorem rvc_tcall {K d t w op r s} (hT : op.isT = true) : rvc P gl K (⟨d, some (t, w), op⟩ :: r) s = rtcall P gl K r s d (gval s.e t w) (evCall gl s.e op) := by
  rw [rvc]; simp only [hT]; cases gval s.e t w <;> cases evCall gl s.e op <;> simp [rtcall]
@[simp] theorem rtcall_some {K r d b f ds c} {s : St} : rtcall P gl K r s d (some b) (some (f, ds, c)) = (b = true ∧ Gu c ∧ CallNext P gl f ds s d (rvc P gl K r)) := rfl
@[simp] theorem rnext_some {K r d v up rd al c} {s : St} : rnext P gl K r s d (some ⟨v, up, rd, al, c⟩) = (Gu c ∧ rvc P gl K r ⟨eput s.e d v, upd s.h up, s.nx + al⟩) := by
  simp only [rnext, St.step, eput_eq]; rfl
@[simp] theorem rgnext_some {K r d b v rd c} {s : St} : rgnext P gl K r s d (some b) (some ⟨v, [], rd, 0, c⟩) = (v.bel s.nx = true ∧ Gc b c ∧ rvc P gl K r ⟨eput s.e d (.gd b v), s.h, s.nx⟩) := by
  have h : rgnext P gl K r s d (some b) (some ⟨v, [], rd, 0, c⟩) = ((v.bel s.nx = true ∧ (b = true → c)) ∧ rvc P gl K r (s.put d (.gd b v))) := rfl
  rw [h, and_assoc]
  cases d <;> rfl
@[simp] theorem rgnext_up {K r d b v x up rd al c} {s : St} : rgnext P gl K r s d (some b) (some ⟨v, x :: up, rd, al, c⟩) = (b = true ∧ Gu c ∧ rvc P gl K r ⟨eput s.e d v, upd s.h (x :: up), s.nx + al⟩) := by
  have h : rgnext P gl K r s d (some b) (some ⟨v, x :: up, rd, al, c⟩) = ((b = true ∧ c) ∧ rvc P gl K r (s.step ⟨v, x :: up, rd, al, c⟩ d)) := by
    rw [rgnext, gok, gnx, if_neg (fun h => by simp at h), if_neg (fun h => by simp at h)]
  rw [h, and_assoc]
  simp only [St.step, eput_eq]; rfl
@[simp] theorem rcall_some {K r d f ds c} {s : St} : rcall P gl K r s d (some (f, ds, c)) = (Gu c ∧ CallNext P gl f ds s d (rvc P gl K r)) := rfl
theorem CallNext.pure {f : FuncId} {ds : List DV} {s : St} {dst : Option Nat} {K : St → Prop} {d : DV} (h : PCall P gl f ds d) (hk : d.wf → K ⟨eput s.e dst d, s.h, s.nx⟩) : CallNext P gl (.func f) ds s dst K :=
  .inl ⟨d, ⟨f, rfl, h⟩, fun hw => by cases dst <;> exact hk hw⟩
theorem CallNext.obs {f : Fn} {ds : List DV} {s : St} {dst : Option Nat} {K : St → Prop} (ρ : List Nat) {ds0 : List DV} {H H' : Heap} {d : DV} {n' : Nat} (h : ACall P gl f ρ.length ds0 H d H' n') (hnd : ρ.Nodup) (hlt : ∀ i ∈ ρ, i < s.nx)
    (hds : ds0.map (·.ren (rh ρ s.nx)) = ds) (hs : sameH ρ s.nx s.h H) (hk : (d.ren (rh ρ s.nx)).wf → K ⟨eput s.e dst (d.ren (rh ρ s.nx)), renH ρ s.nx H' ++ dropH ρ s.h, s.nx + (n' - ρ.length)⟩) : CallNext P gl f ds s dst K :=
  .inr ⟨ρ, ds0, H, d, H', n', h, hnd, hlt, hds, hs, fun hw => by cases dst <;> exact hk hw⟩
theorem PCallF.of {f : FuncId} {ds : List DV} {d : DV} (h : PCall P gl f ds d) : PCallF P gl (.func f) ds d := ⟨f, rfl, h⟩
@[simp] theorem rgnext_none {K r d} {s : St} : rgnext P gl K r s d (some false) none = rvc P gl K r ⟨eput s.e d (.gd false (.pv (.bool false))), s.h, s.nx⟩ := by
  simp only [rgnext]; cases d <;> rfl
@[simp] theorem rgcall_some {K r d b f ds c} {s : St} : rgcall P gl K r s d (some b) (some (f, ds, c)) = (Gc b c ∧ ∃ v, (b = true → PCallF P gl f ds v) ∧ v.bel 0 = true ∧ rvc P gl K r ⟨eput s.e d (.gd b v), s.h, s.nx⟩) := by
  simp only [rgcall]; cases d <;> rfl
abbrev Rl := List (List Nat × List Nat)
def dnext (P : Program) (gl : Glob) (n1 : Nat) (pr : List (List Nat)) (K : St → Prop) (r : List Ins) (acc : Rl) (s : St) (dst : Option Nat) : Option Stp → Prop
  | some t => t.c ∧ t.al ≤ 1 ∧ dvc P gl n1 pr K r ((keys t.up, t.rd) :: acc) { e := eput s.e dst t.v, h := upd s.h t.up, nx := s.nx + 1 }
  | none => False
def dgnext (P : Program) (gl : Glob) (n1 : Nat) (pr : List (List Nat)) (K : St → Prop) (r : List Ins) (acc : Rl) (s : St) (dst : Option Nat) : Option Bool → Option Stp → Prop
  | some b, some t => t.up.isEmpty = true ∧ t.al = 0 ∧ t.v.bel n1 = true ∧ (b = true → t.c) ∧ dvc P gl n1 pr K r (([], t.rd) :: acc) { e := eput s.e dst (.gd b t.v), h := s.h, nx := s.nx + 1 }
  | some false, none => dvc P gl n1 pr K r (([], []) :: acc) { e := eput s.e dst (.gd false (.pv (.bool false))), h := s.h, nx := s.nx + 1 }
  | _, _ => False
def DCallNext (P : Program) (gl : Glob) (n1 : Nat) (pr : List (List Nat)) (K : St → Prop) (r : List Ins) (acc : Rl) (s : St) (dst : Option Nat) (f : Fn) (ds : List DV) : Prop :=
  (∃ d, PCallF P gl f ds d ∧ dvc P gl n1 pr K r (([], []) :: acc) { e := eput s.e dst d, h := s.h, nx := s.nx + 1 }) ∨
  ∃ (ρ : List Nat) (ds0 : List DV) (H : Heap) (d : DV) (H' : Heap) (n' : Nat), ACall P gl f ρ.length ds0 H d H' n' ∧ (∃ fid, f = .func fid) ∧ ρ.Nodup ∧ n' ≤ ρ.length + 1 ∧ ds0.map (·.ren (rh ρ s.nx)) = ds ∧ (∀ i, i < ρ.length → (hget H i).isSome = true ∧ (hget H' i).isSome = true) ∧ (H'.map (·.1)).Nodup ∧ sameH ρ s.nx s.h H ∧
    dvc P gl n1 pr K r ((H'.map fun x => rh ρ s.nx x.1, ρ) :: acc) { e := eput s.e dst (d.ren (rh ρ s.nx)), h := upd s.h (renH ρ s.nx H'), nx := s.nx + 1 }
theorem DCallNext.pure {n1 : Nat} {pr : List (List Nat)} {K : St → Prop} {r : List Ins} {acc : Rl} {s : St} {dst : Option Nat} {f : FuncId} {ds : List DV} {d : DV} (h : PCall P gl f ds d) (hk : dvc P gl n1 pr K r (([], []) :: acc) ⟨eput s.e dst d, s.h, s.nx + 1⟩) : DCallNext P gl n1 pr K r acc s dst (.func f) ds :=
  .inl ⟨d, ⟨f, rfl, h⟩, hk⟩
theorem DCallNext.obs {n1 : Nat} {pr : List (List Nat)} {K : St → Prop} {r : List Ins} {acc : Rl} {s : St} {dst : Option Nat} {f : FuncId} {ds : List DV} (ρ : List Nat) {ds0 : List DV} {H H' : Heap} {d : DV} {n' : Nat} (h : ACall P gl (.func f) ρ.length ds0 H d H' n') (hnd : ρ.Nodup) (hn : n' ≤ ρ.length + 1)
    (hds : ds0.map (·.ren (rh ρ s.nx)) = ds) (hdom : ∀ i, i < ρ.length → (hget H i).isSome = true ∧ (hget H' i).isSome = true) (hnd' : (H'.map (·.1)).Nodup) (hs : sameH ρ s.nx s.h H)
    (hk : dvc P gl n1 pr K r ((H'.map fun x => rh ρ s.nx x.1, ρ) :: acc) ⟨eput s.e dst (d.ren (rh ρ s.nx)), upd s.h (renH ρ s.nx H'), s.nx + 1⟩) : DCallNext P gl n1 pr K r acc s dst (.func f) ds :=
  .inr ⟨ρ, ds0, H, d, H', n', h, ⟨f, rfl⟩, hnd, hn, hds, hdom, hnd', hs, hk⟩
def dcall (P : Program) (gl : Glob) (n1 : Nat) (pr : List (List Nat)) (K : St → Prop) (r : List Ins) (acc : Rl) (s : St) (dst : Option Nat) : Option (Fn × List DV × Prop) → Prop
  | some (f, ds, c) => c ∧ DCallNext P gl n1 pr K r acc s dst f ds
  | none => False
def dgcall (P : Program) (gl : Glob) (n1 : Nat) (pr : List (List Nat)) (K : St → Prop) (r : List Ins) (acc : Rl) (s : St) (dst : Option Nat) : Option Bool → Option (Fn × List DV × Prop) → Prop
  | some b, some (f, ds, c) => (b = true → c) ∧ ∃ d, (b = true → PCallF P gl f ds d) ∧ d.bel 0 = true ∧ dvc P gl n1 pr K r (([], []) :: acc) { e := eput s.e dst (.gd b d), h := s.h, nx := s.nx + 1 }
  | _, _ => False
variable {n1 : Nat} {pr : List (List Nat)} {acc : Rl}
@[simp] theorem dvc_nil {K s} : dvc P gl n1 pr K [] acc s = (clash pr acc.reverse = false ∧ K s) := rfl
theorem dvc_step {K d op r s} (h : op.isCall = false) : dvc P gl n1 pr K (⟨d, none, op⟩ :: r) acc s = dnext P gl n1 pr K r acc s d (stp gl s.e (hget s.h) s.nx op) := by
  rw [dvc]; simp only [h]; cases stp gl s.e (hget s.h) s.nx op <;> simp [dnext]
theorem dvc_call {K d op r s} (h : op.isCall = true) : dvc P gl n1 pr K (⟨d, none, op⟩ :: r) acc s = dcall P gl n1 pr K r acc s d (evCall gl s.e op) := by
  rw [dvc]; simp only [h]; cases evCall gl s.e op <;> simp [dcall, DCallNext]
theorem dvc_gstep {K d t w op r s} (h : op.isCall = false) : dvc P gl n1 pr K (⟨d, some (t, w), op⟩ :: r) acc s = dgnext P gl n1 pr K r acc s d (gval s.e t w) (stp gl s.e (hget s.h) s.nx op) := by
  rw [dvc]; simp only [h]; rcases gval s.e t w with _ | _ | _ <;> cases stp gl s.e (hget s.h) s.nx op <;> simp [dgnext, sg, DV.bel]
theorem dvc_gcall {K d t w op r s} (h : op.isCall = true) : dvc P gl n1 pr K (⟨d, some (t, w), op⟩ :: r) acc s = dgcall P gl n1 pr K r acc s d (gval s.e t w) (evCall gl s.e op) := by
  rw [dvc]; simp only [h]; cases gval s.e t w <;> cases evCall gl s.e op <;> simp [dgcall]
@[simp] theorem dnext_some {K r d v up rd al c} {s : St} : dnext P gl n1 pr K r acc s d (some ⟨v, up, rd, al, c⟩) = (Gu c ∧ al ≤ 1 ∧ dvc P gl n1 pr K r ((keys up, rd) :: acc) ⟨eput s.e d v, upd s.h up, s.nx + 1⟩) := rfl
@[simp] theorem dgnext_none {K r d} {s : St} : dgnext P gl n1 pr K r acc s d (some false) none = dvc P gl n1 pr K r (([], []) :: acc) ⟨eput s.e d (.gd false (.pv (.bool false))), s.h, s.nx + 1⟩ := rfl
@[simp] theorem dgnext_some {K r d b v up rd al c} {s : St} : dgnext P gl n1 pr K r acc s d (some b) (some ⟨v, up, rd, al, c⟩) = (up.isEmpty = true ∧ al = 0 ∧ v.bel n1 = true ∧ Gc b c ∧ dvc P gl n1 pr K r (([], rd) :: acc) ⟨eput s.e d (.gd b v), s.h, s.nx + 1⟩) := rfl
@[simp] theorem dcall_some {K r d f ds c} {s : St} : dcall P gl n1 pr K r acc s d (some (f, ds, c)) = (Gu c ∧ DCallNext P gl n1 pr K r acc s d f ds) := rfl
@[simp] theorem dgcall_some {K r d b f ds c} {s : St} : dgcall P gl n1 pr K r acc s d (some b) (some (f, ds, c)) = (Gc b c ∧ ∃ v, (b = true → PCallF P gl f ds v) ∧ v.bel 0 = true ∧ dvc P gl n1 pr K r (([], []) :: acc) ⟨eput s.e d (.gd b v), s.h, s.nx + 1⟩) := rfl
end
section
variable {P : Program} {gl : Glob} {n1 : Nat} {pr : List (List Nat)} {acc : Rl} {K : St → Prop} {d : Option Nat} {t : Nat} {w : Bool} {r : List Ins} {s : St}
@[simp] theorem r_mov {x0} : rvc P gl K (⟨d, none, (.mov x0)⟩ :: r) s = rnext P gl K r s d (stp gl s.e (hget s.h) s.nx (.mov x0)) := rvc_step rfl
@[simp] theorem rg_mov {x0} : rvc P gl K (⟨d, some (t, w), (.mov x0)⟩ :: r) s = rgnext P gl K r s d (gval s.e t w) (stp gl s.e (hget s.h) s.nx (.mov x0)) := rvc_gstep rfl
@[simp] theorem d_mov {x0} : dvc P gl n1 pr K (⟨d, none, (.mov x0)⟩ :: r) acc s = dnext P gl n1 pr K r acc s d (stp gl s.e (hget s.h) s.nx (.mov x0)) := dvc_step rfl
@[simp] theorem dg_mov {x0} : dvc P gl n1 pr K (⟨d, some (t, w), (.mov x0)⟩ :: r) acc s = dgnext P gl n1 pr K r acc s d (gval s.e t w) (stp gl s.e (hget s.h) s.nx (.mov x0)) := dvc_gstep rfl
@[simp] theorem r_land {x0 x1} : rvc P gl K (⟨d, none, (.land x0 x1)⟩ :: r) s = rnext P gl K r s d (stp gl s.e (hget s.h) s.nx (.land x0 x1)) := rvc_step rfl
@[simp] theorem rg_land {x0 x1} : rvc P gl K (⟨d, some (t, w), (.land x0 x1)⟩ :: r) s = rgnext P gl K r s d (gval s.e t w) (stp gl s.e (hget s.h) s.nx (.land x0 x1)) := rvc_gstep rfl
@[simp] theorem d_land {x0 x1} : dvc P gl n1 pr K (⟨d, none, (.land x0 x1)⟩ :: r) acc s = dnext P gl n1 pr K r acc s d (stp gl s.e (hget s.h) s.nx (.land x0 x1)) := dvc_step rfl
@[simp] theorem dg_land {x0 x1} : dvc P gl n1 pr K (⟨d, some (t, w), (.land x0 x1)⟩ :: r) acc s = dgnext P gl n1 pr K r acc s d (gval s.e t w) (stp gl s.e (hget s.h) s.nx (.land x0 x1)) := dvc_gstep rfl
@[simp] theorem r_lor {x0 x1} : rvc P gl K (⟨d, none, (.lor x0 x1)⟩ :: r) s = rnext P gl K r s d (stp gl s.e (hget s.h) s.nx (.lor x0 x1)) := rvc_step rfl
@[simp] theorem rg_lor {x0 x1} : rvc P gl K (⟨d, some (t, w), (.lor x0 x1)⟩ :: r) s = rgnext P gl K r s d (gval s.e t w) (stp gl s.e (hget s.h) s.nx (.lor x0 x1)) := rvc_gstep rfl
@[simp] theorem d_lor {x0 x1} : dvc P gl n1 pr K (⟨d, none, (.lor x0 x1)⟩ :: r) acc s = dnext P gl n1 pr K r acc s d (stp gl s.e (hget s.h) s.nx (.lor x0 x1)) := dvc_step rfl
@[simp] theorem dg_lor {x0 x1} : dvc P gl n1 pr K (⟨d, some (t, w), (.lor x0 x1)⟩ :: r) acc s = dgnext P gl n1 pr K r acc s d (gval s.e t w) (stp gl s.e (hget s.h) s.nx (.lor x0 x1)) := dvc_gstep rfl
@[simp] theorem r_pick {x0 x1 x2} : rvc P gl K (⟨d, none, (.pick x0 x1 x2)⟩ :: r) s = rnext P gl K r s d (stp gl s.e (hget s.h) s.nx (.pick x0 x1 x2)) := rvc_step rfl
@[simp] theorem rg_pick {x0 x1 x2} : rvc P gl K (⟨d, some (t, w), (.pick x0 x1 x2)⟩ :: r) s = rgnext P gl K r s d (gval s.e t w) (stp gl s.e (hget s.h) s.nx (.pick x0 x1 x2)) := rvc_gstep rfl
@[simp] theorem d_pick {x0 x1 x2} : dvc P gl n1 pr K (⟨d, none, (.pick x0 x1 x2)⟩ :: r) acc s = dnext P gl n1 pr K r acc s d (stp gl s.e (hget s.h) s.nx (.pick x0 x1 x2)) := dvc_step rfl
@[simp] theorem dg_pick {x0 x1 x2} : dvc P gl n1 pr K (⟨d, some (t, w), (.pick x0 x1 x2)⟩ :: r) acc s = dgnext P gl n1 pr K r acc s d (gval s.e t w) (stp gl s.e (hget s.h) s.nx (.pick x0 x1 x2)) := dvc_gstep rfl
@[simp] theorem r_un {x0 x1} : rvc P gl K (⟨d, none, (.un x0 x1)⟩ :: r) s = rnext P gl K r s d (stp gl s.e (hget s.h) s.nx (.un x0 x1)) := rvc_step rfl
@[simp] theorem rg_un {x0 x1} : rvc P gl K (⟨d, some (t, w), (.un x0 x1)⟩ :: r) s = rgnext P gl K r s d (gval s.e t w) (stp gl s.e (hget s.h) s.nx (.un x0 x1)) := rvc_gstep rfl
@[simp] theorem d_un {x0 x1} : dvc P gl n1 pr K (⟨d, none, (.un x0 x1)⟩ :: r) acc s = dnext P gl n1 pr K r acc s d (stp gl s.e (hget s.h) s.nx (.un x0 x1)) := dvc_step rfl
@[simp] theorem dg_un {x0 x1} : dvc P gl n1 pr K (⟨d, some (t, w), (.un x0 x1)⟩ :: r) acc s = dgnext P gl n1 pr K r acc s d (gval s.e t w) (stp gl s.e (hget s.h) s.nx (.un x0 x1)) := dvc_gstep rfl
@[simp] theorem r_bin {x0 x1 x2} : rvc P gl K (⟨d, none, (.bin x0 x1 x2)⟩ :: r) s = rnext P gl K r s d (stp gl s.e (hget s.h) s.nx (.bin x0 x1 x2)) := rvc_step rfl
@[simp] theorem rg_bin {x0 x1 x2} : rvc P gl K (⟨d, some (t, w), (.bin x0 x1 x2)⟩ :: r) s = rgnext P gl K r s d (gval s.e t w) (stp gl s.e (hget s.h) s.nx (.bin x0 x1 x2)) := rvc_gstep rfl
@[simp] theorem d_bin {x0 x1 x2} : dvc P gl n1 pr K (⟨d, none, (.bin x0 x1 x2)⟩ :: r) acc s = dnext P gl n1 pr K r acc s d (stp gl s.e (hget s.h) s.nx (.bin x0 x1 x2)) := dvc_step rfl
@[simp] theorem dg_bin {x0 x1 x2} : dvc P gl n1 pr K (⟨d, some (t, w), (.bin x0 x1 x2)⟩ :: r) acc s = dgnext P gl n1 pr K r acc s d (gval s.e t w) (stp gl s.e (hget s.h) s.nx (.bin x0 x1 x2)) := dvc_gstep rfl
@[simp] theorem r_isnil {x0 x1 x2} : rvc P gl K (⟨d, none, (.isnil x0 x1 x2)⟩ :: r) s = rnext P gl K r s d (stp gl s.e (hget s.h) s.nx (.isnil x0 x1 x2)) := rvc_step rfl
@[simp] theorem rg_isnil {x0 x1 x2} : rvc P gl K (⟨d, some (t, w), (.isnil x0 x1 x2)⟩ :: r) s = rgnext P gl K r s d (gval s.e t w) (stp gl s.e (hget s.h) s.nx (.isnil x0 x1 x2)) := rvc_gstep rfl
@[simp] theorem d_isnil {x0 x1 x2} : dvc P gl n1 pr K (⟨d, none, (.isnil x0 x1 x2)⟩ :: r) acc s = dnext P gl n1 pr K r acc s d (stp gl s.e (hget s.h) s.nx (.isnil x0 x1 x2)) := dvc_step rfl
@[simp] theorem dg_isnil {x0 x1 x2} : dvc P gl n1 pr K (⟨d, some (t, w), (.isnil x0 x1 x2)⟩ :: r) acc s = dgnext P gl n1 pr K r acc s d (gval s.e t w) (stp gl s.e (hget s.h) s.nx (.isnil x0 x1 x2)) := dvc_gstep rfl
@[simp] theorem r_beq {x0 x1 x2} : rvc P gl K (⟨d, none, (.beq x0 x1 x2)⟩ :: r) s = rnext P gl K r s d (stp gl s.e (hget s.h) s.nx (.beq x0 x1 x2)) := rvc_step rfl
@[simp] theorem rg_beq {x0 x1 x2} : rvc P gl K (⟨d, some (t, w), (.beq x0 x1 x2)⟩ :: r) s = rgnext P gl K r s d (gval s.e t w) (stp gl s.e (hget s.h) s.nx (.beq x0 x1 x2)) := rvc_gstep rfl
@[simp] theorem d_beq {x0 x1 x2} : dvc P gl n1 pr K (⟨d, none, (.beq x0 x1 x2)⟩ :: r) acc s = dnext P gl n1 pr K r acc s d (stp gl s.e (hget s.h) s.nx (.beq x0 x1 x2)) := dvc_step rfl
@[simp] theorem dg_beq {x0 x1 x2} : dvc P gl n1 pr K (⟨d, some (t, w), (.beq x0 x1 x2)⟩ :: r) acc s = dgnext P gl n1 pr K r acc s d (gval s.e t w) (stp gl s.e (hget s.h) s.nx (.beq x0 x1 x2)) := dvc_gstep rfl
@[simp] theorem r_conv {x0 x1} : rvc P gl K (⟨d, none, (.conv x0 x1)⟩ :: r) s = rnext P gl K r s d (stp gl s.e (hget s.h) s.nx (.conv x0 x1)) := rvc_step rfl
@[simp] theorem rg_conv {x0 x1} : rvc P gl K (⟨d, some (t, w), (.conv x0 x1)⟩ :: r) s = rgnext P gl K r s d (gval s.e t w) (stp gl s.e (hget s.h) s.nx (.conv x0 x1)) := rvc_gstep rfl
@[simp] theorem d_conv {x0 x1} : dvc P gl n1 pr K (⟨d, none, (.conv x0 x1)⟩ :: r) acc s = dnext P gl n1 pr K r acc s d (stp gl s.e (hget s.h) s.nx (.conv x0 x1)) := dvc_step rfl
@[simp] theorem dg_conv {x0 x1} : dvc P gl n1 pr K (⟨d, some (t, w), (.conv x0 x1)⟩ :: r) acc s = dgnext P gl n1 pr K r acc s d (gval s.e t w) (stp gl s.e (hget s.h) s.nx (.conv x0 x1)) := dvc_gstep rfl
@[simp] theorem r_idc {x0} : rvc P gl K (⟨d, none, (.idc x0)⟩ :: r) s = rnext P gl K r s d (stp gl s.e (hget s.h) s.nx (.idc x0)) := rvc_step rfl
@[simp] theorem rg_idc {x0} : rvc P gl K (⟨d, some (t, w), (.idc x0)⟩ :: r) s = rgnext P gl K r s d (gval s.e t w) (stp gl s.e (hget s.h) s.nx (.idc x0)) := rvc_gstep rfl
@[simp] theorem d_idc {x0} : dvc P gl n1 pr K (⟨d, none, (.idc x0)⟩ :: r) acc s = dnext P gl n1 pr K r acc s d (stp gl s.e (hget s.h) s.nx (.idc x0)) := dvc_step rfl
@[simp] theorem dg_idc {x0} : dvc P gl n1 pr K (⟨d, some (t, w), (.idc x0)⟩ :: r) acc s = dgnext P gl n1 pr K r acc s d (gval s.e t w) (stp gl s.e (hget s.h) s.nx (.idc x0)) := dvc_gstep rfl
@[simp] theorem r_b2s {x0} : rvc P gl K (⟨d, none, (.b2s x0)⟩ :: r) s = rnext P gl K r s d (stp gl s.e (hget s.h) s.nx (.b2s x0)) := rvc_step rfl
@[simp] theorem rg_b2s {x0} : rvc P gl K (⟨d, some (t, w), (.b2s x0)⟩ :: r) s = rgnext P gl K r s d (gval s.e t w) (stp gl s.e (hget s.h) s.nx (.b2s x0)) := rvc_gstep rfl
@[simp] theorem d_b2s {x0} : dvc P gl n1 pr K (⟨d, none, (.b2s x0)⟩ :: r) acc s = dnext P gl n1 pr K r acc s d (stp gl s.e (hget s.h) s.nx (.b2s x0)) := dvc_step rfl
@[simp] theorem dg_b2s {x0} : dvc P gl n1 pr K (⟨d, some (t, w), (.b2s x0)⟩ :: r) acc s = dgnext P gl n1 pr K r acc s d (gval s.e t w) (stp gl s.e (hget s.h) s.nx (.b2s x0)) := dvc_gstep rfl
@[simp] theorem r_alloc {x0} : rvc P gl K (⟨d, none, (.alloc x0)⟩ :: r) s = rnext P gl K r s d (stp gl s.e (hget s.h) s.nx (.alloc x0)) := rvc_step rfl
@[simp] theorem rg_alloc {x0} : rvc P gl K (⟨d, some (t, w), (.alloc x0)⟩ :: r) s = rgnext P gl K r s d (gval s.e t w) (stp gl s.e (hget s.h) s.nx (.alloc x0)) := rvc_gstep rfl
@[simp] theorem d_alloc {x0} : dvc P gl n1 pr K (⟨d, none, (.alloc x0)⟩ :: r) acc s = dnext P gl n1 pr K r acc s d (stp gl s.e (hget s.h) s.nx (.alloc x0)) := dvc_step rfl
@[simp] theorem dg_alloc {x0} : dvc P gl n1 pr K (⟨d, some (t, w), (.alloc x0)⟩ :: r) acc s = dgnext P gl n1 pr K r acc s d (gval s.e t w) (stp gl s.e (hget s.h) s.nx (.alloc x0)) := dvc_gstep rfl
@[simp] theorem r_box {x0 x1} : rvc P gl K (⟨d, none, (.box x0 x1)⟩ :: r) s = rnext P gl K r s d (stp gl s.e (hget s.h) s.nx (.box x0 x1)) := rvc_step rfl
@[simp] theorem rg_box {x0 x1} : rvc P gl K (⟨d, some (t, w), (.box x0 x1)⟩ :: r) s = rgnext P gl K r s d (gval s.e t w) (stp gl s.e (hget s.h) s.nx (.box x0 x1)) := rvc_gstep rfl
@[simp] theorem d_box {x0 x1} : dvc P gl n1 pr K (⟨d, none, (.box x0 x1)⟩ :: r) acc s = dnext P gl n1 pr K r acc s d (stp gl s.e (hget s.h) s.nx (.box x0 x1)) := dvc_step rfl
@[simp] theorem dg_box {x0 x1} : dvc P gl n1 pr K (⟨d, some (t, w), (.box x0 x1)⟩ :: r) acc s = dgnext P gl n1 pr K r acc s d (gval s.e t w) (stp gl s.e (hget s.h) s.nx (.box x0 x1)) := dvc_gstep rfl
@[simp] theorem r_build {x0 x1} : rvc P gl K (⟨d, none, (.build x0 x1)⟩ :: r) s = rnext P gl K r s d (stp gl s.e (hget s.h) s.nx (.build x0 x1)) := rvc_step rfl
@[simp] theorem rg_build {x0 x1} : rvc P gl K (⟨d, some (t, w), (.build x0 x1)⟩ :: r) s = rgnext P gl K r s d (gval s.e t w) (stp gl s.e (hget s.h) s.nx (.build x0 x1)) := rvc_gstep rfl
@[simp] theorem d_build {x0 x1} : dvc P gl n1 pr K (⟨d, none, (.build x0 x1)⟩ :: r) acc s = dnext P gl n1 pr K r acc s d (stp gl s.e (hget s.h) s.nx (.build x0 x1)) := dvc_step rfl
@[simp] theorem dg_build {x0 x1} : dvc P gl n1 pr K (⟨d, some (t, w), (.build x0 x1)⟩ :: r) acc s = dgnext P gl n1 pr K r acc s d (gval s.e t w) (stp gl s.e (hget s.h) s.nx (.build x0 x1)) := dvc_gstep rfl
@[simp] theorem r_lit {x0 x1} : rvc P gl K (⟨d, none, (.lit x0 x1)⟩ :: r) s = rnext P gl K r s d (stp gl s.e (hget s.h) s.nx (.lit x0 x1)) := rvc_step rfl
@[simp] theorem r_litm {x0 x1} : rvc P gl K (⟨d, none, (.litm x0 x1)⟩ :: r) s = rnext P gl K r s d (stp gl s.e (hget s.h) s.nx (.litm x0 x1)) := rvc_step rfl
@[simp] theorem rg_lit {x0 x1} : rvc P gl K (⟨d, some (t, w), (.lit x0 x1)⟩ :: r) s = rgnext P gl K r s d (gval s.e t w) (stp gl s.e (hget s.h) s.nx (.lit x0 x1)) := rvc_gstep rfl
@[simp] theorem rg_litm {x0 x1} : rvc P gl K (⟨d, some (t, w), (.litm x0 x1)⟩ :: r) s = rgnext P gl K r s d (gval s.e t w) (stp gl s.e (hget s.h) s.nx (.litm x0 x1)) := rvc_gstep rfl
@[simp] theorem d_lit {x0 x1} : dvc P gl n1 pr K (⟨d, none, (.lit x0 x1)⟩ :: r) acc s = dnext P gl n1 pr K r acc s d (stp gl s.e (hget s.h) s.nx (.lit x0 x1)) := dvc_step rfl
@[simp] theorem d_litm {x0 x1} : dvc P gl n1 pr K (⟨d, none, (.litm x0 x1)⟩ :: r) acc s = dnext P gl n1 pr K r acc s d (stp gl s.e (hget s.h) s.nx (.litm x0 x1)) := dvc_step rfl
@[simp] theorem dg_lit {x0 x1} : dvc P gl n1 pr K (⟨d, some (t, w), (.lit x0 x1)⟩ :: r) acc s = dgnext P gl n1 pr K r acc s d (gval s.e t w) (stp gl s.e (hget s.h) s.nx (.lit x0 x1)) := dvc_gstep rfl
@[simp] theorem dg_litm {x0 x1} : dvc P gl n1 pr K (⟨d, some (t, w), (.litm x0 x1)⟩ :: r) acc s = dgnext P gl n1 pr K r acc s d (gval s.e t w) (stp gl s.e (hget s.h) s.nx (.litm x0 x1)) := dvc_gstep rfl
@[simp] theorem r_load {x0 x1} : rvc P gl K (⟨d, none, (.load x0 x1)⟩ :: r) s = rnext P gl K r s d (stp gl s.e (hget s.h) s.nx (.load x0 x1)) := rvc_step rfl
@[simp] theorem rg_load {x0 x1} : rvc P gl K (⟨d, some (t, w), (.load x0 x1)⟩ :: r) s = rgnext P gl K r s d (gval s.e t w) (stp gl s.e (hget s.h) s.nx (.load x0 x1)) := rvc_gstep rfl
@[simp] theorem d_load {x0 x1} : dvc P gl n1 pr K (⟨d, none, (.load x0 x1)⟩ :: r) acc s = dnext P gl n1 pr K r acc s d (stp gl s.e (hget s.h) s.nx (.load x0 x1)) := dvc_step rfl
@[simp] theorem dg_load {x0 x1} : dvc P gl n1 pr K (⟨d, some (t, w), (.load x0 x1)⟩ :: r) acc s = dgnext P gl n1 pr K r acc s d (gval s.e t w) (stp gl s.e (hget s.h) s.nx (.load x0 x1)) := dvc_gstep rfl
@[simp] theorem r_store {x0 x1 x2} : rvc P gl K (⟨d, none, (.store x0 x1 x2)⟩ :: r) s = rnext P gl K r s d (stp gl s.e (hget s.h) s.nx (.store x0 x1 x2)) := rvc_step rfl
@[simp] theorem rg_store {x0 x1 x2} : rvc P gl K (⟨d, some (t, w), (.store x0 x1 x2)⟩ :: r) s = rgnext P gl K r s d (gval s.e t w) (stp gl s.e (hget s.h) s.nx (.store x0 x1 x2)) := rvc_gstep rfl
@[simp] theorem d_store {x0 x1 x2} : dvc P gl n1 pr K (⟨d, none, (.store x0 x1 x2)⟩ :: r) acc s = dnext P gl n1 pr K r acc s d (stp gl s.e (hget s.h) s.nx (.store x0 x1 x2)) := dvc_step rfl
@[simp] theorem dg_store {x0 x1 x2} : dvc P gl n1 pr K (⟨d, some (t, w), (.store x0 x1 x2)⟩ :: r) acc s = dgnext P gl n1 pr K r acc s d (gval s.e t w) (stp gl s.e (hget s.h) s.nx (.store x0 x1 x2)) := dvc_gstep rfl
@[simp] theorem r_nilc {x0} : rvc P gl K (⟨d, none, (.nilc x0)⟩ :: r) s = rnext P gl K r s d (stp gl s.e (hget s.h) s.nx (.nilc x0)) := rvc_step rfl
@[simp] theorem rg_nilc {x0} : rvc P gl K (⟨d, some (t, w), (.nilc x0)⟩ :: r) s = rgnext P gl K r s d (gval s.e t w) (stp gl s.e (hget s.h) s.nx (.nilc x0)) := rvc_gstep rfl
@[simp] theorem d_nilc {x0} : dvc P gl n1 pr K (⟨d, none, (.nilc x0)⟩ :: r) acc s = dnext P gl n1 pr K r acc s d (stp gl s.e (hget s.h) s.nx (.nilc x0)) := dvc_step rfl
@[simp] theorem dg_nilc {x0} : dvc P gl n1 pr K (⟨d, some (t, w), (.nilc x0)⟩ :: r) acc s = dgnext P gl n1 pr K r acc s d (gval s.e t w) (stp gl s.e (hget s.h) s.nx (.nilc x0)) := dvc_gstep rfl
@[simp] theorem r_fad {x0 x1} : rvc P gl K (⟨d, none, (.fad x0 x1)⟩ :: r) s = rnext P gl K r s d (stp gl s.e (hget s.h) s.nx (.fad x0 x1)) := rvc_step rfl
@[simp] theorem rg_fad {x0 x1} : rvc P gl K (⟨d, some (t, w), (.fad x0 x1)⟩ :: r) s = rgnext P gl K r s d (gval s.e t w) (stp gl s.e (hget s.h) s.nx (.fad x0 x1)) := rvc_gstep rfl
@[simp] theorem d_fad {x0 x1} : dvc P gl n1 pr K (⟨d, none, (.fad x0 x1)⟩ :: r) acc s = dnext P gl n1 pr K r acc s d (stp gl s.e (hget s.h) s.nx (.fad x0 x1)) := dvc_step rfl
@[simp] theorem dg_fad {x0 x1} : dvc P gl n1 pr K (⟨d, some (t, w), (.fad x0 x1)⟩ :: r) acc s = dgnext P gl n1 pr K r acc s d (gval s.e t w) (stp gl s.e (hget s.h) s.nx (.fad x0 x1)) := dvc_gstep rfl
@[simp] theorem r_fld {x0 x1 x2} : rvc P gl K (⟨d, none, (.fld x0 x1 x2)⟩ :: r) s = rnext P gl K r s d (stp gl s.e (hget s.h) s.nx (.fld x0 x1 x2)) := rvc_step rfl
@[simp] theorem rg_fld {x0 x1 x2} : rvc P gl K (⟨d, some (t, w), (.fld x0 x1 x2)⟩ :: r) s = rgnext P gl K r s d (gval s.e t w) (stp gl s.e (hget s.h) s.nx (.fld x0 x1 x2)) := rvc_gstep rfl
@[simp] theorem d_fld {x0 x1 x2} : dvc P gl n1 pr K (⟨d, none, (.fld x0 x1 x2)⟩ :: r) acc s = dnext P gl n1 pr K r acc s d (stp gl s.e (hget s.h) s.nx (.fld x0 x1 x2)) := dvc_step rfl
@[simp] theorem dg_fld {x0 x1 x2} : dvc P gl n1 pr K (⟨d, some (t, w), (.fld x0 x1 x2)⟩ :: r) acc s = dgnext P gl n1 pr K r acc s d (gval s.e t w) (stp gl s.e (hget s.h) s.nx (.fld x0 x1 x2)) := dvc_gstep rfl
@[simp] theorem r_iad {x0 x1 x2} : rvc P gl K (⟨d, none, (.iad x0 x1 x2)⟩ :: r) s = rnext P gl K r s d (stp gl s.e (hget s.h) s.nx (.iad x0 x1 x2)) := rvc_step rfl
@[simp] theorem rg_iad {x0 x1 x2} : rvc P gl K (⟨d, some (t, w), (.iad x0 x1 x2)⟩ :: r) s = rgnext P gl K r s d (gval s.e t w) (stp gl s.e (hget s.h) s.nx (.iad x0 x1 x2)) := rvc_gstep rfl
@[simp] theorem d_iad {x0 x1 x2} : dvc P gl n1 pr K (⟨d, none, (.iad x0 x1 x2)⟩ :: r) acc s = dnext P gl n1 pr K r acc s d (stp gl s.e (hget s.h) s.nx (.iad x0 x1 x2)) := dvc_step rfl
@[simp] theorem dg_iad {x0 x1 x2} : dvc P gl n1 pr K (⟨d, some (t, w), (.iad x0 x1 x2)⟩ :: r) acc s = dgnext P gl n1 pr K r acc s d (gval s.e t w) (stp gl s.e (hget s.h) s.nx (.iad x0 x1 x2)) := dvc_gstep rfl
@[simp] theorem r_iada {x0 x1 x2 x3} : rvc P gl K (⟨d, none, (.iada x0 x1 x2 x3)⟩ :: r) s = rnext P gl K r s d (stp gl s.e (hget s.h) s.nx (.iada x0 x1 x2 x3)) := rvc_step rfl
@[simp] theorem rg_iada {x0 x1 x2 x3} : rvc P gl K (⟨d, some (t, w), (.iada x0 x1 x2 x3)⟩ :: r) s = rgnext P gl K r s d (gval s.e t w) (stp gl s.e (hget s.h) s.nx (.iada x0 x1 x2 x3)) := rvc_gstep rfl
@[simp] theorem d_iada {x0 x1 x2 x3} : dvc P gl n1 pr K (⟨d, none, (.iada x0 x1 x2 x3)⟩ :: r) acc s = dnext P gl n1 pr K r acc s d (stp gl s.e (hget s.h) s.nx (.iada x0 x1 x2 x3)) := dvc_step rfl
@[simp] theorem dg_iada {x0 x1 x2 x3} : dvc P gl n1 pr K (⟨d, some (t, w), (.iada x0 x1 x2 x3)⟩ :: r) acc s = dgnext P gl n1 pr K r acc s d (gval s.e t w) (stp gl s.e (hget s.h) s.nx (.iada x0 x1 x2 x3)) := dvc_gstep rfl
@[simp] theorem r_ixs {x0 x1} : rvc P gl K (⟨d, none, (.ixs x0 x1)⟩ :: r) s = rnext P gl K r s d (stp gl s.e (hget s.h) s.nx (.ixs x0 x1)) := rvc_step rfl
@[simp] theorem rg_ixs {x0 x1} : rvc P gl K (⟨d, some (t, w), (.ixs x0 x1)⟩ :: r) s = rgnext P gl K r s d (gval s.e t w) (stp gl s.e (hget s.h) s.nx (.ixs x0 x1)) := rvc_gstep rfl
@[simp] theorem d_ixs {x0 x1} : dvc P gl n1 pr K (⟨d, none, (.ixs x0 x1)⟩ :: r) acc s = dnext P gl n1 pr K r acc s d (stp gl s.e (hget s.h) s.nx (.ixs x0 x1)) := dvc_step rfl
@[simp] theorem dg_ixs {x0 x1} : dvc P gl n1 pr K (⟨d, some (t, w), (.ixs x0 x1)⟩ :: r) acc s = dgnext P gl n1 pr K r acc s d (gval s.e t w) (stp gl s.e (hget s.h) s.nx (.ixs x0 x1)) := dvc_gstep rfl
@[simp] theorem r_mkf {x0 x1 x2} : rvc P gl K (⟨d, none, (.mkf x0 x1 x2)⟩ :: r) s = rnext P gl K r s d (stp gl s.e (hget s.h) s.nx (.mkf x0 x1 x2)) := rvc_step rfl
@[simp] theorem rg_mkf {x0 x1 x2} : rvc P gl K (⟨d, some (t, w), (.mkf x0 x1 x2)⟩ :: r) s = rgnext P gl K r s d (gval s.e t w) (stp gl s.e (hget s.h) s.nx (.mkf x0 x1 x2)) := rvc_gstep rfl
@[simp] theorem d_mkf {x0 x1 x2} : dvc P gl n1 pr K (⟨d, none, (.mkf x0 x1 x2)⟩ :: r) acc s = dnext P gl n1 pr K r acc s d (stp gl s.e (hget s.h) s.nx (.mkf x0 x1 x2)) := dvc_step rfl
@[simp] theorem dg_mkf {x0 x1 x2} : dvc P gl n1 pr K (⟨d, some (t, w), (.mkf x0 x1 x2)⟩ :: r) acc s = dgnext P gl n1 pr K r acc s d (gval s.e t w) (stp gl s.e (hget s.h) s.nx (.mkf x0 x1 x2)) := dvc_gstep rfl
@[simp] theorem r_mkm : rvc P gl K (⟨d, none, (.mkm)⟩ :: r) s = rnext P gl K r s d (stp gl s.e (hget s.h) s.nx (.mkm)) := rvc_step rfl
@[simp] theorem rg_mkm : rvc P gl K (⟨d, some (t, w), (.mkm)⟩ :: r) s = rgnext P gl K r s d (gval s.e t w) (stp gl s.e (hget s.h) s.nx (.mkm)) := rvc_gstep rfl
@[simp] theorem d_mkm : dvc P gl n1 pr K (⟨d, none, (.mkm)⟩ :: r) acc s = dnext P gl n1 pr K r acc s d (stp gl s.e (hget s.h) s.nx (.mkm)) := dvc_step rfl
@[simp] theorem dg_mkm : dvc P gl n1 pr K (⟨d, some (t, w), (.mkm)⟩ :: r) acc s = dgnext P gl n1 pr K r acc s d (gval s.e t w) (stp gl s.e (hget s.h) s.nx (.mkm)) := dvc_gstep rfl
@[simp] theorem r_mks {x0 x1 x2 x3} : rvc P gl K (⟨d, none, (.mks x0 x1 x2 x3)⟩ :: r) s = rnext P gl K r s d (stp gl s.e (hget s.h) s.nx (.mks x0 x1 x2 x3)) := rvc_step rfl
@[simp] theorem rg_mks {x0 x1 x2 x3} : rvc P gl K (⟨d, some (t, w), (.mks x0 x1 x2 x3)⟩ :: r) s = rgnext P gl K r s d (gval s.e t w) (stp gl s.e (hget s.h) s.nx (.mks x0 x1 x2 x3)) := rvc_gstep rfl
@[simp] theorem d_mks {x0 x1 x2 x3} : dvc P gl n1 pr K (⟨d, none, (.mks x0 x1 x2 x3)⟩ :: r) acc s = dnext P gl n1 pr K r acc s d (stp gl s.e (hget s.h) s.nx (.mks x0 x1 x2 x3)) := dvc_step rfl
@[simp] theorem dg_mks {x0 x1 x2 x3} : dvc P gl n1 pr K (⟨d, some (t, w), (.mks x0 x1 x2 x3)⟩ :: r) acc s = dgnext P gl n1 pr K r acc s d (gval s.e t w) (stp gl s.e (hget s.h) s.nx (.mks x0 x1 x2 x3)) := dvc_gstep rfl
@[simp] theorem r_mkz {x0 x1 x2} : rvc P gl K (⟨d, none, (.mkz x0 x1 x2)⟩ :: r) s = rnext P gl K r s d (stp gl s.e (hget s.h) s.nx (.mkz x0 x1 x2)) := rvc_step rfl
@[simp] theorem rg_mkz {x0 x1 x2} : rvc P gl K (⟨d, some (t, w), (.mkz x0 x1 x2)⟩ :: r) s = rgnext P gl K r s d (gval s.e t w) (stp gl s.e (hget s.h) s.nx (.mkz x0 x1 x2)) := rvc_gstep rfl
@[simp] theorem d_mkz {x0 x1 x2} : dvc P gl n1 pr K (⟨d, none, (.mkz x0 x1 x2)⟩ :: r) acc s = dnext P gl n1 pr K r acc s d (stp gl s.e (hget s.h) s.nx (.mkz x0 x1 x2)) := dvc_step rfl
@[simp] theorem dg_mkz {x0 x1 x2} : dvc P gl n1 pr K (⟨d, some (t, w), (.mkz x0 x1 x2)⟩ :: r) acc s = dgnext P gl n1 pr K r acc s d (gval s.e t w) (stp gl s.e (hget s.h) s.nx (.mkz x0 x1 x2)) := dvc_gstep rfl
@[simp] theorem r_mkc {x0 x1 x2} : rvc P gl K (⟨d, none, (.mkc x0 x1 x2)⟩ :: r) s = rnext P gl K r s d (stp gl s.e (hget s.h) s.nx (.mkc x0 x1 x2)) := rvc_step rfl
@[simp] theorem rg_mkc {x0 x1 x2} : rvc P gl K (⟨d, some (t, w), (.mkc x0 x1 x2)⟩ :: r) s = rgnext P gl K r s d (gval s.e t w) (stp gl s.e (hget s.h) s.nx (.mkc x0 x1 x2)) := rvc_gstep rfl
@[simp] theorem d_mkc {x0 x1 x2} : dvc P gl n1 pr K (⟨d, none, (.mkc x0 x1 x2)⟩ :: r) acc s = dnext P gl n1 pr K r acc s d (stp gl s.e (hget s.h) s.nx (.mkc x0 x1 x2)) := dvc_step rfl
@[simp] theorem dg_mkc {x0 x1 x2} : dvc P gl n1 pr K (⟨d, some (t, w), (.mkc x0 x1 x2)⟩ :: r) acc s = dgnext P gl n1 pr K r acc s d (gval s.e t w) (stp gl s.e (hget s.h) s.nx (.mkc x0 x1 x2)) := dvc_gstep rfl
@[simp] theorem r_bad : rvc P gl K (⟨d, none, (.bad)⟩ :: r) s = rnext P gl K r s d (stp gl s.e (hget s.h) s.nx (.bad)) := rvc_step rfl
@[simp] theorem rg_bad : rvc P gl K (⟨d, some (t, w), (.bad)⟩ :: r) s = rgnext P gl K r s d (gval s.e t w) (stp gl s.e (hget s.h) s.nx (.bad)) := rvc_gstep rfl
@[simp] theorem d_bad : dvc P gl n1 pr K (⟨d, none, (.bad)⟩ :: r) acc s = dnext P gl n1 pr K r acc s d (stp gl s.e (hget s.h) s.nx (.bad)) := dvc_step rfl
@[simp] theorem dg_bad : dvc P gl n1 pr K (⟨d, some (t, w), (.bad)⟩ :: r) acc s = dgnext P gl n1 pr K r acc s d (gval s.e t w) (stp gl s.e (hget s.h) s.nx (.bad)) := dvc_gstep rfl
@[simp] theorem r_ceq {x0 x1 x2 x3} : rvc P gl K (⟨d, none, (.ceq x0 x1 x2 x3)⟩ :: r) s = rnext P gl K r s d (stp gl s.e (hget s.h) s.nx (.ceq x0 x1 x2 x3)) := rvc_step rfl
@[simp] theorem rg_ceq {x0 x1 x2 x3} : rvc P gl K (⟨d, some (t, w), (.ceq x0 x1 x2 x3)⟩ :: r) s = rgnext P gl K r s d (gval s.e t w) (stp gl s.e (hget s.h) s.nx (.ceq x0 x1 x2 x3)) := rvc_gstep rfl
@[simp] theorem d_ceq {x0 x1 x2 x3} : dvc P gl n1 pr K (⟨d, none, (.ceq x0 x1 x2 x3)⟩ :: r) acc s = dnext P gl n1 pr K r acc s d (stp gl s.e (hget s.h) s.nx (.ceq x0 x1 x2 x3)) := dvc_step rfl
@[simp] theorem dg_ceq {x0 x1 x2 x3} : dvc P gl n1 pr K (⟨d, some (t, w), (.ceq x0 x1 x2 x3)⟩ :: r) acc s = dgnext P gl n1 pr K r acc s d (gval s.e t w) (stp gl s.e (hget s.h) s.nx (.ceq x0 x1 x2 x3)) := dvc_gstep rfl
@[simp] theorem r_cut {x0 x1 x2 x3} : rvc P gl K (⟨d, none, (.cut x0 x1 x2 x3)⟩ :: r) s = rnext P gl K r s d (stp gl s.e (hget s.h) s.nx (.cut x0 x1 x2 x3)) := rvc_step rfl
@[simp] theorem r_cut3 {x0 x1 x2 x3 x4} : rvc P gl K (⟨d, none, (.cut3 x0 x1 x2 x3 x4)⟩ :: r) s = rnext P gl K r s d (stp gl s.e (hget s.h) s.nx (.cut3 x0 x1 x2 x3 x4)) := rvc_step rfl
@[simp] theorem rg_cut {x0 x1 x2 x3} : rvc P gl K (⟨d, some (t, w), (.cut x0 x1 x2 x3)⟩ :: r) s = rgnext P gl K r s d (gval s.e t w) (stp gl s.e (hget s.h) s.nx (.cut x0 x1 x2 x3)) := rvc_gstep rfl
@[simp] theorem rg_cut3 {x0 x1 x2 x3 x4} : rvc P gl K (⟨d, some (t, w), (.cut3 x0 x1 x2 x3 x4)⟩ :: r) s = rgnext P gl K r s d (gval s.e t w) (stp gl s.e (hget s.h) s.nx (.cut3 x0 x1 x2 x3 x4)) := rvc_gstep rfl
@[simp] theorem d_cut {x0 x1 x2 x3} : dvc P gl n1 pr K (⟨d, none, (.cut x0 x1 x2 x3)⟩ :: r) acc s = dnext P gl n1 pr K r acc s d (stp gl s.e (hget s.h) s.nx (.cut x0 x1 x2 x3)) := dvc_step rfl
@[simp] theorem d_cut3 {x0 x1 x2 x3 x4} : dvc P gl n1 pr K (⟨d, none, (.cut3 x0 x1 x2 x3 x4)⟩ :: r) acc s = dnext P gl n1 pr K r acc s d (stp gl s.e (hget s.h) s.nx (.cut3 x0 x1 x2 x3 x4)) := dvc_step rfl
@[simp] theorem dg_cut {x0 x1 x2 x3} : dvc P gl n1 pr K (⟨d, some (t, w), (.cut x0 x1 x2 x3)⟩ :: r) acc s = dgnext P gl n1 pr K r acc s d (gval s.e t w) (stp gl s.e (hget s.h) s.nx (.cut x0 x1 x2 x3)) := dvc_gstep rfl
@[simp] theorem dg_cut3 {x0 x1 x2 x3 x4} : dvc P gl n1 pr K (⟨d, some (t, w), (.cut3 x0 x1 x2 x3 x4)⟩ :: r) acc s = dgnext P gl n1 pr K r acc s d (gval s.e t w) (stp gl s.e (hget s.h) s.nx (.cut3 x0 x1 x2 x3 x4)) := dvc_gstep rfl
@[simp] theorem r_cuts {x0 x1 x2} : rvc P gl K (⟨d, none, (.cuts x0 x1 x2)⟩ :: r) s = rnext P gl K r s d (stp gl s.e (hget s.h) s.nx (.cuts x0 x1 x2)) := rvc_step rfl
@[simp] theorem rg_cuts {x0 x1 x2} : rvc P gl K (⟨d, some (t, w), (.cuts x0 x1 x2)⟩ :: r) s = rgnext P gl K r s d (gval s.e t w) (stp gl s.e (hget s.h) s.nx (.cuts x0 x1 x2)) := rvc_gstep rfl
@[simp] theorem d_cuts {x0 x1 x2} : dvc P gl n1 pr K (⟨d, none, (.cuts x0 x1 x2)⟩ :: r) acc s = dnext P gl n1 pr K r acc s d (stp gl s.e (hget s.h) s.nx (.cuts x0 x1 x2)) := dvc_step rfl
@[simp] theorem dg_cuts {x0 x1 x2} : dvc P gl n1 pr K (⟨d, some (t, w), (.cuts x0 x1 x2)⟩ :: r) acc s = dgnext P gl n1 pr K r acc s d (gval s.e t w) (stp gl s.e (hget s.h) s.nx (.cuts x0 x1 x2)) := dvc_gstep rfl
@[simp] theorem r_ext {x0 x1} : rvc P gl K (⟨d, none, (.ext x0 x1)⟩ :: r) s = rnext P gl K r s d (stp gl s.e (hget s.h) s.nx (.ext x0 x1)) := rvc_step rfl
@[simp] theorem rg_ext {x0 x1} : rvc P gl K (⟨d, some (t, w), (.ext x0 x1)⟩ :: r) s = rgnext P gl K r s d (gval s.e t w) (stp gl s.e (hget s.h) s.nx (.ext x0 x1)) := rvc_gstep rfl
@[simp] theorem d_ext {x0 x1} : dvc P gl n1 pr K (⟨d, none, (.ext x0 x1)⟩ :: r) acc s = dnext P gl n1 pr K r acc s d (stp gl s.e (hget s.h) s.nx (.ext x0 x1)) := dvc_step rfl
@[simp] theorem dg_ext {x0 x1} : dvc P gl n1 pr K (⟨d, some (t, w), (.ext x0 x1)⟩ :: r) acc s = dgnext P gl n1 pr K r acc s d (gval s.e t w) (stp gl s.e (hget s.h) s.nx (.ext x0 x1)) := dvc_gstep rfl
@[simp] theorem r_len {x0} : rvc P gl K (⟨d, none, (.len x0)⟩ :: r) s = rnext P gl K r s d (stp gl s.e (hget s.h) s.nx (.len x0)) := rvc_step rfl
@[simp] theorem rg_len {x0} : rvc P gl K (⟨d, some (t, w), (.len x0)⟩ :: r) s = rgnext P gl K r s d (gval s.e t w) (stp gl s.e (hget s.h) s.nx (.len x0)) := rvc_gstep rfl
@[simp] theorem d_len {x0} : dvc P gl n1 pr K (⟨d, none, (.len x0)⟩ :: r) acc s = dnext P gl n1 pr K r acc s d (stp gl s.e (hget s.h) s.nx (.len x0)) := dvc_step rfl
@[simp] theorem dg_len {x0} : dvc P gl n1 pr K (⟨d, some (t, w), (.len x0)⟩ :: r) acc s = dgnext P gl n1 pr K r acc s d (gval s.e t w) (stp gl s.e (hget s.h) s.nx (.len x0)) := dvc_gstep rfl
@[simp] theorem r_lens {x0} : rvc P gl K (⟨d, none, (.lens x0)⟩ :: r) s = rnext P gl K r s d (stp gl s.e (hget s.h) s.nx (.lens x0)) := rvc_step rfl
@[simp] theorem rg_lens {x0} : rvc P gl K (⟨d, some (t, w), (.lens x0)⟩ :: r) s = rgnext P gl K r s d (gval s.e t w) (stp gl s.e (hget s.h) s.nx (.lens x0)) := rvc_gstep rfl
@[simp] theorem d_lens {x0} : dvc P gl n1 pr K (⟨d, none, (.lens x0)⟩ :: r) acc s = dnext P gl n1 pr K r acc s d (stp gl s.e (hget s.h) s.nx (.lens x0)) := dvc_step rfl
@[simp] theorem dg_lens {x0} : dvc P gl n1 pr K (⟨d, some (t, w), (.lens x0)⟩ :: r) acc s = dgnext P gl n1 pr K r acc s d (gval s.e t w) (stp gl s.e (hget s.h) s.nx (.lens x0)) := dvc_gstep rfl
@[simp] theorem r_mx {x0 x1} : rvc P gl K (⟨d, none, (.mx x0 x1)⟩ :: r) s = rnext P gl K r s d (stp gl s.e (hget s.h) s.nx (.mx x0 x1)) := rvc_step rfl
@[simp] theorem rg_mx {x0 x1} : rvc P gl K (⟨d, some (t, w), (.mx x0 x1)⟩ :: r) s = rgnext P gl K r s d (gval s.e t w) (stp gl s.e (hget s.h) s.nx (.mx x0 x1)) := rvc_gstep rfl
@[simp] theorem d_mx {x0 x1} : dvc P gl n1 pr K (⟨d, none, (.mx x0 x1)⟩ :: r) acc s = dnext P gl n1 pr K r acc s d (stp gl s.e (hget s.h) s.nx (.mx x0 x1)) := dvc_step rfl
@[simp] theorem dg_mx {x0 x1} : dvc P gl n1 pr K (⟨d, some (t, w), (.mx x0 x1)⟩ :: r) acc s = dgnext P gl n1 pr K r acc s d (gval s.e t w) (stp gl s.e (hget s.h) s.nx (.mx x0 x1)) := dvc_gstep rfl
@[simp] theorem r_mn {x0 x1} : rvc P gl K (⟨d, none, (.mn x0 x1)⟩ :: r) s = rnext P gl K r s d (stp gl s.e (hget s.h) s.nx (.mn x0 x1)) := rvc_step rfl
@[simp] theorem rg_mn {x0 x1} : rvc P gl K (⟨d, some (t, w), (.mn x0 x1)⟩ :: r) s = rgnext P gl K r s d (gval s.e t w) (stp gl s.e (hget s.h) s.nx (.mn x0 x1)) := rvc_gstep rfl
@[simp] theorem d_mn {x0 x1} : dvc P gl n1 pr K (⟨d, none, (.mn x0 x1)⟩ :: r) acc s = dnext P gl n1 pr K r acc s d (stp gl s.e (hget s.h) s.nx (.mn x0 x1)) := dvc_step rfl
@[simp] theorem dg_mn {x0 x1} : dvc P gl n1 pr K (⟨d, some (t, w), (.mn x0 x1)⟩ :: r) acc s = dgnext P gl n1 pr K r acc s d (gval s.e t w) (stp gl s.e (hget s.h) s.nx (.mn x0 x1)) := dvc_gstep rfl
@[simp] theorem r_app {x0 x1 x2 x3} : rvc P gl K (⟨d, none, (.app x0 x1 x2 x3)⟩ :: r) s = rnext P gl K r s d (stp gl s.e (hget s.h) s.nx (.app x0 x1 x2 x3)) := rvc_step rfl
@[simp] theorem rg_app {x0 x1 x2 x3} : rvc P gl K (⟨d, some (t, w), (.app x0 x1 x2 x3)⟩ :: r) s = rgnext P gl K r s d (gval s.e t w) (stp gl s.e (hget s.h) s.nx (.app x0 x1 x2 x3)) := rvc_gstep rfl
@[simp] theorem d_app {x0 x1 x2 x3} : dvc P gl n1 pr K (⟨d, none, (.app x0 x1 x2 x3)⟩ :: r) acc s = dnext P gl n1 pr K r acc s d (stp gl s.e (hget s.h) s.nx (.app x0 x1 x2 x3)) := dvc_step rfl
@[simp] theorem dg_app {x0 x1 x2 x3} : dvc P gl n1 pr K (⟨d, some (t, w), (.app x0 x1 x2 x3)⟩ :: r) acc s = dgnext P gl n1 pr K r acc s d (gval s.e t w) (stp gl s.e (hget s.h) s.nx (.app x0 x1 x2 x3)) := dvc_gstep rfl
@[simp] theorem r_appm {x0 x1 x2 x3} : rvc P gl K (⟨d, none, (.appm x0 x1 x2 x3)⟩ :: r) s = rnext P gl K r s d (stp gl s.e (hget s.h) s.nx (.appm x0 x1 x2 x3)) := rvc_step rfl
@[simp] theorem rg_appm {x0 x1 x2 x3} : rvc P gl K (⟨d, some (t, w), (.appm x0 x1 x2 x3)⟩ :: r) s = rgnext P gl K r s d (gval s.e t w) (stp gl s.e (hget s.h) s.nx (.appm x0 x1 x2 x3)) := rvc_gstep rfl
@[simp] theorem d_appm {x0 x1 x2 x3} : dvc P gl n1 pr K (⟨d, none, (.appm x0 x1 x2 x3)⟩ :: r) acc s = dnext P gl n1 pr K r acc s d (stp gl s.e (hget s.h) s.nx (.appm x0 x1 x2 x3)) := dvc_step rfl
@[simp] theorem dg_appm {x0 x1 x2 x3} : dvc P gl n1 pr K (⟨d, some (t, w), (.appm x0 x1 x2 x3)⟩ :: r) acc s = dgnext P gl n1 pr K r acc s d (gval s.e t w) (stp gl s.e (hget s.h) s.nx (.appm x0 x1 x2 x3)) := dvc_gstep rfl
@[simp] theorem r_look {x0 x1 x2 x3 x4} : rvc P gl K (⟨d, none, (.look x0 x1 x2 x3 x4)⟩ :: r) s = rnext P gl K r s d (stp gl s.e (hget s.h) s.nx (.look x0 x1 x2 x3 x4)) := rvc_step rfl
@[simp] theorem rg_look {x0 x1 x2 x3 x4} : rvc P gl K (⟨d, some (t, w), (.look x0 x1 x2 x3 x4)⟩ :: r) s = rgnext P gl K r s d (gval s.e t w) (stp gl s.e (hget s.h) s.nx (.look x0 x1 x2 x3 x4)) := rvc_gstep rfl
@[simp] theorem d_look {x0 x1 x2 x3 x4} : dvc P gl n1 pr K (⟨d, none, (.look x0 x1 x2 x3 x4)⟩ :: r) acc s = dnext P gl n1 pr K r acc s d (stp gl s.e (hget s.h) s.nx (.look x0 x1 x2 x3 x4)) := dvc_step rfl
@[simp] theorem dg_look {x0 x1 x2 x3 x4} : dvc P gl n1 pr K (⟨d, some (t, w), (.look x0 x1 x2 x3 x4)⟩ :: r) acc s = dgnext P gl n1 pr K r acc s d (gval s.e t w) (stp gl s.e (hget s.h) s.nx (.look x0 x1 x2 x3 x4)) := dvc_gstep rfl
@[simp] theorem r_mup {x0 x1 x2 x3} : rvc P gl K (⟨d, none, (.mup x0 x1 x2 x3)⟩ :: r) s = rnext P gl K r s d (stp gl s.e (hget s.h) s.nx (.mup x0 x1 x2 x3)) := rvc_step rfl
@[simp] theorem rg_mup {x0 x1 x2 x3} : rvc P gl K (⟨d, some (t, w), (.mup x0 x1 x2 x3)⟩ :: r) s = rgnext P gl K r s d (gval s.e t w) (stp gl s.e (hget s.h) s.nx (.mup x0 x1 x2 x3)) := rvc_gstep rfl
@[simp] theorem d_mup {x0 x1 x2 x3} : dvc P gl n1 pr K (⟨d, none, (.mup x0 x1 x2 x3)⟩ :: r) acc s = dnext P gl n1 pr K r acc s d (stp gl s.e (hget s.h) s.nx (.mup x0 x1 x2 x3)) := dvc_step rfl
@[simp] theorem dg_mup {x0 x1 x2 x3} : dvc P gl n1 pr K (⟨d, some (t, w), (.mup x0 x1 x2 x3)⟩ :: r) acc s = dgnext P gl n1 pr K r acc s d (gval s.e t w) (stp gl s.e (hget s.h) s.nx (.mup x0 x1 x2 x3)) := dvc_gstep rfl
@[simp] theorem r_ment {x0 x1 x2 x3} : rvc P gl K (⟨d, none, (.ment x0 x1 x2 x3)⟩ :: r) s = rnext P gl K r s d (stp gl s.e (hget s.h) s.nx (.ment x0 x1 x2 x3)) := rvc_step rfl
@[simp] theorem rg_ment {x0 x1 x2 x3} : rvc P gl K (⟨d, some (t, w), (.ment x0 x1 x2 x3)⟩ :: r) s = rgnext P gl K r s d (gval s.e t w) (stp gl s.e (hget s.h) s.nx (.ment x0 x1 x2 x3)) := rvc_gstep rfl
@[simp] theorem d_ment {x0 x1 x2 x3} : dvc P gl n1 pr K (⟨d, none, (.ment x0 x1 x2 x3)⟩ :: r) acc s = dnext P gl n1 pr K r acc s d (stp gl s.e (hget s.h) s.nx (.ment x0 x1 x2 x3)) := dvc_step rfl
@[simp] theorem dg_ment {x0 x1 x2 x3} : dvc P gl n1 pr K (⟨d, some (t, w), (.ment x0 x1 x2 x3)⟩ :: r) acc s = dgnext P gl n1 pr K r acc s d (gval s.e t w) (stp gl s.e (hget s.h) s.nx (.ment x0 x1 x2 x3)) := dvc_gstep rfl
@[simp] theorem r_mest {x0 x1 x2} : rvc P gl K (⟨d, none, (.mest x0 x1 x2)⟩ :: r) s = rnext P gl K r s d (stp gl s.e (hget s.h) s.nx (.mest x0 x1 x2)) := rvc_step rfl
@[simp] theorem rg_mest {x0 x1 x2} : rvc P gl K (⟨d, some (t, w), (.mest x0 x1 x2)⟩ :: r) s = rgnext P gl K r s d (gval s.e t w) (stp gl s.e (hget s.h) s.nx (.mest x0 x1 x2)) := rvc_gstep rfl
@[simp] theorem d_mest {x0 x1 x2} : dvc P gl n1 pr K (⟨d, none, (.mest x0 x1 x2)⟩ :: r) acc s = dnext P gl n1 pr K r acc s d (stp gl s.e (hget s.h) s.nx (.mest x0 x1 x2)) := dvc_step rfl
@[simp] theorem dg_mest {x0 x1 x2} : dvc P gl n1 pr K (⟨d, some (t, w), (.mest x0 x1 x2)⟩ :: r) acc s = dgnext P gl n1 pr K r acc s d (gval s.e t w) (stp gl s.e (hget s.h) s.nx (.mest x0 x1 x2)) := dvc_gstep rfl
@[simp] theorem r_mlen {x0} : rvc P gl K (⟨d, none, (.mlen x0)⟩ :: r) s = rnext P gl K r s d (stp gl s.e (hget s.h) s.nx (.mlen x0)) := rvc_step rfl
@[simp] theorem rg_mlen {x0} : rvc P gl K (⟨d, some (t, w), (.mlen x0)⟩ :: r) s = rgnext P gl K r s d (gval s.e t w) (stp gl s.e (hget s.h) s.nx (.mlen x0)) := rvc_gstep rfl
@[simp] theorem d_mlen {x0} : dvc P gl n1 pr K (⟨d, none, (.mlen x0)⟩ :: r) acc s = dnext P gl n1 pr K r acc s d (stp gl s.e (hget s.h) s.nx (.mlen x0)) := dvc_step rfl
@[simp] theorem dg_mlen {x0} : dvc P gl n1 pr K (⟨d, some (t, w), (.mlen x0)⟩ :: r) acc s = dgnext P gl n1 pr K r acc s d (gval s.e t w) (stp gl s.e (hget s.h) s.nx (.mlen x0)) := dvc_gstep rfl
@[simp] theorem r_callf {x0 x1} : rvc P gl K (⟨d, none, (.callf x0 x1)⟩ :: r) s = rcall P gl K r s d (evCall gl s.e (.callf x0 x1)) := rvc_call rfl
@[simp] theorem rg_callf {x0 x1} : rvc P gl K (⟨d, some (t, w), (.callf x0 x1)⟩ :: r) s = rgcall P gl K r s d (gval s.e t w) (evCall gl s.e (.callf x0 x1)) := rvc_gcall rfl rfl
@[simp] theorem d_callf {x0 x1} : dvc P gl n1 pr K (⟨d, none, (.callf x0 x1)⟩ :: r) acc s = dcall P gl n1 pr K r acc s d (evCall gl s.e (.callf x0 x1)) := dvc_call rfl
@[simp] theorem dg_callf {x0 x1} : dvc P gl n1 pr K (⟨d, some (t, w), (.callf x0 x1)⟩ :: r) acc s = dgcall P gl n1 pr K r acc s d (gval s.e t w) (evCall gl s.e (.callf x0 x1)) := dvc_gcall rfl
@[simp] theorem r_callt {x0 x1} : rvc P gl K (⟨d, none, (.callt x0 x1)⟩ :: r) s = rcall P gl K r s d (evCall gl s.e (.callt x0 x1)) := rvc_call rfl
@[simp] theorem rg_callt {x0 x1} : rvc P gl K (⟨d, some (t, w), (.callt x0 x1)⟩ :: r) s = rtcall P gl K r s d (gval s.e t w) (evCall gl s.e (.callt x0 x1)) := rvc_tcall rfl
@[simp] theorem d_callt {x0 x1} : dvc P gl n1 pr K (⟨d, none, (.callt x0 x1)⟩ :: r) acc s = dcall P gl n1 pr K r acc s d (evCall gl s.e (.callt x0 x1)) := dvc_call rfl
@[simp] theorem dg_callt {x0 x1} : dvc P gl n1 pr K (⟨d, some (t, w), (.callt x0 x1)⟩ :: r) acc s = dgcall P gl n1 pr K r acc s d (gval s.e t w) (evCall gl s.e (.callt x0 x1)) := dvc_gcall rfl
@[simp] theorem r_callr {x0 x1} : rvc P gl K (⟨d, none, (.callr x0 x1)⟩ :: r) s = rcall P gl K r s d (evCall gl s.e (.callr x0 x1)) := rvc_call rfl
@[simp] theorem rg_callr {x0 x1} : rvc P gl K (⟨d, some (t, w), (.callr x0 x1)⟩ :: r) s = rgcall P gl K r s d (gval s.e t w) (evCall gl s.e (.callr x0 x1)) := rvc_gcall rfl rfl
@[simp] theorem d_callr {x0 x1} : dvc P gl n1 pr K (⟨d, none, (.callr x0 x1)⟩ :: r) acc s = dcall P gl n1 pr K r acc s d (evCall gl s.e (.callr x0 x1)) := dvc_call rfl
@[simp] theorem dg_callr {x0 x1} : dvc P gl n1 pr K (⟨d, some (t, w), (.callr x0 x1)⟩ :: r) acc s = dgcall P gl n1 pr K r acc s d (gval s.e t w) (evCall gl s.e (.callr x0 x1)) := dvc_gcall rfl
@[simp] theorem r_callv {x0 x1} : rvc P gl K (⟨d, none, (.callv x0 x1)⟩ :: r) s = rcall P gl K r s d (evCall gl s.e (.callv x0 x1)) := rvc_call rfl
@[simp] theorem rg_callv {x0 x1} : rvc P gl K (⟨d, some (t, w), (.callv x0 x1)⟩ :: r) s = rgcall P gl K r s d (gval s.e t w) (evCall gl s.e (.callv x0 x1)) := rvc_gcall rfl rfl
@[simp] theorem d_callv {x0 x1} : dvc P gl n1 pr K (⟨d, none, (.callv x0 x1)⟩ :: r) acc s = dcall P gl n1 pr K r acc s d (evCall gl s.e (.callv x0 x1)) := dvc_call rfl
@[simp] theorem dg_callv {x0 x1} : dvc P gl n1 pr K (⟨d, some (t, w), (.callv x0 x1)⟩ :: r) acc s = dgcall P gl n1 pr K r acc s d (gval s.e t w) (evCall gl s.e (.callv x0 x1)) := dvc_gcall rfl
end
attribute [simp] ok_gd
attribute [simp high] stp_land stp_lor stp_pick
@[simp] theorem ok_pv {p : PV} : DV.ok (.pv p) = True := rfl
@[simp] theorem ok_agg {c : List DV} : DV.ok (.agg c) = True := rfl
@[simp] theorem ok_tup {c : List DV} : DV.ok (.tup c) = True := rfl
@[simp] theorem ok_nilS {n : Nat} : DV.ok (.nilS n) = True := rfl
@[simp] theorem ok_flit {n : Nat} {x : List PV} : DV.ok (.flit n x) = True := rfl
@[simp] theorem ok_own {i n : Nat} {x : List PV} : DV.ok (.own i n x) = True := rfl
@[simp] theorem ok_mrow {i a b c : Nat} : DV.ok (.mrow i a b c) = True := rfl
@[simp] theorem ok_ptr {i a : Nat} : DV.ok (.ptr i a) = True := rfl
@[simp] theorem ok_eptr {c : List PV} : DV.ok (.eptr c) = True := rfl
@[simp] theorem ok_nilP : DV.ok (.nilP) = True := rfl
@[simp] theorem ok_fn {f : Fn} {a c : List DV} : DV.ok (.fn f a c) = True := rfl
@[simp] theorem ok_nilF : DV.ok (.nilF) = True := rfl
@[simp] theorem ok_mref {i : Nat} : DV.ok (.mref i) = True := rfl
@[simp] theorem ok_stmp {i a : Nat} : DV.ok (.stmp i a) = True := rfl
@[simp] theorem ok_nilM : DV.ok (.nilM) = True := rfl
@[simp] theorem ok_ifc {t : TypeId} {d : DV} : DV.ok (.ifc t d) = True := rfl
@[simp] theorem ok_nilI : DV.ok (.nilI) = True := rfl
@[simp] theorem ok_junk : DV.ok (.junk) = True := rfl
@[simp] theorem dcells_0 {cs : List PV} : dcells (.pv (.agg cs)) = cs.map .pv := rfl
@[simp] theorem dcells_1 {k : IntKind} {n : Int} : dcells (.pv (.int k n)) = [.pv (.int k n)] := rfl
@[simp] theorem dcells_2 {b : Bool} : dcells (.pv (.bool b)) = [.pv (.bool b)] := rfl
@[simp] theorem dcells_3 {s : ByteArray} : dcells (.pv (.str s)) = [.pv (.str s)] := rfl
@[simp] theorem dcells_4 {k : Nat} {x : List PV} : dcells (.pv (.lst k x)) = [.pv (.lst k x)] := rfl
@[simp] theorem dcells_5 {n : Nat} : dcells (.nilS n) = [.nilS n] := rfl
@[simp] theorem dcells_6 {n : Nat} {x : List PV} : dcells (.flit n x) = [.flit n x] := rfl
@[simp] theorem dcells_7 {i n : Nat} {x : List PV} : dcells (.own i n x) = [.own i n x] := rfl
@[simp] theorem dcells_8 {i a b c : Nat} : dcells (.mrow i a b c) = [.mrow i a b c] := rfl
@[simp] theorem dcells_9 {i a : Nat} : dcells (.ptr i a) = [.ptr i a] := rfl
@[simp] theorem dcells_10 {c : List PV} : dcells (.eptr c) = [.eptr c] := rfl
@[simp] theorem dcells_11  : dcells (.nilP) = [.nilP] := rfl
@[simp] theorem dcells_12 {f : Fn} {a c : List DV} : dcells (.fn f a c) = [.fn f a c] := rfl
@[simp] theorem dcells_13  : dcells (.nilF) = [.nilF] := rfl
@[simp] theorem dcells_14 {i : Nat} : dcells (.mref i) = [.mref i] := rfl
@[simp] theorem dcells_15  : dcells (.nilM) = [.nilM] := rfl
@[simp] theorem dcells_16 {t : TypeId} {d : DV} : dcells (.ifc t d) = [.ifc t d] := rfl
@[simp] theorem dcells_17  : dcells (.nilI) = [.nilI] := rfl
@[simp] theorem dcells_18 {cs : List DV} : dcells (.agg cs) = cs := rfl
@[simp] theorem isAg_0 {cs : List PV} : DV.isAg (.pv (.agg cs)) = true := rfl
@[simp] theorem isAg_1 {cs : List DV} : DV.isAg (.agg cs) = true := rfl
@[simp] theorem one_0 {cs : List PV} : PV.one (.agg cs) = false := rfl
@[simp] theorem one_1 {k : IntKind} {n : Int} : PV.one (.int k n) = true := rfl
@[simp] theorem one_2 {b : Bool} : PV.one (.bool b) = true := rfl
@[simp] theorem one_3 {b : ByteArray} : PV.one (.str b) = true := rfl
@[simp] theorem one_4 {k : Nat} {x : List PV} : PV.one (.lst k x) = true := rfl
def bandI (k : IntKind) (x y : Int) : Int := k.wrap (BitVec.ofInt k.bits x &&& BitVec.ofInt k.bits y).toNat
def borI (k : IntKind) (x y : Int) : Int := k.wrap (BitVec.ofInt k.bits x ||| BitVec.ofInt k.bits y).toNat
def bxorI (k : IntKind) (x y : Int) : Int := k.wrap (BitVec.ofInt k.bits x ^^^ BitVec.ofInt k.bits y).toNat
def bandNotI (k : IntKind) (x y : Int) : Int := k.wrap (BitVec.ofInt k.bits x &&& ~~~ BitVec.ofInt k.bits y).toNat
def shlI (k : IntKind) (x y : Int) : Int := k.wrap (x * 2 ^ (min y.toNat k.bits))
@[simp] theorem arith_add {k : IntKind} {x y : Int} : arith .add k x y = some (k.wrap (x + y), True) := rfl
@[simp] theorem arith_sub {k : IntKind} {x y : Int} : arith .sub k x y = some (k.wrap (x - y), True) := rfl
@[simp] theorem arith_mul {k : IntKind} {x y : Int} : arith .mul k x y = some (k.wrap (x * y), True) := rfl
@[simp] theorem arith_quo {k : IntKind} {x y : Int} : arith .quo k x y = some (k.wrap (x.tdiv y), y ≠ 0) := rfl
@[simp] theorem arith_rem {k : IntKind} {x y : Int} : arith .rem k x y = some (x.tmod y, y ≠ 0) := rfl
@[simp] theorem arith_and {k : IntKind} {x y : Int} : arith .and k x y = some (bandI k x y, True) := rfl
@[simp] theorem arith_or {k : IntKind} {x y : Int} : arith .or k x y = some (borI k x y, True) := rfl
@[simp] theorem arith_xor {k : IntKind} {x y : Int} : arith .xor k x y = some (bxorI k x y, True) := rfl
@[simp] theorem arith_andNot {k : IntKind} {x y : Int} : arith .andNot k x y = some (bandNotI k x y, True) := rfl
@[simp] theorem arith_shl {k : IntKind} {x y : Int} : arith .shl k x y = some (shlI k x y, 0 ≤ y) := rfl
@[simp] theorem arith_shr {k : IntKind} {x y : Int} : arith .shr k x y = some (x.fdiv (2 ^ (min y.toNat k.bits)), 0 ≤ y) := rfl
attribute [simp] eput keys clash ordered pget stp_mov stp_un stp_bin stp_beq stp_isnil stp_conv stp_idc stp_b2s stp_alloc stp_box stp_build stp_lit stp_litm stp_load stp_store stp_nilc stp_fad stp_fld stp_iad stp_iada stp_ixs stp_mkf stp_mkm stp_mks stp_mkz stp_mkc stp_bad stp_ceq stp_cut stp_cut3 stp_cuts stp_ext stp_lens stp_len stp_mx stp_mn stp_app stp_appm stp_look stp_mup stp_ment stp_mest stp_mlen evs ev eget hget hset upd DV.strip gvd gval_eq evCall evFn evAll DV.norm toPV toPV1 toPVs toPVall icmp sop bin un isNil at_ take_ setFrom fillz elems mkAgg pvs glget
  evInt evLo evHi DV.bel Kp.st Kp.ok kslots kobs envNm heapNm ownOf gst rget rgets Rv.out DV.cold retv argEnv Done DoneH renH dropH sameH rh Ob.ren DV.nm_pv DV.nm_own DV.nm_ptr DV.nm_mrow DV.nm_mref DV.nm_eptr DV.nm_flit DV.nm_junk DV.nm_agg DV.nm_tup DV.nm_fn evFn
@[simp] theorem obnm_box {p : Nat → Prop} {cs : List DV} : (Ob.box cs).nm p = ∀ c ∈ cs, c.nm p := rfl
@[simp] theorem obnm_mp {p : Nat → Prop} {es : List (PV × DV)} : (Ob.mp es).nm p = ∀ x ∈ es, x.2.nm p := rfl
@[simp] theorem obnm_tip {p : Nat → Prop} {a b : Nat} : (Ob.tip a b).nm p = True := rfl
@[simp] theorem obnm_lrec {p : Nat → Prop} {l : Nat} {r : LRec} {st : Option Code} {e : Env} : (Ob.lrec l r st e).nm p = ∀ i d, eget e i = some d → d.nm p := rfl
@[simp] theorem cells_agg {cs : List PV} : (PV.agg cs).cells = cs := rfl
@[simp] theorem cells_int {k : IntKind} {n : Int} : (PV.int k n).cells = [.int k n] := rfl
@[simp] theorem cells_bool {b : Bool} : (PV.bool b).cells = [.bool b] := rfl
@[simp] theorem cells_str {b : ByteArray} : (PV.str b).cells = [.str b] := rfl
@[simp] theorem cells_lst {k : Nat} {xs : List PV} : (PV.lst k xs).cells = [.lst k xs] := rfl
theorem nth_map {α : Type} {f : α → PV} {l : List α} {i : Int} (h0 : 0 ≤ i) (h1 : i.toNat < l.length) : nth (l.map f) i = f l[i.toNat] := by
  simp [nth, h1]
theorem nth_map_nat {α : Type} {f : α → PV} {l : List α} {i : Nat} (h1 : i < l.length) : nth (l.map f) i = f l[i] := by
  simp [nth, h1]
theorem wrap_id {k : IntKind} {n : Int} (h0 : k.min ≤ n) (h1 : n ≤ k.max) : k.wrap n = n := by
  cases k <;> simp only [IntKind.min, IntKind.max, IntKind.signed, IntKind.bits, if_true, Bool.false_eq_true, if_false] at h0 h1 <;> simp only [IntKind.wrap, IntKind.signed, IntKind.bits, if_true, Bool.false_eq_true, if_false] <;> simp [Int.bmod] <;> omega
attribute [simp] PV.wf_int PV.wf_bool PV.wf_str PV.wf_lst PV.wf_agg DV.wf DV.wf1 nm_nilS nm_nilP nm_nilF nm_nilM nm_nilI nm_gd
end Go.Proofs.YthocoandbiaoiaaDoorV
