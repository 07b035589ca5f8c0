/- Packed: Ia Ci Cj Pb Ck Cl Cm Pc Cn Co Cp Cq Cr Td Pd -/
import Derived.Test.YteiampdhhigjcaaDoorChk1
import Derived.Test.YteiampdhhigjcaaDoorProg
set_option linter.all false
/- Calls that keep the objects' numbers; visits that may stop. -/
namespace Go.Proofs.YteiampdhhigjcaaDoorV
open Go

theorem DV.ren_id {n : Nat} {ρ : Nat → Nat} (hρ : ∀ i, i < n → ρ i = i) : ∀ d : DV, (d.nm fun i => i < n) → d.ren ρ = d
  | .own id _ _, h | .mrow id _ _ _, h | .ptr id _, h | .mref id, h | .stmp id _, h => by rw [DV.nm] at h; rw [DV.ren, hρ _ h]
  | .agg cs, h => by
    rw [DV.nm_agg] at h; rw [ren_agg]
    congr 1
    exact (List.map_congr_left fun c hc => DV.ren_id hρ c (h c hc)).trans (List.map_id' _)
  | .tup cs, h => by
    rw [DV.nm_tup] at h; rw [ren_tup]
    congr 1
    exact (List.map_congr_left fun c hc => DV.ren_id hρ c (h c hc)).trans (List.map_id' _)
  | .fn f a b, h => by
    rw [DV.nm_fn] at h; rw [ren_fn]
    congr 1
    · exact (List.map_congr_left fun c hc => DV.ren_id hρ c (h.1 c hc)).trans (List.map_id' _)
    · exact (List.map_congr_left fun c hc => DV.ren_id hρ c (h.2 c hc)).trans (List.map_id' _)
  | .ifc t d, h => by rw [DV.nm] at h; rw [ren_ifc, DV.ren_id hρ d h]
  | .gd b d, h => by rw [DV.nm] at h; rw [ren_gd, DV.ren_id hρ d h]
  | .pv _, _ | .nilS _, _ | .flit _ _, _ | .eptr _, _ | .nilP, _ | .nilF, _ | .nilM, _ | .nilI, _ | .junk, _ => by simp
termination_by d => SizeOf.sizeOf d
decreasing_by all_goals (first | (have := List.sizeOf_lt_of_mem hc; simp_wf; omega) | (simp_wf; omega) | simp_wf)

/-- All objects that it names are below n. -/
def Ob.bel (n : Nat) : Ob → Prop
  | .box cs => ∀ c ∈ cs, c.nm fun i => i < n
  | .mp es => ∀ x ∈ es, x.2.nm fun i => i < n
  | .lrec _ _ _ e => ∀ x ∈ e, x.2.nm fun i => i < n
  | .tip _ _ => True
theorem Ob.ren_id {n : Nat} {ρ : Nat → Nat} (hρ : ∀ i, i < n → ρ i = i) {o : Ob} (h : o.bel n) : o.ren ρ = o := by
  cases o with
  | box cs => simp only [Ob.ren]; congr 1; exact (List.map_congr_left fun c hc => DV.ren_id hρ c (h c hc)).trans (List.map_id' _)
  | tip _ _ => rfl
  | mp es => simp only [Ob.ren]; congr 1; exact (List.map_congr_left fun c hc => by rw [DV.ren_id hρ _ (h c hc)]).trans (List.map_id' _)
  | lrec l r st e => simp only [Ob.ren]; congr 1; exact (List.map_congr_left fun c hc => by rw [DV.ren_id hρ _ (h c hc)]).trans (List.map_id' _)

def heapBel (n : Nat) (H : Heap) : Prop := ∀ x ∈ H, x.1 < n ∧ x.2.bel n
theorem rh_range {n nx i : Nat} (h : i < n) : rh (List.range n) nx i = i := by simp [rh, h]
theorem renH_id {n nx : Nat} : ∀ {H : Heap}, heapBel n H → renH (List.range n) nx H = H
  | [], _ => rfl
  | (i, o) :: r, h => by
    have h0 := h (i, o) (.head _)
    rw [renH, rh_range h0.1, Ob.ren_id (fun i hi => rh_range hi) h0.2, renH_id fun x hx => h x (.tail _ hx)]
theorem sameH_id {n nx : Nat} {h : Heap} : ∀ {H : Heap}, heapBel n H → (∀ x ∈ H, hget h x.1 = some x.2) → sameH (List.range n) nx h H
  | [], _, _ => trivial
  | (i, o) :: r, hb, hs => by
    have h0 := hb (i, o) (.head _)
    refine ⟨?_, sameH_id (fun x hx => hb x (.tail _ hx)) fun x hx => hs x (.tail _ hx)⟩
    rw [rh_range h0.1, Ob.ren_id (fun i hi => rh_range hi) h0.2]
    exact hs _ (.head _)
/-- A call that is handed the objects below n, under their own numbers. -/
theorem CallNext.same {P : Program} {gl : Glob} {f : Fn} {ds : List DV} {s : St} {dst : Option Nat} {K : St → Prop} (n : Nat) {H H' : Heap} {d : DV} (h : ACall P gl f n ds H d H' n) (hn : n ≤ s.nx) (hb : heapBel n H) (hb' : heapBel n H')
    (hs : ∀ x ∈ H, hget s.h x.1 = some x.2) (hk : d.wf → K ⟨eput s.e dst d, H' ++ dropH (List.range n) s.h, s.nx⟩) : CallNext P gl f ds s dst K := by
  have hlen : (List.range n).length = n := by simp
  have hd : d.ren (rh (List.range n) s.nx) = d := DV.ren_id (fun i hi => rh_range hi) d h.res
  refine CallNext.obs (List.range n) (ds0 := ds) (H := H) (H' := H') (d := d) (n' := n) (by rw [hlen]; exact h) List.nodup_range (fun i hi => by have := List.mem_range.1 hi; omega) ?_ (sameH_id hb hs) fun hw => ?_
  · exact (List.map_congr_left fun c hc => DV.ren_id (fun i hi => rh_range hi) c (h.args c hc)).trans (List.map_id' _)
  · rw [hd] at hw ⊢
    rw [renH_id hb', hlen, Nat.sub_self, Nat.add_zero]
    exact hk hw

theorem DCallNext.obs' {P : Program} {gl : Glob} {n1 : Nat} {pr : List (List Nat)} {K : St → Prop} {r : List Ins} {acc : Rl} {s : St} {dst : Option Nat} {f : FuncId} {ds : List DV} (ρ : List Nat) {ds0 : List DV} {H H' : Heap} {d : DV} {n' : Nat} (h : ACall P gl (.func f) ρ.length ds0 H d H' n')
    (hdom : (List.range ρ.length).all (fun i => (hget H i).isSome && (hget H' i).isSome) = true) (hnd : ρ.Nodup) (hn : n' ≤ ρ.length + 1)
    (hds : ds0.map (·.ren (rh ρ s.nx)) = ds) (hnd' : (H'.map (·.1)).Nodup) (hs : sameH ρ s.nx s.h H)
    (hk : dvc P gl n1 pr K r ((H'.map fun x => rh ρ s.nx x.1, ρ) :: acc) ⟨eput s.e dst (d.ren (rh ρ s.nx)), upd s.h (renH ρ s.nx H'), s.nx + 1⟩) : DCallNext P gl n1 pr K r acc s dst (.func f) ds :=
  DCallNext.obs ρ h hnd hn hds (fun i hi => by have := List.all_eq_true.1 hdom i (List.mem_range.2 hi); simpa using this) hnd' hs hk
/-- A visit of nodes, one by one, that may stop. -/
def stopF {σ : Type} (f : σ → Tm → σ × Bool) : σ → List Tm → σ × Bool
  | s, [] => (s, true)
  | s, t :: r => if (f s t).2 then stopF f (f s t).1 r else ((f s t).1, false)
theorem stopF_append {σ : Type} (f : σ → Tm → σ × Bool) (s : σ) (a b : List Tm) : stopF f s (a ++ b) = if (stopF f s a).2 then stopF f (stopF f s a).1 b else ((stopF f s a).1, false) := by
  induction a generalizing s with
  | nil => simp [stopF]
  | cons t r ih =>
    simp only [List.cons_append, stopF]
    by_cases h : (f s t).2 = true
    · simp only [h, if_true, ih]
    · simp [h]
theorem Tm.preL_drop {l : List Tm} {i : Nat} (h : i < l.length) : Tm.preL (l.drop i) = (gt l i).pre ++ Tm.preL (l.drop (i + 1)) := by
  rw [List.drop_eq_getElem_cons h, Tm.preL, gt_nat h]
end Go.Proofs.YteiampdhhigjcaaDoorV

/- Contracts: layer 2 of the program: visits of nodes. -/
namespace Go.Proofs.YteiampdhhigjcaaDoorV
open Go
set_option maxRecDepth 100000
set_option maxHeartbeats 4000000

/-- How a round is left. -/
def ndC (c0 : Code) (go : Bool) : Option Code := if go then none else some c0
section
variable (gl : Glob) {σ : Type} (f : σ → Tm → σ × Bool) (l : Nat) (R : LRec) (e0 : Env) (c0 : Code) (o0 o1 o2 : σ → Ob)
  (h0 : ∀ s, (o0 s).bel 4) (h1 : ∀ s, (o1 s).bel 4) (h2 : ∀ s, (o2 s).bel 4) (he : ∀ x ∈ e0, x.2.nm fun i => i < 4)
  (k0 : ∀ s, (o0 s).nm fun i => i < 4) (k1 : ∀ s, (o1 s).nm fun i => i < 4) (k2 : ∀ s, (o2 s).nm fun i => i < 4) (he' : ∀ (i : Nat) (d : DV), eget e0 i = some d → d.nm fun i => i < 4)
  (hr : ∀ s t, ACall Tryd.prog gl (.yield l) 4 [.pv t.pv] [(3, .lrec l R none e0), (0, o0 s), (1, o1 s), (2, o2 s)] (.pv (.bool (f s t).2)) [(3, .lrec l R (ndC c0 (f s t).2) e0), (0, o0 (f s t).1), (1, o1 (f s t).1), (2, o2 (f s t).1)] 4)
include h0 h1 h2 he k0 k1 k2 he' hr
theorem p_term_visit (n : Nat) : ∀ (t : Tm) (s : σ), SizeOf.sizeOf t < n →
    ACall Tryd.prog gl (.func 80) 4 [.pv t.pv, .fn (.yield l) [] []] [(3, .lrec l R none e0), (0, o0 s), (1, o1 s), (2, o2 s)] (.pv (.bool (stopF f s t.pre).2)) [(3, .lrec l R (ndC c0 (stopF f s t.pre).2) e0), (0, o0 (stopF f s t.pre).1), (1, o1 (stopF f s t.pre).1), (2, o2 (stopF f s t.pre).1)] 4 := by
  induction n with
  | zero => intro t s h; omega
  | succ n ih =>
  intro t s hn
  have hnmH : ∀ (st : Option Code) (s : σ), heapNm 4 [(3, .lrec l R st e0), (0, o0 s), (1, o1 s), (2, o2 s)] := fun st s => ⟨by omega, he', by omega, k0 s, by omega, k1 s, by omega, k2 s, trivial⟩
  have hbH : ∀ (st : Option Code) (s : σ), heapBel 4 [(3, .lrec l R st e0), (0, o0 s), (1, o1 s), (2, o2 s)] := fun st s x hx => by
    simp at hx; rcases hx with rfl | rfl | rfl | rfl
    · exact ⟨by simp, he⟩
    · exact ⟨by simp, h0 s⟩
    · exact ⟨by simp, h1 s⟩
    · exact ⟨by simp, h2 s⟩
  refine k_term_visit.acall (by simp) (by omega) (by simp) (hnmH _ _) (by simp) (hnmH _ _) fun hwf => ?_
  have hb := Tm.wf_sub (t := t) (by have := hwf (.pv t.pv) (by simp); simpa using this)
  have hnd : t.pre = t :: Tm.preL t.sub := t.pre_eq
  simp [c_term_visit]
  refine CallNext.same 4 (hr s t) (by simp) (hbH _ _) (hbH _ _) (by simp) fun _ => ?_
  simp
  rw [hnd, stopF]
  refine ⟨fun h => ?_, fun h => ?_⟩
  · simp [h]
    exact ⟨[3, 0, 1, 2], by simp⟩
  · have g0 : ∀ s, (o0 s).nm fun i => i < 5 := fun s => Ob.nm_mono (fun _ h => by omega) (k0 s)
    have g1 : ∀ s, (o1 s).nm fun i => i < 5 := fun s => Ob.nm_mono (fun _ h => by omega) (k1 s)
    have g2 : ∀ s, (o2 s).nm fun i => i < 5 := fun s => Ob.nm_mono (fun _ h => by omega) (k2 s)
    have ge : ∀ (i : Nat) (d : DV), eget e0 i = some d → d.nm fun i => i < 5 := fun i d h => DV.nm_mono (fun _ h => by omega) d (he' i d h)
    simp [h, ndC]
    refine Loop.intro (fun x : Nat × σ => { e := [(1, .fn (.yield l) [] []), (12, .pv (.lst 6 (t.sub.map Tm.pv))), (13, .pv (.int .i64 t.sub.length)), (14, .pv (.int .i64 x.1))], h := [(0, o0 x.2), (1, o1 x.2), (2, o2 x.2), (3, .lrec l R none e0), (4, t.bx)], nx := 5 }) (fun x => t.sub.length - x.1)
      (fun x => x.1 ≤ t.sub.length ∧ stopF f x.2 (Tm.preL (t.sub.drop x.1)) = stopF f (f s t).1 (Tm.preL t.sub)) (0, (f s t).1) (by simp [g0, g1, g2]; exact ge) (by simp) (by simp [Tm.bx]) fun x hx => ?_
    obtain ⟨i, s'⟩ := x
    obtain ⟨hi, hinv⟩ := hx
    simp only at hi hinv
    by_cases hlt : i < t.sub.length
    · rw [Tm.preL_drop hlt, stopF_append] at hinv
      simp [hlt, Tm.bx]
      refine CallNext.same 4 (ih (gt t.sub i) s' (by have := Tm.size_gt hlt; omega)) (by simp) (hbH _ _) (hbH _ _) (by simp) fun _ => ?_
      simp [hlt, wrap_nat (show (0:Int) ≤ i + 1 by omega) (by omega)]
      refine ⟨fun hg => ?_, fun hg => ?_⟩
      · rw [if_neg (by simp [hg])] at hinv
        simp [← hinv, hg, ndC]
        exact ⟨[3, 0, 1, 2], by simp⟩
      · rw [if_pos hg] at hinv
        simp [hg, ndC, g0, g1, g2]
        exact ⟨ge, i + 1, _, ⟨by omega, hinv⟩, by omega, by omega, rfl, rfl, rfl⟩
    · obtain rfl : i = t.sub.length := by omega
      rw [List.drop_length, Tm.preL, stopF] at hinv
      simp [hlt, ← hinv, ndC]
      exact ⟨[3, 0, 1, 2], by simp⟩
end
section
variable (gl : Glob) {σ : Type} (f : σ → Tm → σ × Bool) (l : Nat) (R : LRec) (e0 : Env) (c0 : Code) (o0 o1 o2 o3 o4 o5 : σ → Ob)
  (h0 : ∀ s, (o0 s).bel 7) (h1 : ∀ s, (o1 s).bel 7) (h2 : ∀ s, (o2 s).bel 7) (h3 : ∀ s, (o3 s).bel 7) (h4 : ∀ s, (o4 s).bel 7) (h5 : ∀ s, (o5 s).bel 7) (he : ∀ x ∈ e0, x.2.nm fun i => i < 7)
  (k0 : ∀ s, (o0 s).nm fun i => i < 7) (k1 : ∀ s, (o1 s).nm fun i => i < 7) (k2 : ∀ s, (o2 s).nm fun i => i < 7) (k3 : ∀ s, (o3 s).nm fun i => i < 7) (k4 : ∀ s, (o4 s).nm fun i => i < 7) (k5 : ∀ s, (o5 s).nm fun i => i < 7) (he' : ∀ (i : Nat) (d : DV), eget e0 i = some d → d.nm fun i => i < 7)
  (hr : ∀ s t, ACall Tryd.prog gl (.yield l) 7 [.pv t.pv] [(6, .lrec l R none e0), (0, o0 s), (1, o1 s), (2, o2 s), (3, o3 s), (4, o4 s), (5, o5 s)] (.pv (.bool (f s t).2)) [(6, .lrec l R (ndC c0 (f s t).2) e0), (0, o0 (f s t).1), (1, o1 (f s t).1), (2, o2 (f s t).1), (3, o3 (f s t).1), (4, o4 (f s t).1), (5, o5 (f s t).1)] 7)
include h0 h1 h2 h3 h4 h5 he k0 k1 k2 k3 k4 k5 he' hr
theorem p_term_visitB (n : Nat) : ∀ (t : Tm) (s : σ), SizeOf.sizeOf t < n →
    ACall Tryd.prog gl (.func 80) 7 [.pv t.pv, .fn (.yield l) [] []] [(6, .lrec l R none e0), (0, o0 s), (1, o1 s), (2, o2 s), (3, o3 s), (4, o4 s), (5, o5 s)] (.pv (.bool (stopF f s t.pre).2)) [(6, .lrec l R (ndC c0 (stopF f s t.pre).2) e0), (0, o0 (stopF f s t.pre).1), (1, o1 (stopF f s t.pre).1), (2, o2 (stopF f s t.pre).1), (3, o3 (stopF f s t.pre).1), (4, o4 (stopF f s t.pre).1), (5, o5 (stopF f s t.pre).1)] 7 := by
  induction n with
  | zero => intro t s h; omega
  | succ n ih =>
  intro t s hn
  have hnmH : ∀ (st : Option Code) (s : σ), heapNm 7 [(6, .lrec l R st e0), (0, o0 s), (1, o1 s), (2, o2 s), (3, o3 s), (4, o4 s), (5, o5 s)] := fun st s => ⟨by omega, he', by omega, k0 s, by omega, k1 s, by omega, k2 s, by omega, k3 s, by omega, k4 s, by omega, k5 s, trivial⟩
  have hbH : ∀ (st : Option Code) (s : σ), heapBel 7 [(6, .lrec l R st e0), (0, o0 s), (1, o1 s), (2, o2 s), (3, o3 s), (4, o4 s), (5, o5 s)] := fun st s x hx => by
    simp at hx; rcases hx with rfl | rfl | rfl | rfl | rfl | rfl | rfl
    · exact ⟨by simp, he⟩
    · exact ⟨by simp, h0 s⟩
    · exact ⟨by simp, h1 s⟩
    · exact ⟨by simp, h2 s⟩
    · exact ⟨by simp, h3 s⟩
    · exact ⟨by simp, h4 s⟩
    · exact ⟨by simp, h5 s⟩
  refine k_term_visit_B.acall (by simp) (by omega) (by simp) (hnmH _ _) (by simp) (hnmH _ _) fun hwf => ?_
  have hb := Tm.wf_sub (t := t) (by have := hwf (.pv t.pv) (by simp); simpa using this)
  have hnd : t.pre = t :: Tm.preL t.sub := t.pre_eq
  simp [c_term_visit_B]
  refine CallNext.same 7 (hr s t) (by simp) (hbH _ _) (hbH _ _) (by simp) fun _ => ?_
  simp
  rw [hnd, stopF]
  refine ⟨fun h => ?_, fun h => ?_⟩
  · simp [h]
    exact ⟨[6, 0, 1, 2, 3, 4, 5], by simp⟩
  · have g0 : ∀ s, (o0 s).nm fun i => i < 8 := fun s => Ob.nm_mono (fun _ h => by omega) (k0 s)
    have g1 : ∀ s, (o1 s).nm fun i => i < 8 := fun s => Ob.nm_mono (fun _ h => by omega) (k1 s)
    have g2 : ∀ s, (o2 s).nm fun i => i < 8 := fun s => Ob.nm_mono (fun _ h => by omega) (k2 s)
    have g3 : ∀ s, (o3 s).nm fun i => i < 8 := fun s => Ob.nm_mono (fun _ h => by omega) (k3 s)
    have g4 : ∀ s, (o4 s).nm fun i => i < 8 := fun s => Ob.nm_mono (fun _ h => by omega) (k4 s)
    have g5 : ∀ s, (o5 s).nm fun i => i < 8 := fun s => Ob.nm_mono (fun _ h => by omega) (k5 s)
    have ge : ∀ (i : Nat) (d : DV), eget e0 i = some d → d.nm fun i => i < 8 := fun i d h => DV.nm_mono (fun _ h => by omega) d (he' i d h)
    simp [h, ndC]
    refine Loop.intro (fun x : Nat × σ => { e := [(1, .fn (.yield l) [] []), (12, .pv (.lst 6 (t.sub.map Tm.pv))), (13, .pv (.int .i64 t.sub.length)), (14, .pv (.int .i64 x.1))], h := [(0, o0 x.2), (1, o1 x.2), (2, o2 x.2), (3, o3 x.2), (4, o4 x.2), (5, o5 x.2), (6, .lrec l R none e0), (7, t.bx)], nx := 8 }) (fun x => t.sub.length - x.1)
      (fun x => x.1 ≤ t.sub.length ∧ stopF f x.2 (Tm.preL (t.sub.drop x.1)) = stopF f (f s t).1 (Tm.preL t.sub)) (0, (f s t).1) (by simp [g0, g1, g2, g3, g4, g5]; exact ge) (by simp) (by simp [Tm.bx]) fun x hx => ?_
    obtain ⟨i, s'⟩ := x
    obtain ⟨hi, hinv⟩ := hx
    simp only at hi hinv
    by_cases hlt : i < t.sub.length
    · rw [Tm.preL_drop hlt, stopF_append] at hinv
      simp [hlt, Tm.bx]
      refine CallNext.same 7 (ih (gt t.sub i) s' (by have := Tm.size_gt hlt; omega)) (by simp) (hbH _ _) (hbH _ _) (by simp) fun _ => ?_
      simp [hlt, wrap_nat (show (0:Int) ≤ i + 1 by omega) (by omega)]
      refine ⟨fun hg => ?_, fun hg => ?_⟩
      · rw [if_neg (by simp [hg])] at hinv
        simp [← hinv, hg, ndC]
        exact ⟨[6, 0, 1, 2, 3, 4, 5], by simp⟩
      · rw [if_pos hg] at hinv
        simp [hg, ndC, g0, g1, g2, g3, g4, g5]
        exact ⟨ge, i + 1, _, ⟨by omega, hinv⟩, by omega, by omega, rfl, rfl, rfl, rfl, rfl, rfl⟩
    · obtain rfl : i = t.sub.length := by omega
      rw [List.drop_length, Tm.preL, stopF] at hinv
      simp [hlt, ← hinv, ndC]
      exact ⟨[6, 0, 1, 2, 3, 4, 5], by simp⟩
end

theorem p_term_nodes (gl : Glob) (t : Tm) : ACall Tryd.prog gl (.func 72) 0 [.pv t.pv] [] (.fn (.func 79) [] [.ptr 0 0]) [(0, t.bx)] 1 := by
  refine k_term_nodes.acall (by simp) (by simp) (by simp) (by simp) (by simp) (by simp [Tm.bx]) fun hwf => ?_
  simp [c_term_nodes]
  exact ⟨[0], by simp [Tm.bx]⟩
end Go.Proofs.YteiampdhhigjcaaDoorV

/- Contracts: layer 2 of the program: Size, Depth, Check. -/
namespace Go.Proofs.YteiampdhhigjcaaDoorV
open Go
set_option maxRecDepth 100000
set_option maxHeartbeats 4000000

/-- A loop over the nodes of a term. -/
theorem RfVC.nodes {P : Program} {gl : Glob} {n : Nat} {e0 : Env} {p : Nat} {vx vy : (Ex → St → Prop) → St → Prop} {gf : FuncId} {c : Nat} {Q : Ex → St → Prop} {σ : Type} (HS : σ → Heap) (f : σ → Tm → σ × Bool) (ex : Ex) (hex : ex ≠ .nrm) (s0 : σ) (t : Tm)
    (hc : c < n) (hnm : ∀ s, heapNm n (HS s))
    (hgf : ∀ l R, (∀ s x, ACall P gl (.yield l) (n + 1) [.pv x.pv] ((n, .lrec l R none e0) :: HS s) (.pv (.bool (f s x).2)) ((n, .lrec l R (ndC (exCode ex) (f s x).2) e0) :: HS (f s x).1) (n + 1)) →
      ACall P gl (.func gf) (n + 1) [.fn (.yield l) [] [], .ptr c 0] ((n, .lrec l R none e0) :: HS s0) (.tup []) ((n, .lrec l R (ndC (exCode ex) (stopF f s0 t.pre).2) e0) :: HS (stopF f s0 t.pre).1) (n + 1))
    (hround : ∀ s x, vx (fun e s' => match e with | .nrm => vy (fun e s'' => exJump e = (if (f s x).2 then none else some ex) ∧ ∃ ob, kobs s''.h ob = HS (f s x).1) s' | _ => False) { e := (p, .pv x.pv) :: e0, h := HS s, nx := n })
    (hQ : ((stopF f s0 t.pre).2 = true → Q .nrm { e := e0, h := HS (stopF f s0 t.pre).1, nx := n }) ∧ ((stopF f s0 t.pre).2 = false → Q ex { e := e0, h := HS (stopF f s0 t.pre).1, nx := n })) :
    RfVC P gl n e0 (HS s0) [p] vx vy gf [] [.ptr c 0] Q := by
  refine ⟨by simp [hc], if (stopF f s0 t.pre).2 then none else some ex, HS (stopF f s0 t.pre).1, n + 1, .tup [], hnm _, fun l R hr => ?_, ?_⟩
  · have h := hgf l R fun s x => by
      have := hr [.pv x.pv] (HS s) (if (f s x).2 then none else some ex) (HS (f s x).1) rfl (by simp) (hnm _) (hnm _) (hround s x)
      cases hb : (f s x).2 <;> simpa [hb, ndC] using this
    cases hb : (stopF f s0 t.pre).2 <;> simpa [hb, ndC, DV.norm, toPV, toPV1] using h
  · cases hb : (stopF f s0 t.pre).2
    · simp only [Bool.false_eq_true, if_false]
      cases ex with
      | nrm => exact absurd rfl hex
      | ext i => exact hQ.2 hb
      | ret => exact hQ.2 hb
    · simp only [if_true]
      exact hQ.1 hb

theorem env_nm {p : Nat → Prop} : ∀ {e : Env}, (∀ x ∈ e, x.2.nm p) → ∀ (i : Nat) (d : DV), eget e i = some d → d.nm p
  | [], _, _, _, h => by simp [eget] at h
  | (j, d') :: r, h, i, d, hd => by
    rw [eget] at hd
    split at hd
    · obtain rfl := Option.some.inj hd; exact h _ (.head _)
    · exact env_nm (fun x hx => h x (.tail _ hx)) i d hd
theorem p_term_nodes_1 (gl : Glob) {σ : Type} (f : σ → Tm → σ × Bool) (l : Nat) (R : LRec) (e0 : Env) (c0 : Code) (o0 o1 : σ → Ob) (t0 : Tm)
    (h0 : ∀ s, (o0 s).bel 4) (h1 : ∀ s, (o1 s).bel 4) (he : ∀ x ∈ e0, x.2.nm fun i => i < 4)
    (k0 : ∀ s, (o0 s).nm fun i => i < 4) (k1 : ∀ s, (o1 s).nm fun i => i < 4) (s : σ)
    (hr : ∀ s t, ACall Tryd.prog gl (.yield l) 4 [.pv t.pv] [(3, .lrec l R none e0), (0, o0 s), (1, o1 s), (2, t0.bx)] (.pv (.bool (f s t).2)) [(3, .lrec l R (ndC c0 (f s t).2) e0), (0, o0 ((f s t).1)), (1, o1 ((f s t).1)), (2, t0.bx)] 4) :
    ACall Tryd.prog gl (.func 79) 4 [.fn (.yield l) [] [], .ptr 2 0] [(3, .lrec l R none e0), (0, o0 s), (1, o1 s), (2, t0.bx)] (.tup []) [(3, .lrec l R (ndC c0 (stopF f s t0.pre).2) e0), (0, o0 ((stopF f s t0.pre).1)), (1, o1 ((stopF f s t0.pre).1)), (2, t0.bx)] 4 := by
  have he' : ∀ (i : Nat) (d : DV), eget e0 i = some d → d.nm fun i => i < 4 := env_nm he
  have hb0 : t0.bx.bel 4 := by simp [Tm.bx, Ob.bel]
  have hn0 : t0.bx.nm fun i => i < 4 := by simp [Tm.bx]
  have hv := p_term_visit gl f l R e0 c0 o0 o1 (fun _ => t0.bx) h0 h1 (fun _ => hb0) he k0 k1 (fun _ => hn0) he' hr _ t0 s (Nat.lt_succ_self _)
  have hnmH : ∀ (st : Option Code) (s : σ), heapNm 4 [(3, .lrec l R st e0), (0, o0 s), (1, o1 s), (2, t0.bx)] := fun st s => ⟨by omega, he', by omega, k0 s, by omega, k1 s, by omega, hn0, trivial⟩
  have hbH : ∀ (st : Option Code) (s : σ), heapBel 4 [(3, .lrec l R st e0), (0, o0 s), (1, o1 s), (2, t0.bx)] := fun st s x hx => by
    simp at hx; rcases hx with rfl | rfl | rfl | rfl
    · exact ⟨by simp, he⟩
    · exact ⟨by simp, h0 s⟩
    · exact ⟨by simp, h1 s⟩
    · exact ⟨by simp, hb0⟩
  refine k_term_nodes_1.acall (by simp) (by omega) (by simp) (hnmH _ _) (by simp) (hnmH _ _) fun hwf => ?_
  simp [c_term_nodes_1, Tm.bx]
  refine CallNext.same 4 hv (by simp) (hbH _ _) (hbH _ _) (by simp [Tm.bx]) fun _ => ?_
  simp [Tm.bx]
  exact ⟨[3, 0, 1, 2], by simp⟩
theorem p_term_nodes_1B (gl : Glob) {σ : Type} (f : σ → Tm → σ × Bool) (l : Nat) (R : LRec) (e0 : Env) (c0 : Code) (o0 o1 o2 o3 o4 : σ → Ob) (t0 : Tm)
    (h0 : ∀ s, (o0 s).bel 7) (h1 : ∀ s, (o1 s).bel 7) (h2 : ∀ s, (o2 s).bel 7) (h3 : ∀ s, (o3 s).bel 7) (h4 : ∀ s, (o4 s).bel 7) (he : ∀ x ∈ e0, x.2.nm fun i => i < 7)
    (k0 : ∀ s, (o0 s).nm fun i => i < 7) (k1 : ∀ s, (o1 s).nm fun i => i < 7) (k2 : ∀ s, (o2 s).nm fun i => i < 7) (k3 : ∀ s, (o3 s).nm fun i => i < 7) (k4 : ∀ s, (o4 s).nm fun i => i < 7) (s : σ)
    (hr : ∀ s t, ACall Tryd.prog gl (.yield l) 7 [.pv t.pv] [(6, .lrec l R none e0), (0, o0 s), (1, o1 s), (2, o2 s), (3, o3 s), (4, o4 s), (5, t0.bx)] (.pv (.bool (f s t).2)) [(6, .lrec l R (ndC c0 (f s t).2) e0), (0, o0 ((f s t).1)), (1, o1 ((f s t).1)), (2, o2 ((f s t).1)), (3, o3 ((f s t).1)), (4, o4 ((f s t).1)), (5, t0.bx)] 7) :
    ACall Tryd.prog gl (.func 79) 7 [.fn (.yield l) [] [], .ptr 5 0] [(6, .lrec l R none e0), (0, o0 s), (1, o1 s), (2, o2 s), (3, o3 s), (4, o4 s), (5, t0.bx)] (.tup []) [(6, .lrec l R (ndC c0 (stopF f s t0.pre).2) e0), (0, o0 ((stopF f s t0.pre).1)), (1, o1 ((stopF f s t0.pre).1)), (2, o2 ((stopF f s t0.pre).1)), (3, o3 ((stopF f s t0.pre).1)), (4, o4 ((stopF f s t0.pre).1)), (5, t0.bx)] 7 := by
  have he' : ∀ (i : Nat) (d : DV), eget e0 i = some d → d.nm fun i => i < 7 := env_nm he
  have hb0 : t0.bx.bel 7 := by simp [Tm.bx, Ob.bel]
  have hn0 : t0.bx.nm fun i => i < 7 := by simp [Tm.bx]
  have hv := p_term_visitB gl f l R e0 c0 o0 o1 o2 o3 o4 (fun _ => t0.bx) h0 h1 h2 h3 h4 (fun _ => hb0) he k0 k1 k2 k3 k4 (fun _ => hn0) he' hr _ t0 s (Nat.lt_succ_self _)
  have hnmH : ∀ (st : Option Code) (s : σ), heapNm 7 [(6, .lrec l R st e0), (0, o0 s), (1, o1 s), (2, o2 s), (3, o3 s), (4, o4 s), (5, t0.bx)] := fun st s => ⟨by omega, he', by omega, k0 s, by omega, k1 s, by omega, k2 s, by omega, k3 s, by omega, k4 s, by omega, hn0, trivial⟩
  have hbH : ∀ (st : Option Code) (s : σ), heapBel 7 [(6, .lrec l R st e0), (0, o0 s), (1, o1 s), (2, o2 s), (3, o3 s), (4, o4 s), (5, t0.bx)] := fun st s x hx => by
    simp at hx; rcases hx with rfl | rfl | rfl | rfl | rfl | rfl | rfl
    · exact ⟨by simp, he⟩
    · exact ⟨by simp, h0 s⟩
    · exact ⟨by simp, h1 s⟩
    · exact ⟨by simp, h2 s⟩
    · exact ⟨by simp, h3 s⟩
    · exact ⟨by simp, h4 s⟩
    · exact ⟨by simp, hb0⟩
  refine k_term_nodes_1.acall (by simp) (by omega) (by simp) (hnmH _ _) (by simp) (hnmH _ _) fun hwf => ?_
  simp [c_term_nodes_1, Tm.bx]
  refine CallNext.same 7 hv (by simp) (hbH _ _) (hbH _ _) (by simp [Tm.bx]) fun _ => ?_
  simp [Tm.bx]
  exact ⟨[6, 0, 1, 2, 3, 4, 5], by simp⟩

mutual
theorem Tm.pre_length : ∀ t : Tm, t.pre.length = t.nodes
  | ⟨_, _, _, _, _, s⟩ => by rw [Tm.pre, Tm.nodes, List.length_cons, Tm.preL_length s]; omega
theorem Tm.preL_length : ∀ l : List Tm, (Tm.preL l).length = Tm.nodesL l
  | [] => rfl
  | t :: r => by rw [Tm.preL, Tm.nodesL, List.length_append, Tm.pre_length t, Tm.preL_length r]
end
def cntF (s : Int) (_ : Tm) : Int × Bool := (IntKind.i64.wrap (s + 1), true)
theorem stopF_cnt : ∀ (l : List Tm) (s : Int), 0 ≤ s → s + l.length < 9223372036854775807 → stopF cntF s l = (s + l.length, true)
  | [], s, _, _ => by simp [stopF]
  | t :: r, s, h0, h => by
    simp only [List.length_cons] at h
    have := stopF_cnt r (s + 1) (by omega) (by omega)
    have e1 : cntF s t = (s + 1, true) := by unfold cntF; rw [wrap_i64 (by omega) (by omega)]
    rw [stopF, e1]
    simp only [if_true]
    rw [this]; simp; omega

theorem p_term_Size (gl : Glob) (t : Tm) (hs : t.nodes < 2 ^ 40) : PCall Tryd.prog gl 70 [.pv t.pv] (.pv (.int .i64 t.nodes)) := by
  refine k_term_Size.pcall (by simp) (by simp) (by simp) fun hwf => ?_
  simp [c_term_Size]
  refine CallNext.obs [] (p_term_nodes gl t) (by simp) (by simp) (by simp) (by simp) fun _ => ?_
  simp [vc_rf, Tm.bx]
  have hst := stopF_cnt t.pre 0 (by omega) (by rw [Tm.pre_length]; omega)
  refine RfVC.nodes (fun s : Int => [(0, t.bx), (1, .box [.pv (.int .i64 s)]), (2, t.bx)]) cntF .ret (by simp) 0 t (by omega) (fun s => by simp [Tm.bx]) (fun l R hr => ?_) (fun s x => ?_) ?_
  · exact p_term_nodes_1 gl cntF l R _ _ (fun _ => t.bx) (fun s => .box [.pv (.int .i64 s)]) t (by simp [Tm.bx, Ob.bel]) (by simp [Ob.bel]) (by simp) (by simp [Tm.bx]) (by simp) 0 hr
  · simp [cntF, Tm.bx, exJump]
    exact ⟨[0, 1, 2], by simp⟩
  · rw [hst]
    simp [Tm.bx, Tm.pre_length]

theorem p_term_Depth (gl : Glob) (n : Nat) : ∀ t : Tm, SizeOf.sizeOf t < n → t.depth < 2 ^ 40 → PCall Tryd.prog gl 71 [.pv t.pv] (.pv (.int .i64 t.depth)) := by
  induction n with
  | zero => intro t h; omega
  | succ n ih =>
  intro t hn hs
  refine k_term_Depth.pcall (by simp) (by simp) (by simp) fun hwf => ?_
  have hb := Tm.wf_sub (by simpa using hwf)
  have hnd := t.depth_eq
  simp [c_term_Depth]
  refine Loop.nat (fun i => { e := [(3, .pv (.int .i64 (Tm.depthL (t.sub.take i) : Nat))), (7, .pv (.lst 6 (t.sub.map Tm.pv))), (8, .pv (.int .i64 t.sub.length)), (9, .pv (.int .i64 i))], h := [(0, t.bx)], nx := 1 }) t.sub.length (fun _ => True) (by simp) (by simp) (by simp [Tm.bx, Tm.depthL]) fun i hi hinv => ?_
  by_cases hlt : i < t.sub.length
  · have h1 := Tm.depthL_take hlt
    have h2 := @Tm.depthL_le t.sub (i + 1)
    simp [Tm.bx, hlt]
    refine CallNext.pure (ih (gt t.sub i) (by have := Tm.size_gt hlt; omega) (by omega)) fun _ => ?_
    simp [hlt, wrap_nat (show (0:Int) ≤ i + 1 by omega) (by omega)]
    omega
  · obtain rfl : i = t.sub.length := by omega
    simp [Tm.bx, hnd]
    rw [wrap_nat (by omega) (by omega)]

end Go.Proofs.YteiampdhhigjcaaDoorV

/- Plain laws: maps; variables and their widths. -/
namespace Go.Proofs.YteiampdhhigjcaaDoorV
open Go
set_option maxHeartbeats 1000000

theorem mfind_shift (k : PV) : ∀ (es : List (PV × DV)) (i : Nat), mfind k es (i + 1) = (mfind k es i).map fun x => (x.1 + 1, x.2)
  | [], _ => rfl
  | (q, d) :: r, i => by
    rw [mfind, mfind]
    split
    · rfl
    · exact mfind_shift k r (i + 1)
theorem mlook_cons {k q : PV} {e : DV} {r : List (PV × DV)} : mlook ((q, e) :: r) k = if keq k q then some e else mlook r k := by
  unfold mlook
  rw [mfind, mfind_shift]
  split
  · rfl
  · cases mfind k r 0 <;> rfl
theorem mput_cons {k q : PV} {e d : DV} {r : List (PV × DV)} : mput ((q, e) :: r) k d = if keq k q then (k, d) :: r else (q, e) :: mput r k d := by
  unfold mput
  rw [mfind, mfind_shift]
  split
  · rename_i h
    split at h
    · simp at h; obtain ⟨rfl, -⟩ := h; simp [*]
    · rename_i hq
      cases hm : mfind k r 0 with
      | none => simp [hm] at h
      | some x => simp [hm] at h; obtain ⟨rfl, -⟩ := h; simp [hq]
  · rename_i h
    split at h
    · simp at h
    · rename_i hq
      cases hm : mfind k r 0 with
      | none => simp [hq]
      | some x => simp [hm] at h
@[simp] theorem mlook_nil {k : PV} : mlook [] k = none := rfl
@[simp] theorem mput_nil {k : PV} {d : DV} : mput [] k d = [(k, d)] := rfl
@[simp] theorem keq_str {a b : ByteArray} : keq (.str a) (.str b) = decide (a = b) := by simp only [keq, ceq1]; by_cases h : a = b <;> simp [h]
@[simp] theorem keq_int {k : IntKind} {a b : Int} : keq (.int k a) (.int k b) = decide (a = b) := by simp only [keq, ceq1]; by_cases h : a = b <;> simp [h]

/-- Names and numbers, as a map has them. -/
abbrev NV := List (ByteArray × Int)
def lookV : NV → ByteArray → Option Int
  | [], _ => none
  | (m, w) :: r, n => if n = m then some w else lookV r n
def putV : NV → ByteArray → Int → NV
  | [], n, w => [(n, w)]
  | (m, v) :: r, n, w => if n = m then (n, w) :: r else (m, v) :: putV r n w
def vmap (s : NV) : List (PV × DV) := s.map fun x => (.str x.1, .pv (.int .i64 x.2))
@[simp] theorem mlook_vmap {n : ByteArray} : ∀ {s : NV}, mlook (vmap s) (.str n) = (lookV s n).map fun w => .pv (.int .i64 w)
  | [] => rfl
  | (m, w) :: r => by
    have := mlook_vmap (n := n) (s := r)
    simp only [vmap, List.map_cons] at this ⊢
    rw [mlook_cons, lookV, this]; simp; split <;> rfl
@[simp] theorem mput_vmap {n : ByteArray} {w : Int} : ∀ {s : NV}, mput (vmap s) (.str n) (.pv (.int .i64 w)) = vmap (putV s n w)
  | [] => rfl
  | (m, v) :: r => by
    have := mput_vmap (n := n) (w := w) (s := r)
    simp only [vmap, List.map_cons] at this ⊢
    rw [mput_cons, putV, this]; simp; split <;> rfl
theorem keysOk_vmap {n : ByteArray} {s : NV} : keysOk 2 (.str n) (vmap s) := by
  refine ⟨rfl, by omega, fun x hx => ?_⟩
  simp only [vmap, List.mem_map] at hx
  obtain ⟨y, -, rfl⟩ := hx
  rfl
theorem lookV_putV {n m : ByteArray} {w : Int} : ∀ {s : NV}, lookV (putV s n w) m = if m = n then some w else lookV s m
  | [] => by simp [putV, lookV]
  | (a, v) :: r => by
    rw [putV]
    by_cases h : n = a
    · subst h; simp only [if_true, lookV]; split <;> rfl
    · simp only [h, if_false, lookV, lookV_putV (s := r)]
      by_cases h1 : m = a
      · subst h1; simp [Ne.symm h]
      · simp [h1]

/-- Variables one by one: the map so far; no: one with another width. -/
def varF (s : NV) (x : Tm) : NV × Bool :=
  if x.op = 2 then (match lookV s x.name with
    | some w => if w = x.width then (putV s x.name x.width, true) else (s, false)
    | none => (putV s x.name x.width, true)) else (s, true)
def stopV : NV → NV → NV × Bool
  | s, [] => (s, true)
  | s, (n, w) :: r => match lookV s n with
    | some v => if v = w then stopV (putV s n w) r else (s, false)
    | none => stopV (putV s n w) r
theorem stopV_append (s : NV) : ∀ (a b : NV), stopV s (a ++ b) = if (stopV s a).2 then stopV (stopV s a).1 b else ((stopV s a).1, false)
  | [], b => by simp [stopV]
  | (n, w) :: r, b => by
    simp only [List.cons_append, stopV]
    obtain hl | ⟨v, hl⟩ : lookV s n = none ∨ ∃ v, lookV s n = some v := by cases lookV s n <;> simp
    · simp only [hl]; exact stopV_append _ r b
    · by_cases h : v = w
      · simp only [hl, h, if_true]; exact stopV_append _ r b
      · simp [hl, h]
mutual
theorem Tm.stop_vars : ∀ (t : Tm) (s : NV), stopF varF s t.pre = stopV s t.vars
  | ⟨o, w, v, n, l, ts⟩, s => by
    rw [Tm.pre, stopF, Tm.vars]
    by_cases h : o = 2
    · simp only [varF, h, if_true]
      simp only [List.cons_append, List.nil_append, stopV]
      obtain hl | ⟨u, hl⟩ : lookV s n = none ∨ ∃ u, lookV s n = some u := by cases lookV s n <;> simp
      · simp only [hl, if_true]; exact Tm.stop_varsL ts _
      · by_cases h : u = w
        · simp only [hl, h, if_true]; exact Tm.stop_varsL ts _
        · simp [hl, h]
    · simp only [varF, h, if_false, if_true, List.nil_append]; exact Tm.stop_varsL ts _
theorem Tm.stop_varsL : ∀ (l : List Tm) (s : NV), stopF varF s (Tm.preL l) = stopV s (Tm.varsL l)
  | [], s => rfl
  | t :: r, s => by
    rw [Tm.preL, stopF_append, Tm.varsL, stopV_append, Tm.stop_vars t s]
    split
    · exact Tm.stop_varsL r _
    · rfl
end
theorem stopV_ok : ∀ (l s : NV), (stopV s l).2 = true ↔ (∀ x ∈ l, ∀ w, lookV s x.1 = some w → w = x.2) ∧ ∀ x ∈ l, ∀ y ∈ l, x.1 = y.1 → x.2 = y.2
  | [], s => by simp [stopV]
  | (n, w) :: r, s => by
    have key : ((stopV (putV s n w) r).2 = true ∧ ∀ v, lookV s n = some v → v = w) ↔ (∀ x ∈ (n, w) :: r, ∀ w, lookV s x.1 = some w → w = x.2) ∧ ∀ x ∈ (n, w) :: r, ∀ y ∈ (n, w) :: r, x.1 = y.1 → x.2 = y.2 := by
      rw [stopV_ok r]
      constructor
      · rintro ⟨⟨h1, h2⟩, h3⟩
        have h4 : ∀ y ∈ r, y.1 = n → w = y.2 := fun y hy he => h1 y hy w (by rw [lookV_putV, if_pos he])
        refine ⟨fun x hx v hv => ?_, fun x hx y hy he => ?_⟩
        · rcases List.mem_cons.1 hx with rfl | hx
          · exact h3 v hv
          · by_cases he : x.1 = n
            · rw [← h4 x hx he]; exact h3 v (by rw [← he]; exact hv)
            · exact h1 x hx v (by rw [lookV_putV, if_neg he]; exact hv)
        · rcases List.mem_cons.1 hx with rfl | hx <;> rcases List.mem_cons.1 hy with rfl | hy
          · rfl
          · exact h4 y hy he.symm
          · exact (h4 x hx he).symm
          · exact h2 x hx y hy he
      · rintro ⟨h1, h2⟩
        refine ⟨⟨fun x hx v hv => ?_, fun x hx y hy => h2 x (.tail _ hx) y (.tail _ hy)⟩, fun v hv => h1 _ (.head _) v hv⟩
        rw [lookV_putV] at hv
        split at hv
        · rename_i he
          obtain rfl := Option.some.inj hv
          exact h2 _ (.head _) x (.tail _ hx) he.symm
        · exact h1 x (.tail _ hx) v hv
    rw [← key, stopV]
    cases hl : lookV s n with
    | none => simp
    | some v =>
      by_cases hv : v = w
      · simp [hv]
      · simp [hv]
theorem agree_iff (l : NV) : agree l = true ↔ ∀ x ∈ l, ∀ y ∈ l, x.1 = y.1 → x.2 = y.2 := by
  unfold agree
  rw [allB_true]
  simp only [allB_true, Bool.or_eq_true, Bool.not_eq_true', decide_eq_false_iff_not, decide_eq_true_eq]
  constructor
  · intro h x hx y hy he
    obtain ⟨i, hi, rfl⟩ := List.getElem_of_mem hx
    obtain ⟨k, hk, rfl⟩ := List.getElem_of_mem hy
    rcases Nat.lt_trichotomy i k with hik | rfl | hik
    · have := h k hk i hik
      rw [gt_nat hi, gt_nat hk] at this
      rcases this with h1 | h1
      · exact absurd he h1
      · exact h1
    · rfl
    · have := h i hi k hik
      rw [gt_nat hi, gt_nat hk] at this
      rcases this with h1 | h1
      · exact absurd he.symm h1
      · exact h1.symm
  · intro h i hi k hk
    rw [gt_nat hi, gt_nat (show k < l.length by omega)]
    by_cases he : l[k].1 = l[i].1
    · right; exact h _ (List.getElem_mem _) _ (List.getElem_mem _) he
    · left; exact he
theorem Tm.stop_agree (t : Tm) : (stopF varF [] t.pre).2 = agree t.vars := by
  rw [Tm.stop_vars, Bool.eq_iff_iff, stopV_ok, agree_iff]
  simp [lookV]
end Go.Proofs.YteiampdhhigjcaaDoorV

/- Contracts: layer 2 of the program: variables, Check. -/
namespace Go.Proofs.YteiampdhhigjcaaDoorV
open Go
set_option maxRecDepth 100000
set_option maxHeartbeats 4000000

def varsDV (t : Tm) : DV := if agree t.vars then .tup [.mref 3, .pv (.bool true)] else .tup [.nilM, .pv (.bool false)]
theorem p_term_variables (gl : Glob) (t : Tm) : ACall Tryd.prog gl (.func 74) 0 [.pv t.pv] [] (varsDV t) [(3, .mp (vmap (stopF varF [] t.pre).1))] 6 := by
  have hnmv : ∀ (s : NV) (n : Nat), (Ob.mp (vmap s)).nm fun i => i < n := fun s n x hx => by simp only [vmap, List.mem_map] at hx; obtain ⟨y, -, rfl⟩ := hx; simp
  have hbv : ∀ (s : NV) (n : Nat), (Ob.mp (vmap s)).bel n := fun s n x hx => by simp only [vmap, List.mem_map] at hx; obtain ⟨y, -, rfl⟩ := hx; simp
  refine k_term_variables.acall (by simp) (by simp) (by simp) (by simp) (by unfold varsDV; split <;> simp) ⟨by omega, hnmv _ _, trivial⟩ fun hwf => ?_
  simp [c_term_variables]
  refine CallNext.obs [] (p_term_nodes gl t) (by simp) (by simp) (by simp) (by simp) fun _ => ?_
  simp [vc_rf, Tm.bx]
  have hst := t.stop_agree
  refine RfVC.nodes (fun s : NV => [(0, t.bx), (1, .box [.nilM]), (2, .box [.pv (.bool false)]), (3, .mp (vmap s)), (4, .box [.mref 3]), (5, t.bx)]) varF .ret (by simp) [] t (by omega) (fun s => by simp [Tm.bx]; exact fun a b h => hnmv s 6 (a, b) h) (fun l R hr => ?_) (fun s x => ?_) ?_
  · exact p_term_nodes_1B gl varF l R _ _ (fun _ => t.bx) (fun _ => .box [.nilM]) (fun _ => .box [.pv (.bool false)]) (fun s => .mp (vmap s)) (fun _ => .box [.mref 3]) t (by simp [Tm.bx, Ob.bel]) (by simp [Ob.bel]) (by simp [Ob.bel]) (fun s => hbv s 7) (by simp [Ob.bel]) (by simp) (by simp [Tm.bx]) (by simp) (by simp) (fun s => hnmv s 7) (by simp) [] hr
  · have hk : keysOk 2 (.str x.name) (vmap s) := keysOk_vmap
    by_cases hx : x.op = 2
    · obtain hl | ⟨v, hl⟩ : lookV s x.name = none ∨ ∃ v, lookV s x.name = some v := by cases lookV s x.name <;> simp
      · simp [varF, Tm.bx, exJump, hx, hl, hk]
        exact ⟨[0, 1, 2, 3, 4, 5], by simp⟩
      · by_cases hv : v = x.width
        · simp [varF, Tm.bx, exJump, hx, hl, hk, hv]
          exact ⟨[0, 1, 2, 3, 4, 5], by simp⟩
        · simp [varF, Tm.bx, exJump, hx, hl, hk, hv]
          exact ⟨[0, 1, 2, 3, 4, 5], by simp⟩
    · simp [varF, Tm.bx, exJump, hx]
      exact ⟨[0, 1, 2, 3, 4, 5], by simp⟩
  · rw [hst]
    simp [Tm.bx, varsDV]
    refine ⟨fun h => ?_, fun h => ?_⟩
    · simp [h]; exact ⟨[3], by simp⟩
    · simp [h]; exact ⟨[3], by simp⟩

def nodeF (s : Int) (x : Tm) : Int × Bool := if x.nodeP then (s, true) else (8, false)
theorem stopF_node : ∀ (l : List Tm) (s : Int), stopF nodeF s l = if l.all Tm.nodeP then (s, true) else (8, false)
  | [], s => rfl
  | t :: r, s => by
    rw [stopF, nodeF]
    by_cases h : t.nodeP = true
    · simp only [h, if_true, List.all_cons, Bool.true_and]; exact stopF_node r s
    · simp [h]
theorem p_term_Check (t : Tm) (hs : t.nodes < 2 ^ 40) (hd : t.depth < 2 ^ 40) : PCall Tryd.prog glob 66 [.pv t.pv] (.pv (.int .i64 t.check)) := by
  refine k_term_Check.pcall (by simp) (by simp) (by simp) fun hwf => ?_
  simp [c_term_Check]
  refine CallNext.pure (p_term_Size glob t hs) fun _ => ?_
  simp
  refine ⟨_, fun _ => .of (p_term_Depth glob _ t (Nat.lt_succ_self _) hd), by simp, ?_⟩
  simp
  refine ⟨fun h => ?_, fun h1 h2 => CallNext.obs [] (p_term_nodes glob t) (by simp) (by simp) (by simp) (by simp) fun _ => ?_⟩
  · rw [t.check_eq, if_pos (by omega)]
  have hck : t.check = if t.formed then (if agree t.vars then 0 else 14) else 8 := by rw [t.check_eq, if_neg (by omega)]
  simp [vc_rf, Tm.bx]
  have hst : stopF nodeF 0 t.pre = if t.formed then (0, true) else (8, false) := by rw [stopF_node, t.pre_nodeP]
  refine RfVC.nodes (fun s : Int => [(0, t.bx), (1, .box [.pv (.int .i64 s)]), (2, t.bx)]) nodeF .ret (by simp) 0 t (by omega) (fun s => by simp [Tm.bx]) (fun l R hr => ?_) (fun s x => ?_) ?_
  · exact p_term_nodes_1 glob nodeF l R _ _ (fun _ => t.bx) (fun s => .box [.pv (.int .i64 s)]) t (by simp [Tm.bx, Ob.bel]) (by simp [Ob.bel]) (by simp) (by simp [Tm.bx]) (by simp) 0 hr
  · simp [Tm.bx]
    refine CallNext.pure (p_term_node x) fun _ => ?_
    by_cases hx : x.nodeP = true
    · simp [nodeF, exJump, hx]
      exact ⟨[0, 1, 2], by simp⟩
    · simp [nodeF, exJump, hx]
      exact ⟨[0, 1, 2], by simp⟩
  · rw [hst]
    by_cases hf : t.formed = true
    · simp [hf, Tm.bx]
      refine CallNext.obs [] (p_term_variables glob t) (by simp) (by simp) (by simp) (by simp) fun _ => ?_
      by_cases ha : agree t.vars = true
      · simp [varsDV, ha, hck, hf]
      · simp [varsDV, ha, hck, hf]
    · simp [hf, Tm.bx, hck]
end Go.Proofs.YteiampdhhigjcaaDoorV

/- Contracts: layer 8 of the program: small functions. -/
namespace Go.Proofs.YteiampdhhigjcaaDoorV
open Go
set_option maxRecDepth 100000
set_option maxHeartbeats 4000000

theorem p_machine_within (gl : Glob) (n a b : Int) : PCall Tryd.prog gl 17 [.pv (.int .i64 n), .pv (.int .i64 a), .pv (.int .i64 b)] (.pv (.bool (inR n a b))) := by
  refine k_machine_within.pcall (by simp) (by simp) (by simp) fun hwf => ?_
  simp [c_machine_within, inR]

theorem p_slices_Max2 (gl : Glob) (a b : Int) : PCall Tryd.prog gl 57 [.pv (.lst 1 [.int .i64 a, .int .i64 b])] (.pv (.int .i64 (max a b))) := by
  refine k_slices_Max_int_int.pcall (by simp) (by simp) (by simp) fun hwf => ?_
  simp [c_slices_Max_int_int, nth]
  refine Loop.nat (fun i => { e := [(0, .pv (.lst 1 [.int .i64 a, .int .i64 b])), (3, .pv (.int .i64 (if i = 0 then a else max a b))), (4, .pv (.int .i64 (i + 1 : Nat)))], h := [], nx := 0 }) 1 (fun _ => True) (by simp) (by simp) (by simp) fun i hi hinv => ?_
  have hc : i = 0 ∨ i = 1 := by omega
  rcases hc with rfl | rfl
  · simp [nth, wrap_nat]
  · simp
theorem p_machine_fewer (gl : Glob) (a n : Int) : PCall Tryd.prog gl 47 [.pv (.int .i64 a), .flit 1 [.int .i64 n]] (.pv (.bool (decide (max n 0 ≤ a)))) := by
  refine k_machine_fewer.pcall (by simp) (by simp) (by simp) fun hwf => ?_
  simp [c_machine_fewer]
  refine CallNext.pure (p_slices_Max2 gl n 0) fun _ => ?_
  simp
theorem p_slices_Index_string (gl : Glob) (l : List ByteArray) (x : ByteArray) : PCall Tryd.prog gl 58 [.pv (.lst 1 (strs l)), .pv (.str x)] (.pv (.int .i64 (fstI (fun y => decide (x = y)) l))) := by
  refine k_slices_Index_string_string.pcall (by simp) (by simp) (by simp) fun hwf => ?_
  have hb : l.length ≤ 9223372036854775807 := by have := hwf (.pv (.lst 1 (strs l))) (by simp); simp [strs, maxLen] at this; exact this.1
  simp [c_slices_Index_string_string]
  refine Loop.nat (fun i => { e := [(0, .pv (.lst 1 (strs l))), (1, .pv (.str x)), (7, .pv (.int .i64 l.length)), (8, .pv (.int .i64 i))], h := [], nx := 0 }) l.length (fun i => ∀ j, j < i → decide (x = gt l (j : Nat)) = false) (by simp) (by simp) (by simp) fun i hi hinv => ?_
  by_cases hlt : i < l.length
  · simp [hlt]
    refine ⟨fun h => (fstI_some (by omega) (by simp [h]) hinv).symm, fun h => ⟨fun j hj => ?_, wrap_nat (by omega) (by omega)⟩⟩
    rcases Nat.lt_or_eq_of_le (Nat.le_of_lt_succ hj) with hj | rfl
    · simpa using hinv j hj
    · exact h
  · simp [hlt]
    exact (fstI_none fun j hj => hinv j (by omega)).symm
theorem p_slices_Contains_string (gl : Glob) (l : List ByteArray) (x : ByteArray) : PCall Tryd.prog gl 48 [.pv (.lst 1 (strs l)), .pv (.str x)] (.pv (.bool (l.any fun y => decide (x = y)))) := by
  refine k_slices_Contains_string_string.pcall (by simp) (by simp) (by simp) fun hwf => ?_
  simp [c_slices_Contains_string_string]
  refine CallNext.pure (p_slices_Index_string gl l x) fun _ => ?_
  simp [fstI_nonneg]

/-- The names that have been used: the variable, and the licence to append. -/
def nbox (j : Nat) (l : List ByteArray) : Ob := .box [.own j 1 (strs l)]
def freshB (l : List ByteArray) (s : ByteArray) : Bool := isName s && !l.any fun y => decide (s = y)
theorem p_names_fresh (gl : Glob) (l : List ByteArray) (s : ByteArray) (hl : l.length ≤ 1000) :
    ACall Tryd.prog gl (.func 34) 2 [.ptr 0 0, .pv (.str s)] [(0, nbox 1 l), (1, .tip 1 l.length)] (.pv (.bool (freshB l s))) [(0, nbox 1 (l ++ [s])), (1, .tip 1 (l.length + 1))] 2 := by
  refine k_machine_names_fresh.acall (by simp) (by simp) (by simp) (by simp [nbox]) (by simp) (by simp [nbox]) fun hwf => ?_
  simp [c_machine_names_fresh, nbox]
  refine CallNext.pure (p_bits_Name gl s) fun _ => ?_
  simp
  refine ⟨_, fun _ => .of (p_slices_Contains_string gl l s), by simp, ?_⟩
  simp [freshB]
  refine ⟨by omega, [0, 1], ?_⟩
  simp [strs]

theorem all_take {l : List Bool} {i : Nat} (h : i < l.length) : (l.take (i + 1)).all id = ((l.take i).all id && gt l (i : Nat)) := by
  rw [gt_nat h, List.take_succ_eq_append_getElem h, List.all_append]; simp
/-- The checker: the machine, and whether all is well so far. -/
def cbox (m : Mach) (ok : Bool) : Ob := .box [.pv (.str m.name), .pv (.int .i64 m.word), .pv (.int .i64 m.address), .pv (.lst 4 (m.regs.map Reg.pv)), .pv (.lst 2 (m.banks.map Bank.pv)), .pv (.lst 2 (m.units.map Unt.pv)), .pv (.lst 9 (m.instrs.map Ins_.pv)), .pv (.bool ok)]
def bools (l : List Bool) : List PV := l.map .bool
theorem p_checker_must (gl : Glob) (m : Mach) (ok : Bool) (l : List Bool) :
    ACall Tryd.prog gl (.func 29) 1 [.ptr 0 0, .pv (.lst 1 (bools l))] [(0, cbox m ok)] (.tup []) [(0, cbox m (ok && l.all id))] 1 := by
  refine k_machine_checker_must.acall (by simp) (by simp) (by simp) (by simp [cbox]) (by simp) (by simp [cbox]) fun hwf => ?_
  have hb : l.length ≤ 9223372036854775807 := by have := hwf (.pv (.lst 1 (bools l))) (by simp); simp [bools, maxLen] at this; exact this.1
  simp [c_machine_checker_must, cbox, bools]
  refine Loop.nat (fun i => { e := [(0, .ptr 0 0), (6, .pv (.lst 1 (l.map .bool))), (7, .pv (.int .i64 l.length)), (8, .pv (.int .i64 i))], h := [(0, cbox m (ok && (l.take i).all id))], nx := 1 }) l.length (fun _ => True) (by simp) (by simp) (by simp [cbox]) fun i hi hinv => ?_
  by_cases hlt : i < l.length
  · simp [hlt, cbox, wrap_nat (show (0:Int) ≤ i + 1 by omega) (by omega)]
    rw [all_take hlt, Bool.and_assoc]
  · obtain rfl : i = l.length := by omega
    simp [cbox]
    exact ⟨[0], by simp⟩
end Go.Proofs.YteiampdhhigjcaaDoorV

/- Contracts: layer 8 of the program: registers, banks, units. -/
namespace Go.Proofs.YteiampdhhigjcaaDoorV
open Go
set_option maxRecDepth 100000
set_option maxHeartbeats 4000000

theorem any_take {α : Type} [Inhabited α] {l : List α} {i : Nat} (h : i ≤ l.length) (p : α → Bool) : (!(l.take i).any p) = allB i fun k => !p (gt l (k : Nat)) := by
  induction i with
  | zero => simp
  | succ i ih =>
    have hi : i < l.length := by omega
    rw [List.take_succ_eq_append_getElem hi, List.any_append, Bool.not_or, ih (by omega), allB_succ, gt_nat hi]; simp
theorem fresh_take {α : Type} [Inhabited α] {l : List α} (f : α → ByteArray) {i : Nat} (h : i < l.length) : freshB ((l.map f).take i) (f (gt l (i : Nat))) = (isName (f (gt l (i : Nat))) && allB i fun k => !decide (f (gt l (k : Nat)) = f (gt l (i : Nat)))) := by
  rw [freshB, any_take (by simp; omega)]
  congr 1
  refine allB_congr fun k hk => ?_
  rw [gt_nat (show k < (l.map f).length by simp; omega), gt_nat (show k < l.length by omega)]
  simp [eq_comm]
theorem take_names {α : Type} [Inhabited α] {l : List α} (f : α → ByteArray) {i : Nat} (h : i < l.length) : (l.map f).take (i + 1) = (l.map f).take i ++ [f (gt l (i : Nat))] := by
  rw [List.take_succ_eq_append_getElem (by simpa using h), gt_nat h]; simp

theorem p_checker_regs (gl : Glob) (m : Mach) (ok : Bool) (hl : m.regs.length ≤ 500) :
    ACall Tryd.prog gl (.func 31) 1 [.ptr 0 0] [(0, cbox m ok)] (.tup []) [(0, cbox m (ok && okRegs m))] 1 := by
  refine k_machine_checker_regs.acall (by simp) (by simp) (by simp) (by simp [cbox]) (by simp) (by simp [cbox]) fun hwf => ?_
  simp [c_machine_checker_regs, cbox]
  refine CallNext.obs [0] (p_checker_must gl m ok [decide (0 < m.regs.length)]) (by simp) (by simp) (by simp [bools]) (by simp [cbox]) fun _ => ?_
  simp [cbox]
  refine Loop.nat (fun i => { e := [(0, .ptr 0 0), (2, .ptr 1 0), (20, .pv (.lst 4 (m.regs.map Reg.pv))), (21, .pv (.int .i64 m.regs.length)), (22, .pv (.int .i64 i))], h := [(0, cbox m (ok && (decide (0 < m.regs.length) && allB i (rgOk m)))), (1, nbox 2 ((m.regs.map (·.name)).take i)), (2, .tip 1 i)], nx := 3 }) m.regs.length (fun _ => True) (by simp [cbox]) (by simp) (by simp [cbox, nbox, strs]) fun i hi hinv => ?_
  by_cases hlt : i < m.regs.length
  · simp [hlt, cbox, wrap_nat (show (0:Int) ≤ i + 1 by omega) (by omega)]
    have hlen : ((m.regs.map (·.name)).take i).length = i := by simp; omega
    refine DCallNext.obs' [1, 2] (p_names_fresh gl ((m.regs.map (·.name)).take i) (gt m.regs i).name (by rw [hlen]; omega)) rfl (by simp) (by simp) (by simp) (by simp) (by simp [nbox, hlen]) ?_
    simp [nbox, hlen]
    refine DCallNext.pure (p_machine_within gl _ _ _) ?_
    simp
    refine DCallNext.obs' [0] (p_checker_must gl m _ [_, _]) rfl (by simp) (by simp) (by simp [bools]; exact ⟨rfl, rfl⟩) (by simp) (by simp [cbox]; rfl) ?_
    simp [cbox]
    rw [fresh_take _ hlt, ← take_names _ hlt]
    have hw1 : IntKind.i64.wrap ((i : Int) + 1) = (i : Int) + 1 := wrap_nat (by omega) (by omega)
    have hne : m.regs ≠ [] := by intro h; simp [h] at hlt
    refine ⟨fun hof => ?_, fun hof => ?_⟩
    · refine CallNext.obs [0] (p_checker_must gl m _ [_]) (by simp) (by simp) (by simp [bools]; rfl) (by simp [cbox]; rfl) fun _ => ?_
      simp [cbox, hlt, hw1]
      rw [allB_succ]
      simp [rgOk, hof]
      ac_rfl
    · refine DCallNext.pure (p_machine_within gl _ _ _) ?_
      simp
      rw [wrap_i64 (by omega) (by omega)]
      refine ⟨fun hout => ?_, fun hin => ?_⟩
      · refine CallNext.obs [0] (p_checker_must gl m _ [_]) (by simp) (by simp) (by simp [bools]; rfl) (by simp [cbox]; rfl) fun _ => ?_
        simp [cbox]
        refine ⟨hlt, hw1, fun _ _ => ?_⟩
        rw [allB_succ]
        simp [rgOk, hof, hout]
      · have hin' : 0 ≤ (gt m.regs (i : Nat)).of ∧ (gt m.regs (i : Nat)).of ≤ (m.regs.length : Int) - 1 := by simpa [inR] using hin
        simp [hne]
        refine ⟨by omega, ?_⟩
        refine DCallNext.pure (p_machine_within gl _ _ _) ?_
        simp
        refine DCallNext.pure (p_machine_within gl _ _ _) ?_
        simp
        refine DCallNext.obs' [0] (p_checker_must gl m _ [_, _, _, _]) rfl (by simp) (by simp) (by simp [bools]; exact ⟨rfl, rfl, rfl, rfl⟩) (by simp) (by simp [cbox]; rfl) ?_
        simp [cbox]
        refine ⟨hlt, hw1, ?_⟩
        rw [allB_succ]
        simp only [rgOk, hof, if_false, hin]
        by_cases hA : inR (gt m.regs (gt m.regs (i : Nat)).of).width 1 64 = true
        · by_cases hB : inR (gt m.regs (i : Nat)).width 1 64 = true
          · rw [wrap_i64 (by simp [inR] at hA hB; omega) (by simp [inR] at hA hB; omega)]
            simp [hA, hB]
            ac_rfl
          · simp [hB]
        · simp [hA]
  · obtain rfl : i = m.regs.length := by omega
    simp [cbox, okRegs]
    exact ⟨[0], by simp [Bool.and_comm]⟩

theorem p_checker_units (gl : Glob) (m : Mach) (ok : Bool) (hl : m.units.length ≤ 500) :
    ACall Tryd.prog gl (.func 33) 1 [.ptr 0 0] [(0, cbox m ok)] (.tup []) [(0, cbox m (ok && okUnits m))] 1 := by
  refine k_machine_checker_units.acall (by simp) (by simp) (by simp) (by simp [cbox]) (by simp) (by simp [cbox]) fun hwf => ?_
  simp [c_machine_checker_units, cbox]
  refine CallNext.obs [0] (p_checker_must gl m ok [decide (0 < m.units.length)]) (by simp) (by simp) (by simp [bools]) (by simp [cbox]) fun _ => ?_
  simp [cbox]
  refine Loop.nat (fun i => { e := [(0, .ptr 0 0), (2, .ptr 1 0), (19, .pv (.lst 2 (m.units.map Unt.pv))), (20, .pv (.int .i64 m.units.length)), (21, .pv (.int .i64 i))], h := [(0, cbox m (ok && (decide (0 < m.units.length) && allB i (unitOk m)))), (1, nbox 2 ((m.units.map (·.name)).take i)), (2, .tip 1 i)], nx := 3 }) m.units.length (fun _ => True) (by simp [cbox]) (by simp) (by simp [cbox, nbox, strs]) fun i hi hinv => ?_
  by_cases hlt : i < m.units.length
  · have hw1 : IntKind.i64.wrap ((i : Int) + 1) = (i : Int) + 1 := wrap_nat (by omega) (by omega)
    have hlen : ((m.units.map (·.name)).take i).length = i := by simp; omega
    simp [hlt, cbox]
    refine DCallNext.obs' [1, 2] (p_names_fresh gl ((m.units.map (·.name)).take i) (gt m.units i).name (by rw [hlen]; omega)) rfl (by simp) (by simp) (by simp) (by simp) (by simp [nbox, hlen]) ?_
    simp [nbox, hlen]
    refine DCallNext.pure (p_machine_within gl _ _ _) ?_
    simp
    refine DCallNext.obs' [0] (p_checker_must gl m _ [_, _]) rfl (by simp) (by simp) (by simp [bools]; exact ⟨rfl, rfl⟩) (by simp) (by simp [cbox]; rfl) ?_
    simp [cbox, hlt, hw1]
    rw [fresh_take _ hlt, ← take_names _ hlt, allB_succ]
    simp [unitOk]
    ac_rfl
  · obtain rfl : i = m.units.length := by omega
    simp [cbox, okUnits]
    exact ⟨[0], by simp [Bool.and_comm]⟩

@[simp] theorem ints_take {l : List Int} {n : Nat} : (ints l).take n = ints (l.take n) := by simp [ints, List.map_take]
theorem p_checker_banks (gl : Glob) (m : Mach) (ok : Bool) (hl : m.banks.length ≤ 500) (hr : m.regs.length ≤ 500) (hbl : ∀ b ∈ m.banks, b.regs.length ≤ 500) :
    ACall Tryd.prog gl (.func 32) 1 [.ptr 0 0] [(0, cbox m ok)] (.tup []) [(0, cbox m (ok && okBanks m))] 1 := by
  refine k_machine_checker_banks.acall (by simp) (by simp) (by simp) (by simp [cbox]) (by simp) (by simp [cbox]) fun hwf => ?_
  simp [c_machine_checker_banks, cbox]
  refine Loop.nat (fun i => { e := [(0, .ptr 0 0), (2, .ptr 1 0), (11, .pv (.lst 2 (m.banks.map Bank.pv))), (12, .pv (.int .i64 m.banks.length)), (13, .pv (.int .i64 i))], h := [(0, cbox m (ok && allB i (bankOk m))), (1, nbox 2 ((m.banks.map (·.name)).take i)), (2, .tip 1 i)], nx := 3 }) m.banks.length (fun _ => True) (by simp [cbox]) (by simp) (by simp [cbox, nbox, strs]) fun i hi hinv => ?_
  by_cases hlt : i < m.banks.length
  · have hw1 : IntKind.i64.wrap ((i : Int) + 1) = (i : Int) + 1 := wrap_nat (by omega) (by omega)
    have hlen : ((m.banks.map (·.name)).take i).length = i := by simp; omega
    simp [hlt, cbox]
    refine DCallNext.obs' [1, 2] (p_names_fresh gl ((m.banks.map (·.name)).take i) (gt m.banks i).name (by rw [hlen]; omega)) rfl (by simp) (by simp) (by simp) (by simp) (by simp [nbox, hlen]) ?_
    simp [nbox, hlen]
    refine DCallNext.obs' [0] (p_checker_must gl m _ [_, _]) rfl (by simp) (by simp) (by simp [bools]; exact ⟨rfl, rfl⟩) (by simp) (by simp [cbox]; rfl) ?_
    simp [cbox]
    rw [fresh_take _ hlt, ← take_names _ hlt]
    have hbl' : (gt m.banks (i : Nat)).regs.length ≤ 500 := hbl _ (gt_mem (by omega) (by omega))
    generalize hb : gt m.banks (i : Nat) = b at *
    let q : Nat → Bool := fun k => inR (gt b.regs (k : Nat)) 0 (m.regs.length - 1) && allB k (fun j => !decide (gt b.regs (j : Nat) = gt b.regs (k : Nat))) && decide ((gt m.regs (gt b.regs (k : Nat))).width = (gt m.regs (gt b.regs 0)).width)
    let A : Bool := isName b.name && (allB i fun k => !decide ((gt m.banks (k : Nat)).name = b.name))
    have hq : bankOk m i = (A && decide (0 < b.regs.length) && allB b.regs.length q) := by
      simp only [bankOk, hb, A, q]; ac_rfl
    refine Loop.nat (fun k => { e := [(0, .ptr 0 0), (2, .ptr 1 0), (4, .ptr 3 0), (11, .pv (.lst 2 (m.banks.map Bank.pv))), (12, .pv (.int .i64 m.banks.length)), (13, .pv (.int .i64 i)), (28, .pv (.lst 1 (ints b.regs))), (29, .pv (.int .i64 b.regs.length)), (30, .pv (.int .i64 k))], h := [(0, cbox m (ok && allB i (bankOk m) && (A && decide (0 < b.regs.length)) && allB k q)), (1, nbox 2 ((m.banks.map (·.name)).take (i + 1))), (2, .tip 1 (i + 1)), (3, b.bx)], nx := 14 }) b.regs.length (fun _ => True) (by simp [cbox, Bank.bx]) (by simp) (by simp [cbox, nbox, Bank.bx, A]) fun k hk hinv => ?_
    by_cases hkt : k < b.regs.length
    · have hw2 : IntKind.i64.wrap ((k : Int) + 1) = (k : Int) + 1 := wrap_nat (by omega) (by omega)
      simp [hkt, cbox, Bank.bx]
      have hbne : b.regs ≠ [] := by intro h; simp [h] at hkt
      have hnc : (!(b.regs.take k).any fun y => decide (gt b.regs (k : Nat) = y)) = allB k (fun j => !decide (gt b.regs (j : Nat) = gt b.regs (k : Nat))) := by
        rw [any_take (by omega)]; exact allB_congr fun j hj => by simp [eq_comm]
      refine DCallNext.pure (p_machine_within gl _ _ _) ?_
      simp
      rw [wrap_i64 (by omega) (by omega)]
      refine ⟨by omega, DCallNext.pure (p_slices_Contains_int_int gl _ _) ?_⟩
      simp only [hnc, dvc_nil, d_un, dnext_some, stp_un, evs, ev, eget, eput, DV.strip, if_true]
      simp [hnc]
      refine DCallNext.obs' [0] (p_checker_must gl m _ [_, _]) rfl (by simp) (by simp) (by simp [bools]; exact ⟨rfl, rfl⟩) (by simp) (by simp [cbox]; rfl) ?_
      simp [cbox]
      refine ⟨fun h1 h2 h3 h4 h5 h6 h7 => ?_, fun hno => ?_⟩
      · have h6' : 0 ≤ gt b.regs (k : Nat) ∧ gt b.regs (k : Nat) ≤ (m.regs.length : Int) - 1 := by simpa [inR] using h6
        have hmne : m.regs ≠ [] := by intro h; simp [h] at h6'; omega
        have h0' : 0 ≤ gt b.regs 0 ∧ gt b.regs 0 ≤ (m.regs.length : Int) - 1 := by
          rcases Nat.eq_zero_or_pos k with rfl | hk0
          · simpa using h6'
          · have := allB_true.1 h5 0 hk0
            simp [q] at this
            simpa [inR] using this
        simp [hmne, hbne]
        refine ⟨by omega, by omega, by omega, ?_⟩
        refine DCallNext.obs' [0] (p_checker_must gl m _ [_]) rfl (by simp) (by simp) (by simp [bools]; rfl) (by simp) (by simp [cbox]; rfl) ?_
        simp [cbox, Bank.bx, hkt, hw2]
        refine ⟨by simp [nbox], ?_⟩
        rw [allB_succ]
        simp only [q]
        ac_rfl
      · simp [cbox, Bank.bx, hkt, hw2]
        refine ⟨by simp [nbox], ?_⟩
        have hX : ∀ w : Bool, (ok && allB i (bankOk m) && (A && decide (0 < b.regs.length)) && allB k q && (inR (gt b.regs (k : Nat)) 0 (m.regs.length - 1) && (allB k fun j => !decide (gt b.regs (j : Nat) = gt b.regs (k : Nat))) && w)) = false := fun w => by
          rw [Bool.eq_false_iff]; intro h
          simp only [Bool.and_eq_true, decide_eq_true_eq] at h
          obtain ⟨⟨⟨⟨h1, h2⟩, h3, h4⟩, h5⟩, ⟨h6, h7⟩, -⟩ := h
          have := hno h1 h2 h3 h4 h5 h6
          rw [h7] at this; simp at this
        have e1 := hX true
        rw [Bool.and_true] at e1
        rw [allB_succ, e1]
        have e2 := hX (decide ((gt m.regs (gt b.regs (k : Nat))).width = (gt m.regs (gt b.regs 0)).width))
        rw [← e2]; simp only [q]; ac_rfl
    · obtain rfl : k = b.regs.length := by omega
      simp [cbox, hlt, hw1, nbox]
      rw [allB_succ, hq]; simp [Bool.and_assoc]
  · obtain rfl : i = m.banks.length := by omega
    simp [cbox, okBanks]
    exact ⟨[0], by simp⟩
end Go.Proofs.YteiampdhhigjcaaDoorV

/- Plain laws: words of 64 bits. -/
namespace Go.Proofs.YteiampdhhigjcaaDoorV
open Go
set_option maxHeartbeats 1000000

theorem wrap_u64 {n : Int} (h0 : 0 ≤ n) (h : n < 18446744073709551616) : IntKind.u64.wrap n = n := wrap_id (by simp [IntKind.min, IntKind.signed]; omega) (by simp [IntKind.max, IntKind.signed, IntKind.bits]; omega)
theorem u64_bits : IntKind.u64.bits = 64 := rfl
theorem bv_ofNat {a : Nat} (h : a < 2 ^ 64) : (BitVec.ofInt 64 (a : Int)).toNat = a := by
  rw [BitVec.toNat_ofInt]; omega
theorem and_u64 {a b : Nat} (ha : a < 2 ^ 64) (hb : b < 2 ^ 64) : bandI .u64 (a : Int) (b : Int) = ((a &&& b : Nat) : Int) := by
  rw [bandI, u64_bits, BitVec.toNat_and, bv_ofNat ha, bv_ofNat hb]
  have := Nat.and_lt_two_pow a hb
  exact wrap_u64 (by omega) (by omega)
theorem or_u64 {a b : Nat} (ha : a < 2 ^ 64) (hb : b < 2 ^ 64) : borI .u64 (a : Int) (b : Int) = ((a ||| b : Nat) : Int) := by
  rw [borI, u64_bits, BitVec.toNat_or, bv_ofNat ha, bv_ofNat hb]
  have := Nat.or_lt_two_pow ha hb
  exact wrap_u64 (by omega) (by omega)
theorem andNot_u64 {a b : Nat} (ha : a < 2 ^ 64) (hb : b < 2 ^ 64) : bandNotI .u64 (a : Int) (b : Int) = ((a &&& (2 ^ 64 - 1 - b) : Nat) : Int) := by
  rw [bandNotI, u64_bits, BitVec.toNat_and, BitVec.toNat_not, bv_ofNat ha, bv_ofNat hb]
  have := Nat.and_lt_two_pow a (show 2 ^ 64 - 1 - b < 2 ^ 64 by omega)
  exact wrap_u64 (by omega) (by omega)

/-- The bits of a word that a piece takes. -/
def pmask (p : Piece) : Nat := (2 ^ p.len.toNat - 1) * 2 ^ p.at_.toNat
def takenN (ps : List Piece) : Nat → Nat
  | 0 => 0
  | n + 1 => takenN ps n ||| pmask (gt ps (n : Nat))
def rngOk (word : Int) (ps : List Piece) (j : Nat) : Bool := inR (gt ps (j : Nat)).len 1 (8 * word) && inR (gt ps (j : Nat)).at_ 0 (8 * word - (gt ps (j : Nat)).len)
def pcOk (word : Int) (ps : List Piece) (j : Nat) : Bool := rngOk word ps j && decide (takenN ps j &&& pmask (gt ps (j : Nat)) = 0)
theorem pmask_lt {word : Int} {ps : List Piece} {j : Nat} (hw : 1 ≤ word ∧ word ≤ 4) (h1 : inR (gt ps (j : Nat)).len 1 (8 * word) = true) (h2 : inR (gt ps (j : Nat)).at_ 0 (8 * word - (gt ps (j : Nat)).len) = true) : pmask (gt ps (j : Nat)) < 2 ^ 32 := by
  simp [inR] at h1 h2
  generalize gt ps (j : Nat) = p at *
  unfold pmask
  have hle : p.len.toNat + p.at_.toNat ≤ 32 := by omega
  have h3 : 2 ^ p.len.toNat * 2 ^ p.at_.toNat ≤ 2 ^ 32 := by rw [← Nat.pow_add]; exact Nat.pow_le_pow_right (by omega) hle
  have h4 : 0 < 2 ^ p.at_.toNat := Nat.pow_pos (by omega)
  rw [Nat.sub_mul]
  omega
theorem takenN_lt {word : Int} {ps : List Piece} (hw : 1 ≤ word ∧ word ≤ 4) : ∀ (n : Nat), (∀ j, j < n → rngOk word ps j = true) → takenN ps n < 2 ^ 32
  | 0, _ => by simp [takenN]
  | n + 1, h => by
    rw [takenN]
    have h1 := h n (by omega)
    simp only [rngOk, Bool.and_eq_true] at h1
    exact Nat.or_lt_two_pow (takenN_lt hw n fun j hj => h j (by omega)) (pmask_lt hw h1.1 h1.2)
theorem fieldN_le {word : Int} {ps : List Piece} (hw : 1 ≤ word ∧ word ≤ 4) : ∀ (n : Nat), n ≤ 500 → (∀ j, j < n → rngOk word ps j = true) → 0 ≤ fieldN ps n ∧ fieldN ps n ≤ 32 * n
  | 0, _, _ => by simp [fieldN]
  | n + 1, hn, h => by
    have h1 := fieldN_le hw n (by omega) fun j hj => h j (by omega)
    have h2 := h n (by omega)
    simp only [rngOk, Bool.and_eq_true] at h2
    have h3 : 1 ≤ (gt ps (n : Nat)).len ∧ (gt ps (n : Nat)).len ≤ 8 * word := by simpa [inR] using h2.1
    rw [fieldN, wrap_i64 (by omega) (by omega)]
    omega
theorem shl_one : ∀ n : Nat, n < 63 → shlI .i64 1 (n : Int) = 2 ^ n := by decide
theorem maskI_nat {w : Int} (h : 1 ≤ w ∧ w ≤ 64) : maskI w = ((2 ^ w.toNat - 1 : Nat) : Int) := by
  have hb : wideB w = true := by simp [wideB, inR]; omega
  have : 0 < 2 ^ w.toNat := Nat.pow_pos (by omega)
  simp only [maskI, hb, if_true]
  rw [Int.ofNat_sub (by omega)]
  simp
theorem shl_mask {p : Piece} {word : Int} (hw : 1 ≤ word ∧ word ≤ 4) (h1 : 1 ≤ p.len ∧ p.len ≤ 8 * word) (h2 : 0 ≤ p.at_ ∧ p.at_ ≤ 8 * word - p.len) : shlI .u64 (maskI p.len) p.at_ = (pmask p : Int) := by
  rw [shlI, maskI_nat (by omega)]
  have e1 : min p.at_.toNat IntKind.u64.bits = p.at_.toNat := by rw [u64_bits]; omega
  rw [e1]
  have e2 : ((2 ^ p.len.toNat - 1 : Nat) : Int) * 2 ^ p.at_.toNat = ((pmask p : Nat) : Int) := by unfold pmask; push_cast; rfl
  rw [e2]
  have := pmask_lt (word := word) (ps := [p]) (j := 0) hw (by simp [gt, inR]; omega) (by simp [gt, inR]; omega)
  simp [gt] at this
  exact wrap_u64 (by omega) (by omega)
end Go.Proofs.YteiampdhhigjcaaDoorV

/- Contracts: layer 8 of the program: operands. -/
namespace Go.Proofs.YteiampdhhigjcaaDoorV
open Go
set_option maxRecDepth 100000
set_option maxHeartbeats 4000000

theorem p_machine_field (gl : Glob) (o : Opnd) : PCall Tryd.prog gl 36 [.pv o.pv] (.pv (.int .i64 (fieldI o))) := by
  refine k_machine_field.pcall (by simp) (by simp) (by simp) fun hwf => ?_
  have hb : o.pieces.length ≤ 9223372036854775807 := by have := hwf (.pv o.pv) (by simp); simp only [DV.wf] at this; rw [Opnd.wf_pv] at this; simp [-Opnd.fold, maxLen] at this; exact this.2.2.2.2.1.1
  simp [c_machine_field]
  refine Loop.nat (fun i => { e := [(2, .pv (.int .i64 (fieldN o.pieces i))), (6, .pv (.lst 2 (o.pieces.map Piece.pv))), (7, .pv (.int .i64 o.pieces.length)), (8, .pv (.int .i64 i))], h := [(0, o.bx)], nx := 1 }) o.pieces.length (fun _ => True) (by simp [Opnd.bx]) (by simp) (by simp [Opnd.bx, fieldN]) fun i hi hinv => ?_
  by_cases hlt : i < o.pieces.length
  · simp [hlt, Opnd.bx, fieldN, wrap_nat (show (0:Int) ≤ i + 1 by omega) (by omega)]
  · obtain rfl : i = o.pieces.length := by omega
    simp [fieldI]
theorem p_machine_wide (gl : Glob) (m : Mach) (o : Opnd) (h : o.kind = 1 → (0 ≤ o.bank ∧ o.bank < m.banks.length) ∧ (gt m.banks o.bank).regs ≠ [] ∧ 0 ≤ gt (gt m.banks o.bank).regs 0 ∧ gt (gt m.banks o.bank).regs 0 < m.regs.length) : PCall Tryd.prog gl 59 [.pv m.pv, .pv o.pv] (.pv (.int .i64 (wideI m o))) := by
  refine k_machine_wide.pcall (by simp) (by simp) (by simp) fun hwf => ?_
  by_cases hk : o.kind = 1
  · obtain ⟨h1, h2, h3⟩ := h hk
    have hb : m.banks ≠ [] := by intro hh; simp [hh] at h1; omega
    have hr : m.regs ≠ [] := by intro hh; simp [hh] at h3; omega
    simp [c_machine_wide, hk, hb, hr, h2, wideI]
    have : 0 < (gt m.banks o.bank).regs.length := by cases hh : (gt m.banks o.bank).regs <;> simp_all
    omega
  · simp [c_machine_wide, hk, wideI]

/-- What an operand's kind asks. -/
def kindOk (m : Mach) (s : Ins_) (i : Nat) : Bool :=
  let o := gt s.operands (i : Nat)
  if o.kind = 1 then
    inR o.bank 0 (m.banks.length - 1) && decide (o.scale = 0) &&
    if o.tied = -1 then decide (0 < fieldI o) && (decide (6 < fieldI o) || decide (((gt m.banks o.bank).regs.length : Int) ≤ 2 ^ (fieldI o).toNat))
    else inR o.tied 0 (i - 1) && decide (o.pieces.length = 0) && (let t := gt s.operands o.tied; decide (t.kind = 1) && decide (t.bank = o.bank) && decide (t.tied = -1))
  else if o.kind = 2 ∨ o.kind = 3 ∨ o.kind = 4 then decide (o.bank = 0) && decide (o.tied = -1) && inR o.scale 0 3 && decide (0 < fieldI o) && decide (fieldI o + o.scale ≤ m.address)
  else false
def opOk (m : Mach) (s : Ins_) (i : Nat) : Bool := allB (gt s.operands (i : Nat)).pieces.length (pcOk m.word (gt s.operands (i : Nat)).pieces) && kindOk m s i
/-- What 'operand' gives back. -/
def opTaken (m : Mach) (ok : Bool) (s : Ins_) (i : Nat) : Nat :=
  let o := gt s.operands (i : Nat)
  if allB o.pieces.length (fun j => ok && allB j (pcOk m.word o.pieces) && rngOk m.word o.pieces j) then
    (if o.kind = 1 ∧ ¬ (ok && allB o.pieces.length (pcOk m.word o.pieces) && (inR o.bank 0 (m.banks.length - 1) && decide (o.scale = 0))) = true then 0 else takenN o.pieces o.pieces.length) else 0
theorem opTaken_lt {m : Mach} {ok : Bool} {s : Ins_} {i : Nat} (hw : ok = true → 1 ≤ m.word ∧ m.word ≤ 4) : opTaken m ok s i < 2 ^ 32 := by
  unfold opTaken
  simp only
  split
  · rename_i h
    split
    · omega
    · rcases Nat.eq_zero_or_pos (gt s.operands (i : Nat)).pieces.length with h0 | h0
      · rw [h0]; simp [takenN]
      · have := allB_true.1 h 0 h0
        simp only [Bool.and_eq_true] at this
        exact takenN_lt (hw this.1.1) _ fun j hj => by have := allB_true.1 h j hj; simp only [Bool.and_eq_true] at this; exact this.2
  · omega
theorem opTaken_eq {m : Mach} {ok : Bool} {s : Ins_} {i : Nat} (h : (ok && opOk m s i) = true) : opTaken m ok s i = takenN (gt s.operands (i : Nat)).pieces (gt s.operands (i : Nat)).pieces.length := by
  simp only [opOk, Bool.and_eq_true] at h
  obtain ⟨h1, h2, h3⟩ := h
  unfold opTaken
  simp only
  rw [if_pos (allB_true.2 fun j hj => ?_), if_neg]
  · rintro ⟨hk, hn⟩
    apply hn
    simp only [kindOk, hk, if_true, Bool.and_eq_true] at h3
    simp only [h1, h2, Bool.and_eq_true, h3.1.1, h3.1.2, and_self]
  · have h4 := allB_true.1 h2
    have := h4 j hj
    simp only [pcOk, Bool.and_eq_true] at this
    simp only [h1, this.1, Bool.and_true, Bool.true_and]
    exact allB_true.2 fun k hk => h4 k (by omega)
theorem p_checker_operand (gl : Glob) (m : Mach) (ok : Bool) (s : Ins_) (i : Nat) (hi : i < s.operands.length) (hw : ok = true → 1 ≤ m.word ∧ m.word ≤ 4) (hil : s.operands.length ≤ 500) (hb : m.banks.length ≤ 500) (hp : (gt s.operands (i : Nat)).pieces.length ≤ 500) :
    ACall Tryd.prog gl (.func 49) 1 [.ptr 0 0, .pv s.pv, .pv (.int .i64 i)] [(0, cbox m ok)] (.pv (.int .u64 (opTaken m ok s i))) [(0, cbox m (ok && opOk m s i))] 1 := by
  refine k_machine_checker_operand.acall (by simp) (by simp) (by simp) (by simp [cbox]) (by simp) (by simp [cbox]) fun hwf => ?_
  simp [c_machine_checker_operand, cbox, hi]
  generalize ho : gt s.operands (i : Nat) = o at *
  let R : Nat → Bool := fun j => ok && allB j (pcOk m.word o.pieces) && rngOk m.word o.pieces j
  have hT : opTaken m ok s i = if allB o.pieces.length R then (if o.kind = 1 ∧ ¬ (ok && allB o.pieces.length (pcOk m.word o.pieces) && (inR o.bank 0 (m.banks.length - 1) && decide (o.scale = 0))) = true then 0 else takenN o.pieces o.pieces.length) else 0 := by unfold opTaken; rw [ho]
  have hO : opOk m s i = (allB o.pieces.length (pcOk m.word o.pieces) && kindOk m s i) := by unfold opOk; rw [ho]
  refine Loop.nat (fun j => { e := [(0, .ptr 0 0), (2, .pv (.int .i64 i)), (4, .ptr 1 0), (6, .pv (.int .u64 (takenN o.pieces j : Nat))), (7, .ptr 2 0), (20, .pv (.lst 2 (o.pieces.map Piece.pv))), (21, .pv (.int .i64 o.pieces.length)), (22, .pv (.int .i64 j))], h := [(0, cbox m (ok && allB j (pcOk m.word o.pieces))), (1, s.bx), (2, o.bx)], nx := 3 }) o.pieces.length (fun j => allB j R = true) (by simp [cbox, Ins_.bx, Opnd.bx]) (by simp) (by simp [cbox, takenN, Ins_.bx, Opnd.bx]) fun j hj hinv => ?_
  by_cases hlt : j < o.pieces.length
  · have hw1 : IntKind.i64.wrap ((j : Int) + 1) = (j : Int) + 1 := wrap_nat (by omega) (by omega)
    simp [hlt, cbox]
    refine DCallNext.pure (p_machine_within gl _ _ _) ?_
    simp
    refine DCallNext.obs' [0] (p_checker_must gl m _ [_, _, _]) rfl (by simp) (by simp) (by simp [bools]; exact ⟨rfl, rfl, rfl⟩) (by simp) (by simp [cbox]; rfl) ?_
    simp [cbox]
    refine ⟨fun hno => ?_, fun g1 g2 g3 g4 g5 => ?_⟩
    · have hRj : R j = false := by
        rw [Bool.eq_false_iff]; intro h
        simp only [R, Bool.and_eq_true, rngOk] at h
        obtain ⟨⟨h1, h2⟩, h3, h4⟩ := h
        have hww := hw h1
        have h3' : 1 ≤ (gt o.pieces (j : Nat)).len ∧ (gt o.pieces (j : Nat)).len ≤ 8 * m.word := by simpa [inR] using h3
        have h4' : 0 ≤ (gt o.pieces (j : Nat)).at_ ∧ (gt o.pieces (j : Nat)).at_ ≤ 8 * m.word - (gt o.pieces (j : Nat)).len := by simpa [inR] using h4
        rw [wrap_i64 (n := 8 * m.word) (by omega) (by omega), wrap_i64 (by omega) (by omega), h3, h1, h2] at hno
        simp at hno
        omega
      have hf := allB_false hlt hRj
      have hf2 : (ok && opOk m s i) = false := by
        rw [Bool.eq_false_iff]; intro h
        rw [hO] at h
        simp only [Bool.and_eq_true] at h
        have h4 := allB_true.1 h.2.1
        have h5 : R j = true := by
          have := h4 j hlt
          simp only [pcOk, Bool.and_eq_true] at this
          simp only [R, h.1, this.1, Bool.and_true, Bool.true_and]
          exact allB_true.2 fun k hk => h4 k (by omega)
        rw [hRj] at h5; simp at h5
      rw [hT, if_neg (by simp [hf]), hf2]
      refine ⟨rfl, [0], ?_⟩
      simp
      intro a1 a2 a3 a4
      rcases hno with (h | h) | h | h | h
      · simp [a1] at h
      · simp [a2] at h
      · simp [a3] at h
      · omega
      · exact h
    · have hww := hw g1
      have e8 : IntKind.i64.wrap (8 * m.word) = 8 * m.word := wrap_i64 (by omega) (by omega)
      rw [e8] at g3 g5
      have hA : 1 ≤ (gt o.pieces (j : Nat)).len ∧ (gt o.pieces (j : Nat)).len ≤ 8 * m.word := by simpa [inR] using g3
      rw [wrap_i64 (by omega) (by omega)] at g5
      have hR : ∀ k, k < j → rngOk m.word o.pieces k = true := fun k hk => by have := allB_true.1 hinv k hk; simp only [R, Bool.and_eq_true] at this; exact this.2
      have hrj : rngOk m.word o.pieces j = true := by simp [rngOk, g3]; simp [inR, g4, g5]
      have ht := takenN_lt hww j hR
      have ht2 := takenN_lt hww (j + 1) fun k hk => by rcases Nat.lt_or_eq_of_le (Nat.le_of_lt_succ hk) with hk | rfl; exact hR k hk; exact hrj
      have hpm : pmask (gt o.pieces (j : Nat)) < 2 ^ 32 := pmask_lt (word := m.word) hww g3 (by simp [inR, g4, g5])
      refine DCallNext.pure (p_bits_Mask gl _) ?_
      simp
      rw [shl_mask hww hA ⟨g4, g5⟩, and_u64 (by omega) (by omega)]
      refine ⟨g4, CallNext.obs [0] (p_checker_must gl m _ [_]) (by simp) (by simp) (by simp [bools]; rfl) (by simp [cbox]; rfl) fun _ => ?_⟩
      have hRj : R j = true := by simp [R, g1, g2, hrj]
      have hpj : pcOk m.word o.pieces j = decide (takenN o.pieces j &&& pmask (gt o.pieces (j : Nat)) = 0) := by simp [pcOk, hrj]
      have hwl : inR (gt o.pieces (j : Nat)).len 1 (8 * m.word) = true := g3
      simp [cbox, hlt, hw1, or_u64 (show takenN o.pieces j < 2 ^ 64 by omega) (show pmask (gt o.pieces (j : Nat)) < 2 ^ 64 by omega), allB_succ, hinv, hRj, hpj, takenN, g1, g2, e8, hwl, g4, Ins_.bx, Opnd.bx, wrap_i64 (n := 8 * m.word - (gt o.pieces (j : Nat)).len) (by omega) (by omega), g5]
  · obtain rfl : j = o.pieces.length := by omega
    rw [if_pos hinv] at hT
    have hfield : ok = true → allB o.pieces.length (pcOk m.word o.pieces) = true → 0 ≤ fieldI o ∧ fieldI o ≤ 16000 := fun h1 h2 => by
      have := fieldN_le (hw h1) o.pieces.length hp fun k hk => by have := allB_true.1 h2 k hk; simp only [pcOk, Bool.and_eq_true] at this; exact this.1
      unfold fieldI; omega
    by_cases hk1 : o.kind = 1
    · simp [cbox, hk1, Opnd.bx]
      refine DCallNext.pure (p_machine_within gl _ _ _) ?_
      simp
      rw [wrap_i64 (by omega) (by omega)]
      refine DCallNext.obs' [0] (p_checker_must gl m _ [_, _]) rfl (by simp) (by simp) (by simp [bools]; exact ⟨rfl, rfl⟩) (by simp) (by simp [cbox]; rfl) ?_
      simp [cbox]
      have hkd : kindOk m s i = (inR o.bank 0 (m.banks.length - 1) && decide (o.scale = 0) &&
          if o.tied = -1 then decide (0 < fieldI o) && (decide (6 < fieldI o) || decide (((gt m.banks o.bank).regs.length : Int) ≤ 2 ^ (fieldI o).toNat))
          else inR o.tied 0 (i - 1) && decide (o.pieces.length = 0) && (let t := gt s.operands o.tied; decide (t.kind = 1) && decide (t.bank = o.bank) && decide (t.tied = -1))) := by simp only [kindOk, ho, hk1, if_true]
      refine ⟨fun hno => ?_, fun a1 a2 a3 a4 => ?_⟩
      · have hX : (ok && allB o.pieces.length (pcOk m.word o.pieces) && (inR o.bank 0 (m.banks.length - 1) && decide (o.scale = 0))) = false := by
          rw [Bool.eq_false_iff]; intro h
          simp only [Bool.and_eq_true, decide_eq_true_eq] at h
          obtain ⟨⟨h1, h2⟩, h3, h4⟩ := h
          rcases hno with (h | h) | h | h
          · simp [h1] at h
          · simp [h2] at h
          · simp [h3] at h
          · exact h h4
        have hz : opTaken m ok s i = 0 := by rw [hT, if_pos ⟨hk1, by simp [hX]⟩]
        have hY : (ok && opOk m s i) = false := by
          rw [Bool.eq_false_iff] at hX ⊢
          intro h; apply hX
          rw [hO, hkd] at h
          simp only [Bool.and_eq_true] at h ⊢
          exact ⟨⟨h.1, h.2.1⟩, h.2.2.1⟩
        rw [hz, hY, hX]
        exact ⟨rfl, [0], by simp⟩
      · have hz : opTaken m ok s i = takenN o.pieces o.pieces.length := by rw [hT, if_neg]; rintro ⟨-, h⟩; apply h; simp [a1, a2, a3, a4]
        have hfl := hfield a1 a2
        subst a1
        have a3' : 0 ≤ o.bank ∧ o.bank ≤ (m.banks.length : Int) - 1 := by simpa [inR] using a3
        have hbne : m.banks ≠ [] := by intro h; simp [h] at a3'; omega
        have hone : s.operands ≠ [] := by intro h; simp [h] at hi
        refine ⟨fun htd => ?_, fun htd => ?_⟩
        · refine CallNext.pure (by have := p_machine_field gl o; rw [Opnd.pv_eq, hk1] at this; exact this) fun hwf2 => ?_
          simp [hbne]
          refine ⟨⟨by omega, by omega⟩, by omega, ?_⟩
          refine DCallNext.obs' [0] (p_checker_must gl m _ [_, _]) rfl (by simp) (by simp) (by simp [bools]; exact ⟨rfl, rfl⟩) (by simp) (by simp [cbox]; rfl) ?_
          simp [cbox, hz, hO, hkd, htd, a2, a3, a4]
          refine ⟨[0], ?_⟩
          simp
          by_cases h6 : fieldI o ≤ 6
          · have hs1 := shl_one (fieldI o).toNat (by omega)
            rw [Int.toNat_of_nonneg (by omega)] at hs1
            rw [hs1]
          · simp [show 6 < fieldI o by omega]
        · refine DCallNext.pure (p_machine_within gl _ _ _) ?_
          simp
          rw [wrap_i64 (by omega) (by omega)]
          refine DCallNext.obs' [0] (p_checker_must gl m _ [_, _]) rfl (by simp) (by simp) (by simp [bools]; exact ⟨rfl, rfl⟩) (by simp) (by simp [cbox]; rfl) ?_
          simp [cbox, a2, a3, a4, hone]
          refine ⟨fun b1 b2 => ?_, fun hno => ?_⟩
          · have b1' : 0 ≤ o.tied ∧ o.tied ≤ (i : Int) - 1 := by simpa [inR] using b1
            simp [Ins_.bx, Opnd.bx, hone, hk1, show 0 ≤ o.tied by omega, show o.tied < (s.operands.length : Int) by omega]
            refine CallNext.obs [0] (p_checker_must gl m _ [_, _, _]) (by simp) (by simp) (by simp [bools]; exact ⟨rfl, rfl, rfl⟩) (by simp [cbox]; rfl) fun _ => ?_
            simp [cbox, hz, hO, hkd, htd, a2, a3, a4, b1, b2]
            refine ⟨[0], ?_⟩
            simp
            ac_rfl
          · simp [cbox, hz, hO, hkd, htd, a2, a3, a4]
            refine ⟨[0], ?_⟩
            simp
            exact fun b1 b2 => absurd b2 (hno b1)
    · by_cases hk2 : o.kind = 2 ∨ o.kind = 3 ∨ o.kind = 4
      · have hT' : opTaken m ok s i = takenN o.pieces o.pieces.length := by rw [hT, if_neg fun h => hk1 h.1]
        have hkd : kindOk m s i = (decide (o.bank = 0) && decide (o.tied = -1) && inR o.scale 0 3 && decide (0 < fieldI o) && decide (fieldI o + o.scale ≤ m.address)) := by simp only [kindOk, ho, hk1, if_false, hk2, if_true]
        rw [hT']
        rcases hk2 with hk2 | hk2 | hk2
        all_goals
          simp [cbox, hk2, Opnd.bx]
          refine CallNext.pure (by have := p_machine_field gl o; rw [Opnd.pv_eq, hk2] at this; exact this) fun hwf2 => ?_
          simp
          refine DCallNext.pure (p_machine_within gl _ _ _) ?_
          simp
          refine DCallNext.obs' [0] (p_checker_must gl m _ [_, _, _, _, _]) rfl (by simp) (by simp) (by simp [bools]; exact ⟨rfl, rfl, rfl, rfl, rfl⟩) (by simp) (by simp [cbox]; rfl) ?_
          simp [cbox, hO, hkd]
          refine ⟨[0], ?_⟩
          simp
          by_cases hA : ok = true ∧ allB o.pieces.length (pcOk m.word o.pieces) = true
          · have hfl := hfield hA.1 hA.2
            by_cases hsc : inR o.scale 0 3 = true
            · rw [wrap_i64 (by simp [inR] at hsc; omega) (by simp [inR] at hsc; omega)]
              simp [hA.1, hA.2, hsc]
              ac_rfl
            · simp [hsc]
          · rw [Bool.eq_iff_iff]
            simp only [Bool.and_eq_true]
            exact ⟨fun h => absurd h.1 hA, fun h => absurd ⟨h.1, h.2.1⟩ hA⟩
      · have hk : o.kind ≠ 2 ∧ o.kind ≠ 3 ∧ o.kind ≠ 4 := by omega
        have hT' : opTaken m ok s i = takenN o.pieces o.pieces.length := by rw [hT, if_neg fun h => hk1 h.1]
        have hkd : kindOk m s i = false := by simp only [kindOk, ho, hk1, if_false, hk2]
        simp [cbox, hk1, hk, Opnd.bx]
        refine CallNext.obs [0] (p_checker_must gl m _ [_]) (by simp) (by simp) (by simp [bools]; rfl) (by simp [cbox]; rfl) fun _ => ?_
        simp [cbox, hT', hO, hkd]
        exact ⟨[0], by simp⟩
end Go.Proofs.YteiampdhhigjcaaDoorV

/- Contracts: layer 8 of the program: limits, terms of effects. -/
namespace Go.Proofs.YteiampdhhigjcaaDoorV
open Go
set_option maxRecDepth 100000
set_option maxHeartbeats 4000000

theorem all_take1 {α : Type} [Inhabited α] {l : List α} {i : Nat} (h : i < l.length) (p : α → Bool) : (l.take (i + 1)).all p = ((l.take i).all p && p (gt l (i : Nat))) := by
  rw [gt_nat h, List.take_succ_eq_append_getElem h, List.all_append]; simp
def insSmall (s : Ins_) : Bool := decide (s.operands.length ≤ 4) && decide (s.effects.length ≤ 4) && s.operands.all fun o => decide (o.pieces.length ≤ 4)
theorem p_fewer (gl : Glob) (k n : Nat) : PCall Tryd.prog gl 47 [.pv (.int .i64 (k : Nat)), .flit 1 [.int .i64 n]] (.pv (.bool (decide (n ≤ k)))) := by
  have h : decide (n ≤ k) = decide (max (n : Int) 0 ≤ (k : Nat)) := by by_cases h1 : n ≤ k <;> simp [h1] <;> omega
  rw [h]; exact p_machine_fewer gl _ _
theorem p_machine_small (gl : Glob) (m : Mach) : PCall Tryd.prog gl 28 [.pv m.pv] (.pv (.bool (inLimits m))) := by
  refine k_machine_small.pcall (by simp) (by simp) (by simp) fun hwf => ?_
  have hb := hwf (.pv m.pv) (by simp)
  simp only [DV.wf] at hb; rw [Mach.wf_pv] at hb; simp [-Mach.fold, maxLen] at hb
  obtain ⟨-, -, -, -, ⟨hb1, -⟩, -, ⟨hb2, hb3⟩⟩ := hb
  let A : Bool := decide (m.regs.length ≤ 64) && decide (m.banks.length ≤ 16) && decide (m.units.length ≤ 8) && decide (m.instrs.length ≤ 64)
  let B : Bool := m.banks.all (fun b => decide (b.regs.length ≤ 64))
  simp [c_machine_small]
  refine CallNext.pure (p_fewer gl 64 _) fun _ => ?_
  simp
  refine ⟨_, by intros; exact .of (p_fewer gl 16 _), by simp, ?_⟩
  simp
  refine ⟨_, by intros; exact .of (p_fewer gl 8 _), by simp, ?_⟩
  simp
  refine ⟨_, by intros; exact .of (p_fewer gl 64 _), by simp, ?_⟩
  simp
  refine Loop.nat (fun i => { e := [(1, .ptr 0 0), (3, .pv (.bool (A && (m.banks.take i).all (fun b => decide (b.regs.length ≤ 64))))), (37, .pv (.lst 2 (m.banks.map Bank.pv))), (38, .pv (.int .i64 m.banks.length)), (39, .pv (.int .i64 i))], h := [(0, m.bx)], nx := 1 }) m.banks.length (fun _ => True) (by simp [Mach.bx]) (by simp) (by simp [Mach.bx, A]) fun i hi hinv => ?_
  by_cases hlt : i < m.banks.length
  · simp [hlt, wrap_nat (show (0:Int) ≤ i + 1 by omega) (by omega), Mach.bx]
    refine ⟨_, by intros; exact .of (p_fewer gl 64 _), by simp, ?_⟩
    simp [hlt, wrap_nat (show (0:Int) ≤ i + 1 by omega) (by omega), all_take1 hlt, Bool.and_assoc]
  obtain rfl : i = m.banks.length := by omega
  simp [Mach.bx]
  refine Loop.nat (fun i => { e := [(3, .pv (.bool (A && B && (m.instrs.take i).all insSmall))), (53, .pv (.lst 9 (m.instrs.map Ins_.pv))), (54, .pv (.int .i64 m.instrs.length)), (55, .pv (.int .i64 i))], h := [(0, m.bx)], nx := 1 }) m.instrs.length (fun _ => True) (by simp [Mach.bx]) (by simp) (by simp [Mach.bx, B]) fun i hi hinv => ?_
  by_cases hlt : i < m.instrs.length
  · have hb4 : (gt m.instrs (i : Nat)).operands.length ≤ 9223372036854775807 := by
      have := hb3 _ (gt_mem (i := (i : Nat)) (by omega) (by omega))
      rw [Ins_.wf_pv] at this; simp [-Ins_.fold, maxLen] at this
      exact this.2.2.2.1.1
    simp [hlt, Mach.bx]
    generalize hs : gt m.instrs (i : Nat) = s at *
    refine ⟨_, by intros; exact .of (p_fewer gl 4 _), by simp, ?_⟩
    simp
    refine ⟨_, by intros; exact .of (p_fewer gl 4 _), by simp, ?_⟩
    simp
    refine Loop.nat (fun k => { e := [(3, .pv (.bool (A && B && (m.instrs.take i).all insSmall && decide (s.operands.length ≤ 4) && decide (s.effects.length ≤ 4) && (s.operands.take k).all fun o => decide (o.pieces.length ≤ 4)))), (53, .pv (.lst 9 (m.instrs.map Ins_.pv))), (54, .pv (.int .i64 m.instrs.length)), (55, .pv (.int .i64 i)), (75, .pv (.lst 6 (s.operands.map Opnd.pv))), (76, .pv (.int .i64 s.operands.length)), (77, .pv (.int .i64 k))], h := [(0, m.bx), (1, s.bx)], nx := 2 }) s.operands.length (fun _ => True) (by simp [Mach.bx, Ins_.bx]) (by simp) (by simp [Mach.bx, Ins_.bx]) fun k hk hinv => ?_
    by_cases hkt : k < s.operands.length
    · simp [hkt, Mach.bx, Ins_.bx]
      refine ⟨_, by intros; exact .of (p_fewer gl 4 _), by simp, ?_⟩
      simp [hkt, wrap_nat (show (0:Int) ≤ k + 1 by omega) (by omega), all_take1 hkt, Bool.and_assoc]
    · obtain rfl : k = s.operands.length := by omega
      simp [hlt, wrap_nat (show (0:Int) ≤ i + 1 by omega) (by omega), all_take1 hlt, Bool.and_assoc, hs, insSmall, Mach.bx, Ins_.bx]
  · obtain rfl : i = m.instrs.length := by omega
    simp [inLimits, A, B]
    rfl
theorem p_machine_none (gl : Glob) (l : List Tm) : PCall Tryd.prog gl 61 [.pv (.lst 6 (l.map Tm.pv))] (.pv (.bool (l.all noneB))) := by
  refine k_machine_none.pcall (by simp) (by simp) (by simp) fun hwf => ?_
  have hb : l.length ≤ 9223372036854775807 := by have := hwf (.pv (.lst 6 (l.map Tm.pv))) (by simp); simp [maxLen] at this; exact this.1
  simp [c_machine_none]
  refine Loop.nat (fun i => { e := [(5, .pv (.lst 6 (l.map Tm.pv))), (6, .pv (.int .i64 l.length)), (7, .pv (.int .i64 i))], h := [], nx := 0 }) l.length (fun i => (l.take i).all noneB = true) (by simp) (by simp) (by simp) fun i hi hinv => ?_
  by_cases hlt : i < l.length
  · simp [hlt, wrap_nat (show (0:Int) ≤ i + 1 by omega) (by omega)]
    have hx : noneB (gt l (i : Nat)) = true ↔ (((((gt l (i : Nat)).op = 0 ∧ (gt l (i : Nat)).width = 0) ∧ (gt l (i : Nat)).val = 0) ∧ (gt l (i : Nat)).name = ⟨#[]⟩) ∧ (gt l (i : Nat)).low = 0) ∧ (gt l (i : Nat)).sub = [] := by
      simp only [noneB, Bool.and_eq_true, decide_eq_true_eq, List.length_eq_zero_iff]
    have ht := all_take1 hlt noneB
    rw [hinv, Bool.true_and] at ht
    refine ⟨fun h => ⟨_, gt_mem (i := (i : Nat)) (by omega) (by omega), ?_⟩, fun a b c d e f => ?_⟩
    · rw [Bool.eq_false_iff]; intro hn
      obtain ⟨⟨⟨⟨⟨a, b⟩, c⟩, d⟩, e⟩, f⟩ := hx.1 hn
      simp [a, b, c, d, e, f] at h
    · rw [← List.all_eq_true, ht, hx]
      exact ⟨⟨⟨⟨⟨a, b⟩, c⟩, d⟩, e⟩, f⟩
  · obtain rfl : i = l.length := by omega
    simp at hinv
    simp
    exact hinv

/-- The widths of an instruction's variables, as 'variables' lays them down. -/
def regVars (m : Mach) (n : Nat) : NV := (m.regs.take n).foldl (fun a r => putV a (rname r.name) r.width) [(pc, m.address)]
def insVarsN (m : Mach) (s : Ins_) (n : Nat) : NV := (s.operands.take n).foldl (fun a o => putV a o.name (wideI m o)) (regVars m m.regs.length)
def insVars (m : Mach) (s : Ins_) : NV := insVarsN m s s.operands.length
theorem regVars_succ {m : Mach} {i : Nat} (h : i < m.regs.length) : regVars m (i + 1) = putV (regVars m i) (rname (gt m.regs (i : Nat)).name) (gt m.regs (i : Nat)).width := by
  rw [regVars, List.take_succ_eq_append_getElem h, List.foldl_append, gt_nat h]; rfl
theorem insVars_succ {m : Mach} {s : Ins_} {i : Nat} (h : i < s.operands.length) : insVarsN m s (i + 1) = putV (insVarsN m s i) (gt s.operands (i : Nat)).name (wideI m (gt s.operands (i : Nat))) := by
  rw [insVarsN, List.take_succ_eq_append_getElem h, List.foldl_append, gt_nat h]; rfl
theorem nm_vmap (s : NV) (n : Nat) : (Ob.mp (vmap s)).nm fun i => i < n := fun x hx => by simp only [vmap, List.mem_map] at hx; obtain ⟨y, -, rfl⟩ := hx; simp
@[simp] theorem nm_vmap' {s : NV} {p : Nat → Prop} : (∀ (a : PV) (b : DV), (a, b) ∈ vmap s → DV.nm p b) ↔ True := ⟨fun _ => trivial, fun _ a b h => by simp only [vmap, List.mem_map, Prod.mk.injEq] at h; obtain ⟨y, -, -, rfl⟩ := h; simp⟩
@[simp] theorem ren_vmap {s : NV} {f : Nat → Nat} : (vmap s).map (fun x => (x.fst, DV.ren f x.snd)) = vmap s := by
  simp [vmap, DV.ren]
theorem bel_vmap (s : NV) (n : Nat) : (Ob.mp (vmap s)).bel n := fun x hx => by simp only [vmap, List.mem_map] at hx; obtain ⟨y, -, rfl⟩ := hx; simp
/-- What 'wide' asks. -/
def wideOk (m : Mach) (o : Opnd) : Prop := o.kind = 1 → (0 ≤ o.bank ∧ o.bank < m.banks.length) ∧ (gt m.banks o.bank).regs ≠ [] ∧ 0 ≤ gt (gt m.banks o.bank).regs 0 ∧ gt (gt m.banks o.bank).regs 0 < m.regs.length
theorem p_checker_variables (gl : Glob) (m : Mach) (ok : Bool) (s : Ins_) (hl : m.regs.length ≤ 500) (hn : ∀ r ∈ m.regs, r.name.size ≤ 1000) (hs : s.operands.length ≤ 500) (hw : ∀ o ∈ s.operands, wideOk m o) :
    ACall Tryd.prog gl (.func 50) 1 [.ptr 0 0, .pv s.pv] [(0, cbox m ok)] (.mref 2) [(0, cbox m ok), (2, .mp (vmap (insVars m s)))] 3 := by
  refine k_machine_checker_variables.acall (by simp) (by simp) (by simp) (by simp [cbox]) (by simp) (by simp [cbox]) fun hwf => ?_
  simp [c_machine_checker_variables, cbox]
  have hk : ∀ (n : ByteArray) (s : NV), keysOk 2 (.str n) (vmap s) := fun n s => keysOk_vmap
  refine ⟨hk pc [], ?_⟩
  refine Loop.nat (fun i => { e := [(0, .ptr 0 0), (3, .ptr 1 0), (5, .mref 2), (21, .pv (.lst 4 (m.regs.map Reg.pv))), (22, .pv (.int .i64 m.regs.length)), (23, .pv (.int .i64 i))], h := [(0, cbox m ok), (1, s.bx), (2, .mp (vmap (regVars m i)))], nx := 3 }) m.regs.length (fun _ => True) (by simp [cbox, Ins_.bx]) (by simp) (by simp [cbox, Ins_.bx, regVars, vmap, pc]) fun i hi hinv => ?_
  by_cases hlt : i < m.regs.length
  · simp [hlt, hk, cbox, Ins_.bx, wrap_nat (show (0:Int) ≤ i + 1 by omega) (by omega), regVars_succ hlt, rname, rdot]
    have := hn _ (gt_mem (l := m.regs) (i := (i : Nat)) (by omega) (by omega))
    have h2 : (⟨#[114, 46]⟩ : ByteArray).size = 2 := rfl
    rw [h2]; unfold maxLen; omega
  obtain rfl : i = m.regs.length := by omega
  simp [cbox, Ins_.bx]
  refine Loop.nat (fun i => { e := [(0, .ptr 0 0), (5, .mref 2), (35, .pv (.lst 6 (s.operands.map Opnd.pv))), (36, .pv (.int .i64 s.operands.length)), (37, .pv (.int .i64 i))], h := [(0, cbox m ok), (1, s.bx), (2, .mp (vmap (insVarsN m s i)))], nx := 3 }) s.operands.length (fun _ => True) (by simp [cbox, Ins_.bx]) (by simp) (by simp [cbox, Ins_.bx, insVarsN]) fun i hi hinv => ?_
  by_cases hlt : i < s.operands.length
  · simp [hlt, cbox, Ins_.bx]
    refine DCallNext.pure (p_machine_wide gl m (gt s.operands (i : Nat)) (hw _ (gt_mem (by omega) (by omega)))) ?_
    simp [hlt, hk, wrap_nat (show (0:Int) ≤ i + 1 by omega) (by omega), insVars_succ hlt]
  · obtain rfl : i = s.operands.length := by omega
    simp [cbox, Ins_.bx]
    exact ⟨[0, 2], by simp [insVars]⟩

/-- A valid term's leaves: variables have their widths, loads the address's. -/
def leafB (a : Int) (V : NV) (x : Tm) : Bool := if x.op = 2 then decide ((lookV V x.name).getD 0 = x.width) else if x.op = 24 then decide ((gt x.sub 0).width = a) else true
mutual
def leavesB (a : Int) (V : NV) : Tm → Bool
  | ⟨o, w, v, n, l, ts⟩ => leafB a V ⟨o, w, v, n, l, ts⟩ && leavesL a V ts
def leavesL (a : Int) (V : NV) : List Tm → Bool
  | [] => true
  | t :: r => leavesB a V t && leavesL a V r
end
theorem leavesL_eq {a : Int} {V : NV} : ∀ {l : List Tm}, leavesL a V l = l.all (leavesB a V)
  | [] => rfl
  | t :: r => by rw [leavesL, leavesL_eq, List.all_cons]
theorem leavesB_eq {a : Int} {V : NV} {t : Tm} : leavesB a V t = (leafB a V t && t.sub.all (leavesB a V)) := by cases t; rw [leavesB, leavesL_eq]
mutual
/-- Every load has a part. -/
def Tm.loadsOk : Tm → Bool
  | ⟨o, _, _, _, _, ts⟩ => (!decide (o = 24) || !decide (ts.length = 0)) && Tm.loadsOkL ts
def Tm.loadsOkL : List Tm → Bool
  | [] => true
  | t :: r => t.loadsOk && Tm.loadsOkL r
end
theorem Tm.loadsOkL_eq : ∀ {l : List Tm}, Tm.loadsOkL l = l.all Tm.loadsOk
  | [] => rfl
  | t :: r => by rw [Tm.loadsOkL, Tm.loadsOkL_eq, List.all_cons]
theorem Tm.loadsOk_eq {t : Tm} : t.loadsOk = ((!decide (t.op = 24) || !decide (t.sub.length = 0)) && t.sub.all Tm.loadsOk) := by cases t; rw [Tm.loadsOk, Tm.loadsOkL_eq]
theorem p_checker_leaves (gl : Glob) (m : Mach) (V : NV) (n : Nat) : ∀ (ok : Bool) (t : Tm), SizeOf.sizeOf t < n → t.loadsOk = true →
    ACall Tryd.prog gl (.func 67) 2 [.ptr 0 0, .mref 1, .pv t.pv] [(0, cbox m ok), (1, .mp (vmap V))] (.tup []) [(0, cbox m (ok && leavesB m.address V t)), (1, .mp (vmap V))] 2 := by
  induction n with
  | zero => intro ok t h; omega
  | succ n ih =>
  intro ok t hn hlo
  refine k_machine_checker_leaves.acall (by simp) (by simp) (by simp) (by simp [cbox]) (by simp) (by simp [cbox]) fun hwf => ?_
  have hb := Tm.wf_sub (by simpa using hwf)
  have hk : ∀ (n : ByteArray) (s : NV), keysOk 2 (.str n) (vmap s) := fun n s => keysOk_vmap
  rw [Tm.loadsOk_eq] at hlo
  simp only [Bool.and_eq_true, Bool.or_eq_true, Bool.not_eq_true', decide_eq_false_iff_not, List.length_eq_zero_iff] at hlo
  have hB := @leavesB_eq m.address V t
  have hc : t.op = 2 ∨ t.op = 24 ∨ (t.op ≠ 2 ∧ t.op ≠ 24) := by omega
  rcases hc with h | h | ⟨h, h'⟩
  simp [c_machine_checker_leaves, cbox, h, hk]
  refine CallNext.obs [0] (p_checker_must gl m _ [_]) (by simp) (by simp) (by simp [bools]; rfl) (by simp [cbox]; rfl) fun _ => ?_
  rotate_left
  have hne : t.sub ≠ [] := by rcases hlo.1 with h1 | h1; exact absurd h h1; exact h1
  simp [c_machine_checker_leaves, cbox, h, hk, hne, List.length_pos_iff]
  refine DCallNext.obs' [0] (p_checker_must gl m _ [_]) rfl (by simp) (by simp) (by simp [bools]; rfl) (by simp) (by simp [cbox]; rfl) ?_
  rotate_left
  simp [c_machine_checker_leaves, cbox, h, h', hk]
  all_goals
    try simp [cbox]
    refine Loop.nat (fun i => { e := [(0, .ptr 0 0), (1, .mref 1), (39, .pv (.lst 6 (t.sub.map Tm.pv))), (40, .pv (.int .i64 t.sub.length)), (41, .pv (.int .i64 i))], h := [(0, cbox m (ok && leafB m.address V t && (t.sub.take i).all (leavesB m.address V))), (1, .mp (vmap V)), (2, t.bx)], nx := 3 }) t.sub.length (fun _ => True) (by simp [cbox]) (by simp) (by simp [cbox, Tm.bx, leafB, h] <;> exact fun _ => .inl ‹_›) fun i hi hinv => ?_
    by_cases hlt : i < t.sub.length
    · simp [cbox, Tm.bx, hlt]
      refine CallNext.obs [0, 1] (ih _ (gt t.sub (i : Nat)) (by have := Tm.size_gt hlt; omega) (by have := List.all_eq_true.1 hlo.2; exact this _ (gt_mem (by omega) (by omega)))) (by simp) (by simp) (by simp) (by simp [cbox]; rfl) fun _ => ?_
      simp [hlt, cbox, Tm.bx, wrap_nat (show (0:Int) ≤ i + 1 by omega) (by omega), all_take1 hlt, Bool.and_assoc]
    · obtain rfl : i = t.sub.length := by omega
      simp [cbox, Tm.bx, hB, Bool.and_assoc]
      exact ⟨[0, 1], by simp⟩
end Go.Proofs.YteiampdhhigjcaaDoorV

/- Contracts: layer 8 of the program: effects. -/
namespace Go.Proofs.YteiampdhhigjcaaDoorV
open Go
set_option maxRecDepth 100000
set_option maxHeartbeats 4000000

theorem Tm.formed_loads (n : Nat) : ∀ t : Tm, SizeOf.sizeOf t < n → t.formed = true → t.loadsOk = true := by
  induction n with
  | zero => intro t h; omega
  | succ n ih =>
  intro t hn h
  rw [Tm.formed_eq, Bool.and_eq_true, Tm.formedL_eq] at h
  rw [Tm.loadsOk_eq, Bool.and_eq_true]
  refine ⟨?_, List.all_eq_true.2 fun u hu => ?_⟩
  · by_cases h24 : t.op = 24
    · have := h.2
      simp only [Tm.okNode, h24, Bool.and_eq_true] at this
      simp at this
      simp [h24]
      intro hn; simp [hn] at this
    · simp [h24]
  · obtain ⟨i, hi, rfl⟩ := List.getElem_of_mem hu
    have h1 := Tm.size_gt hi
    rw [gt_nat hi] at h1
    exact ih _ (by omega) (List.all_eq_true.1 h.1 _ hu)
theorem Tm.check_loads {t : Tm} (h : t.check = 0) : t.loadsOk = true := by
  refine Tm.formed_loads _ t (Nat.lt_succ_self _) ?_
  rw [Tm.check_eq] at h
  split at h
  · omega
  · split at h
    · assumption
    · omega
def fitB (m : Mach) (V : NV) (t : Tm) : Bool := decide (t.check = 0) && leavesB m.address V t
theorem p_checker_fits (m : Mach) (V : NV) (ok : Bool) (l : List Tm) (hs : ∀ t ∈ l, t.nodes < 2 ^ 40 ∧ t.depth < 2 ^ 40) :
    ACall Tryd.prog glob (.func 60) 2 [.ptr 0 0, .mref 1, .pv (.lst 6 (l.map Tm.pv))] [(0, cbox m ok), (1, .mp (vmap V))] (.tup []) [(0, cbox m (ok && l.all (fitB m V))), (1, .mp (vmap V))] 2 := by
  refine k_machine_checker_fits.acall (by simp) (by simp) (by simp) (by simp [cbox]) (by simp) (by simp [cbox]) fun hwf => ?_
  have hb : l.length ≤ 9223372036854775807 := by have := hwf (.pv (.lst 6 (l.map Tm.pv))) (by simp); simp [maxLen] at this; exact this.1
  simp [c_machine_checker_fits, cbox]
  refine Loop.nat (fun i => { e := [(0, .ptr 0 0), (1, .mref 1), (8, .pv (.lst 6 (l.map Tm.pv))), (9, .pv (.int .i64 l.length)), (10, .pv (.int .i64 i))], h := [(0, cbox m (ok && (l.take i).all (fitB m V))), (1, .mp (vmap V))], nx := 2 }) l.length (fun _ => True) (by simp [cbox]) (by simp) (by simp [cbox]) fun i hi hinv => ?_
  by_cases hlt : i < l.length
  · have hm := gt_mem (l := l) (i := (i : Nat)) (by omega) (by omega)
    simp [cbox, hlt]
    refine CallNext.pure (p_term_Check _ (hs _ hm).1 (hs _ hm).2) fun _ => ?_
    simp
    refine CallNext.obs [0] (p_checker_must glob m _ [_]) (by simp) (by simp) (by simp [bools]; rfl) (by simp [cbox]; rfl) fun _ => ?_
    simp [cbox]
    refine ⟨fun hno => ?_, fun h1 h2 h3 => ?_⟩
    · refine ⟨[0, 1], ?_⟩
      simp
      rw [Bool.eq_iff_iff]
      simp only [Bool.and_eq_true, List.all_eq_true, decide_eq_true_eq]
      constructor
      · rintro ⟨⟨h1, h2⟩, h3⟩
        rcases hno with (h | ⟨x, hx, h⟩) | h
        · simp [h1] at h
        · rw [h2 x hx] at h; simp at h
        · exact absurd h3 h
      · rintro ⟨h1, h2⟩
        refine ⟨⟨h1, fun x hx => h2 x (List.mem_of_mem_take hx)⟩, ?_⟩
        have := h2 _ hm
        simp only [fitB, Bool.and_eq_true, decide_eq_true_eq] at this
        exact this.1
    · refine CallNext.obs [0, 1] (p_checker_leaves glob m V _ _ _ (Nat.lt_succ_self _) (Tm.check_loads h3)) (by simp) (by simp) (by simp) (by simp [cbox]; rfl) fun _ => ?_
      simp [hlt, cbox, wrap_nat (show (0:Int) ≤ i + 1 by omega) (by omega), all_take1 hlt, fitB, h1, h3]
  · obtain rfl : i = l.length := by omega
    simp [cbox]
    exact ⟨[0, 1], by simp⟩

/-- What an effect asks, the program's way. -/
def effB (m : Mach) (s : Ins_) (V : NV) (x : Eff) : Bool :=
  if x.kind = 1 then fitB m V x.value && ([x.addr, x.cond].all noneB) &&
    (if x.operand = -1 ∧ inR x.reg 0 (m.regs.length - 1) = true then decide (x.value.width = (gt m.regs x.reg).width)
     else if x.reg = 0 ∧ inR x.operand 0 (s.operands.length - 1) = true then decide ((gt s.operands x.operand).kind = 1) && decide (x.value.width = wideI m (gt s.operands x.operand))
     else false)
  else if x.kind = 2 then (decide (x.operand = 0) && decide (x.reg = 0)) && fitB m V x.value && fitB m V x.addr && noneB x.cond && decide (x.addr.width = m.address) && ([8, 16, 32, 64].any fun w => decide (x.value.width = w))
  else if x.kind = 3 then (decide (x.operand = 0) && decide (x.reg = 0)) && fitB m V x.value && noneB x.addr && decide (x.value.width = m.address) && (noneB x.cond || (fitB m V x.cond && decide (x.cond.width = 1)))
  else if x.kind = 4 then (decide (x.operand = 0) && decide (x.reg = 0)) && fitB m V x.value && ([x.addr, x.cond].all noneB)
  else false
theorem p_checker_effect (m : Mach) (V : NV) (ok : Bool) (s : Ins_) (x : Eff) (hs : ∀ t ∈ [x.addr, x.value, x.cond], t.nodes < 2 ^ 40 ∧ t.depth < 2 ^ 40) (hr : m.regs.length ≤ 500) (ho : s.operands.length ≤ 500) (hw : ∀ o ∈ s.operands, wideOk m o) :
    ACall Tryd.prog glob (.func 51) 2 [.ptr 0 0, .pv s.pv, .pv x.pv, .mref 1] [(0, cbox m ok), (1, .mp (vmap V))] (.tup []) [(0, cbox m (ok && effB m s V x)), (1, .mp (vmap V))] 2 := by
  refine k_machine_checker_effect.acall (by simp) (by simp) (by simp) (by simp [cbox]) (by simp) (by simp [cbox]) fun hwf => ?_
  have ha := hs x.addr (by simp)
  have hv := hs x.value (by simp)
  have hc := hs x.cond (by simp)
  by_cases h1 : x.kind = 1
  · simp [c_machine_checker_effect, cbox, h1]
    refine CallNext.obs [0, 1] (p_checker_fits m V _ [x.value] (by simpa using hv)) (by simp) (by simp) (by simp) (by simp [cbox]; rfl) fun _ => ?_
    simp [cbox]
    refine CallNext.pure (p_machine_none glob [x.addr, x.cond]) fun _ => ?_
    simp
    refine CallNext.obs [0] (p_checker_must glob m _ [_]) (by simp) (by simp) (by simp [bools]; rfl) (by simp [cbox]; rfl) fun _ => ?_
    simp [cbox]
    refine ⟨_, by intros; exact .of (p_machine_within glob _ _ _), by simp, ?_⟩
    rw [wrap_i64 (by omega) (by omega)]
    have hrne : inR x.reg 0 (m.regs.length - 1) = true → m.regs ≠ [] := by intro h hn; simp [hn, inR] at h; omega
    have hone : inR x.operand 0 (s.operands.length - 1) = true → s.operands ≠ [] := by intro h hn; simp [hn, inR] at h; omega
    simp
    refine ⟨fun h3 h4 => ?_, fun h3 => ?_⟩
    · have h4' : 0 ≤ x.reg ∧ x.reg ≤ (m.regs.length : Int) - 1 := by simpa [inR] using h4
      simp [hrne h4, show x.reg < (m.regs.length : Int) by omega, h4'.1]
      refine DCallNext.obs' [0] (p_checker_must glob m _ [_]) rfl (by simp) (by simp) (by simp [bools]; rfl) (by simp) (by simp [cbox]; rfl) ?_
      simp [cbox, effB, h1, h3, h4]
      refine ⟨[0, 1], ?_⟩
      simp
      ac_rfl
    · refine ⟨_, by intros; exact .of (p_machine_within glob _ _ _), by simp, ?_⟩
      rw [wrap_i64 (by omega) (by omega)]
      simp
      have h3' : ¬ (x.operand = -1 ∧ inR x.reg 0 (m.regs.length - 1) = true) := by rintro ⟨a, b⟩; simp [h3 a] at b
      refine ⟨fun h4 h5 => ?_, fun h4 => ?_⟩
      · have h5' : 0 ≤ x.operand ∧ x.operand ≤ (s.operands.length : Int) - 1 := by simpa [inR] using h5
        have hwo := hw _ (gt_mem (l := s.operands) (i := x.operand) (by omega) (by omega))
        simp [hone h5, show x.operand < (s.operands.length : Int) by omega, h5'.1]
        refine DCallNext.pure (p_machine_wide glob m _ hwo) ?_
        simp
        refine DCallNext.obs' [0] (p_checker_must glob m _ [_, _]) rfl (by simp) (by simp) (by simp [bools]; exact ⟨rfl, rfl⟩) (by simp) (by simp [cbox]; rfl) ?_
        have hE : effB m s V x = (fitB m V x.value && ([x.addr, x.cond].all noneB) && (decide ((gt s.operands x.operand).kind = 1) && decide (x.value.width = wideI m (gt s.operands x.operand)))) := by rw [effB, if_pos h1, if_neg h3', if_pos ⟨h4, h5⟩]
        simp [cbox, hE]
        refine ⟨[0, 1], ?_⟩
        simp
        ac_rfl
      · refine CallNext.obs [0] (p_checker_must glob m _ [_]) (by simp) (by simp) (by simp [bools]; rfl) (by simp [cbox]; rfl) fun _ => ?_
        have h4' : ¬ (x.reg = 0 ∧ inR x.operand 0 (s.operands.length - 1) = true) := by rintro ⟨a, b⟩; simp [h4 a] at b
        simp [cbox, effB, h1, h3', h4']
        exact ⟨[0, 1], by simp⟩
  by_cases h2 : x.kind = 2
  · simp [c_machine_checker_effect, cbox, h2]
    refine CallNext.obs [0] (p_checker_must glob m _ [_, _]) (by simp) (by simp) (by simp [bools]; exact ⟨rfl, rfl⟩) (by simp [cbox]; rfl) fun _ => ?_
    simp [cbox]
    refine CallNext.obs [0, 1] (p_checker_fits m V _ [x.value] (by simpa using hv)) (by simp) (by simp) (by simp) (by simp [cbox]; rfl) fun _ => ?_
    simp [cbox]
    refine CallNext.obs [0, 1] (p_checker_fits m V _ [x.addr] (by simpa using ha)) (by simp) (by simp) (by simp) (by simp [cbox]; rfl) fun _ => ?_
    simp [cbox]
    refine DCallNext.pure (p_machine_none glob [x.cond]) ?_
    simp
    refine DCallNext.pure (p_slices_Contains_int_int glob [8, 16, 32, 64] x.value.width) ?_
    simp
    refine DCallNext.obs' [0] (p_checker_must glob m _ [_, _, _]) rfl (by simp) (by simp) (by simp [bools]; exact ⟨rfl, rfl, rfl⟩) (by simp) (by simp [cbox]; rfl) ?_
    simp [cbox, effB, h2]
    refine ⟨[0, 1], ?_⟩
    simp
    ac_rfl
  by_cases h3 : x.kind = 3
  · simp [c_machine_checker_effect, cbox, h3]
    refine CallNext.obs [0] (p_checker_must glob m _ [_, _]) (by simp) (by simp) (by simp [bools]; exact ⟨rfl, rfl⟩) (by simp [cbox]; rfl) fun _ => ?_
    simp [cbox]
    refine CallNext.obs [0, 1] (p_checker_fits m V _ [x.value] (by simpa using hv)) (by simp) (by simp) (by simp) (by simp [cbox]; rfl) fun _ => ?_
    simp [cbox]
    refine DCallNext.pure (p_machine_none glob [x.addr]) ?_
    simp
    refine DCallNext.obs' [0] (p_checker_must glob m _ [_, _]) rfl (by simp) (by simp) (by simp [bools]; exact ⟨rfl, rfl⟩) (by simp) (by simp [cbox]; rfl) ?_
    simp [cbox]
    refine CallNext.pure (p_machine_none glob [x.cond]) fun _ => ?_
    simp
    refine ⟨fun h4 => ?_, fun h4 => ?_⟩
    · refine CallNext.obs [0, 1] (p_checker_fits m V _ [x.cond] (by simpa using hc)) (by simp) (by simp) (by simp) (by simp [cbox]; rfl) fun _ => ?_
      simp [cbox]
      refine CallNext.obs [0] (p_checker_must glob m _ [_]) (by simp) (by simp) (by simp [bools]; rfl) (by simp [cbox]; rfl) fun _ => ?_
      simp [cbox, effB, h3, h4]
      refine ⟨[0, 1], ?_⟩
      simp
      ac_rfl
    · simp [cbox, effB, h3, h4]
      refine ⟨[0, 1], ?_⟩
      simp
      ac_rfl
  by_cases h4 : x.kind = 4
  · simp [c_machine_checker_effect, cbox, h4]
    refine CallNext.obs [0] (p_checker_must glob m _ [_, _]) (by simp) (by simp) (by simp [bools]; exact ⟨rfl, rfl⟩) (by simp [cbox]; rfl) fun _ => ?_
    simp [cbox]
    refine CallNext.obs [0, 1] (p_checker_fits m V _ [x.value] (by simpa using hv)) (by simp) (by simp) (by simp) (by simp [cbox]; rfl) fun _ => ?_
    simp [cbox]
    refine CallNext.pure (p_machine_none glob [x.addr, x.cond]) fun _ => ?_
    simp
    refine CallNext.obs [0] (p_checker_must glob m _ [_]) (by simp) (by simp) (by simp [bools]; rfl) (by simp [cbox]; rfl) fun _ => ?_
    simp [cbox, effB, h4]
    refine ⟨[0, 1], ?_⟩
    simp
    ac_rfl
  · simp [c_machine_checker_effect, cbox, h1, h2, h3, h4]
    refine CallNext.obs [0] (p_checker_must glob m _ [_, _]) (by simp) (by simp) (by simp [bools]; exact ⟨rfl, rfl⟩) (by simp [cbox]; rfl) fun _ => ?_
    simp [cbox]
    refine CallNext.obs [0, 1] (p_checker_fits m V _ [x.value] (by simpa using hv)) (by simp) (by simp) (by simp) (by simp [cbox]; rfl) fun _ => ?_
    simp [cbox, h1, h2, h3, h4]
    refine CallNext.obs [0] (p_checker_must glob m _ [_]) (by simp) (by simp) (by simp [bools]; rfl) (by simp [cbox]; rfl) fun _ => ?_
    simp [cbox, effB, h1, h2, h3, h4]
    exact ⟨[0, 1], by simp⟩
end Go.Proofs.YteiampdhhigjcaaDoorV

/- Contracts: layer 8 of the program: instructions. -/
namespace Go.Proofs.YteiampdhhigjcaaDoorV
open Go
set_option maxRecDepth 100000
set_option maxHeartbeats 4000000

/-- Kinds and how many. -/
abbrev KV := List (Int × Int)
def lookK : KV → Int → Option Int
  | [], _ => none
  | (m, w) :: r, n => if n = m then some w else lookK r n
def putK : KV → Int → Int → KV
  | [], n, w => [(n, w)]
  | (m, v) :: r, n, w => if n = m then (n, w) :: r else (m, v) :: putK r n w
def kmap (s : KV) : List (PV × DV) := s.map fun x => (.int .u8 x.1, .pv (.int .i64 x.2))
@[simp] theorem mlook_kmap {n : Int} : ∀ {s : KV}, mlook (kmap s) (.int .u8 n) = (lookK s n).map fun w => .pv (.int .i64 w)
  | [] => rfl
  | (m, w) :: r => by
    have := mlook_kmap (n := n) (s := r)
    simp only [kmap, List.map_cons] at this ⊢
    rw [mlook_cons, lookK, this]; simp; split <;> rfl
@[simp] theorem mput_kmap {n w : Int} : ∀ {s : KV}, mput (kmap s) (.int .u8 n) (.pv (.int .i64 w)) = kmap (putK s n w)
  | [] => rfl
  | (m, v) :: r => by
    have := mput_kmap (n := n) (w := w) (s := r)
    simp only [kmap, List.map_cons] at this ⊢
    rw [mput_cons, putK, this]; simp; split <;> rfl
theorem keysOk_kmap {n : Int} {s : KV} : keysOk 1 (.int .u8 n) (kmap s) := by
  refine ⟨rfl, by omega, fun x hx => ?_⟩
  simp only [kmap, List.mem_map] at hx
  obtain ⟨y, -, rfl⟩ := hx
  rfl
theorem lookK_putK {n m w : Int} : ∀ {s : KV}, lookK (putK s n w) m = if m = n then some w else lookK s m
  | [] => by simp [putK, lookK]
  | (a, v) :: r => by
    rw [putK]
    by_cases h : n = a
    · subst h; simp only [if_true, lookK]; split <;> rfl
    · simp only [h, if_false, lookK, lookK_putK (s := r)]
      by_cases h1 : m = a
      · subst h1; simp [Ne.symm h]
      · simp [h1]
@[simp] theorem nm_kmap {s : KV} {p : Nat → Prop} : (∀ (a : PV) (b : DV), (a, b) ∈ kmap s → DV.nm p b) ↔ True := ⟨fun _ => trivial, fun _ a b h => by simp only [kmap, List.mem_map, Prod.mk.injEq] at h; obtain ⟨y, -, -, rfl⟩ := h; simp⟩
@[simp] theorem ren_kmap {s : KV} {f : Nat → Nat} : (kmap s).map (fun x => (x.fst, DV.ren f x.snd)) = kmap s := by simp [kmap, DV.ren]
def kindsN (s : Ins_) : Nat → KV
  | 0 => []
  | i + 1 => putK (kindsN s i) (gt s.effects (i : Nat)).kind ((lookK (kindsN s i) (gt s.effects (i : Nat)).kind).getD 0 + 1)
theorem kindsN_count (s : Ins_) (k : Int) : ∀ i, i ≤ s.effects.length → (lookK (kindsN s i) k).getD 0 = (((s.effects.take i).filter fun x => decide (x.kind = k)).length : Int)
  | 0, _ => by simp [kindsN, lookK]
  | i + 1, h => by
    have hi : i < s.effects.length := by omega
    have ih := kindsN_count s k i (by omega)
    rw [kindsN, lookK_putK, List.take_succ_eq_append_getElem hi, List.filter_append, List.length_append]
    rw [gt_nat hi]
    by_cases he : k = s.effects[i].kind
    · rw [if_pos he, Option.getD_some, ← he, ih]; simp [he]
    · rw [if_neg he, ih]; simp [Ne.symm he]
theorem kindsN_le (s : Ins_) (k : Int) (i : Nat) (h : i ≤ s.effects.length) : 0 ≤ (lookK (kindsN s i) k).getD 0 ∧ (lookK (kindsN s i) k).getD 0 ≤ i := by
  rw [kindsN_count s k i h]
  have h1 := List.length_filter_le (fun x : Eff => decide (x.kind = k)) (s.effects.take i)
  have h2 := List.length_take_le i s.effects
  omega

/-- An instruction's operands, one by one: all is well; the bits taken so far. -/
def insSt (m : Mach) (s : Ins_) (c : Bool) : Nat → Bool × Nat
  | 0 => (c, s.mask.toNat)
  | i + 1 =>
    let b := (insSt m s c i).1 && freshB (pc :: (s.operands.map (·.name)).take i) (gt s.operands (i : Nat)).name
    let f := opTaken m b s i
    (b && opOk m s i && decide ((insSt m s c i).2 &&& f = 0), (insSt m s c i).2 ||| f)
def insMasks (m : Mach) (s : Ins_) : Bool := decide (bandNotI .u64 s.mask (maskI (IntKind.i64.wrap (8 * m.word))) = 0) && decide (bandNotI .u64 s.mtch s.mask = 0)
def insTail (m : Mach) (s : Ins_) : Bool :=
  decide (countK s 3 ≤ 1) && (decide (countK s 4 = 0) || decide (s.effects.length = 1)) && inR s.unit 0 (m.units.length - 1) && inR s.busy 1 15 && inR s.latency 1 15 && inR s.slots 0 2 && (decide (s.slots = 0) || decide (countK s 3 = 1))
def insB (m : Mach) (s : Ins_) : Bool := (insSt m s (insMasks m s) s.operands.length).1 && s.effects.all (effB m s (insVars m s)) && insTail m s
theorem insSt_mono {m : Mach} {s : Ins_} {c : Bool} : ∀ {i : Nat}, (insSt m s c i).1 = true → c = true
  | 0, h => h
  | i + 1, h => by simp only [insSt, Bool.and_eq_true] at h; exact insSt_mono h.1.1.1
theorem insSt_ops {m : Mach} {s : Ins_} {c : Bool} : ∀ {i : Nat}, (insSt m s c i).1 = true → ∀ j, j < i → opOk m s j = true
  | 0, _, j, hj => by omega
  | i + 1, h, j, hj => by
    simp only [insSt, Bool.and_eq_true] at h
    rcases Nat.lt_or_eq_of_le (Nat.le_of_lt_succ hj) with hj | rfl
    · exact insSt_ops h.1.1.1 j hj
    · exact h.1.2
theorem insSt_lt {m : Mach} {s : Ins_} {c : Bool} (hw : c = true → 1 ≤ m.word ∧ m.word ≤ 4) (hm : s.mask ≤ 18446744073709551615) : ∀ i, (insSt m s c i).2 < 2 ^ 64
  | 0 => by simp only [insSt]; omega
  | i + 1 => by
    simp only [insSt]
    refine Nat.or_lt_two_pow (insSt_lt hw hm i) (Nat.lt_trans (opTaken_lt fun h => ?_) (by decide))
    simp only [Bool.and_eq_true] at h
    exact hw (insSt_mono h.1)
/-- What the banks give for an operand's width. -/
theorem wide_of {m : Mach} {s : Ins_} (hb : okBanks m = true) (h : ∀ j, j < s.operands.length → opOk m s j = true) : ∀ o ∈ s.operands, wideOk m o := by
  intro o ho hk
  obtain ⟨j, hj, rfl⟩ := List.getElem_of_mem ho
  have h1 := h j hj
  simp only [opOk, Bool.and_eq_true, kindOk] at h1
  rw [gt_nat hj] at h1
  have h2 := h1.2
  simp only [hk, if_true, Bool.and_eq_true] at h2
  have h3 : 0 ≤ s.operands[j].bank ∧ s.operands[j].bank ≤ (m.banks.length : Int) - 1 := by simpa [inR] using h2.1.1
  have h4 := allB_true.1 hb s.operands[j].bank.toNat (by omega)
  simp only [bankOk, Bool.and_eq_true] at h4
  rw [Int.toNat_of_nonneg h3.1] at h4
  have h5 := h4.1.1.2
  simp only [decide_eq_true_eq] at h5
  have h6 := allB_true.1 h4.2 0 h5
  simp only [Bool.and_eq_true] at h6
  have h7 : 0 ≤ gt (gt m.banks s.operands[j].bank).regs 0 ∧ gt (gt m.banks s.operands[j].bank).regs 0 ≤ (m.regs.length : Int) - 1 := by simpa [inR] using h6.1.1
  exact ⟨⟨h3.1, by omega⟩, by intro hn; simp [hn] at h5, h7.1, by omega⟩
theorem names_of {m : Mach} (hr : okRegs m = true) : ∀ r ∈ m.regs, r.name.size ≤ 1000 := by
  intro r hr'
  obtain ⟨j, hj, rfl⟩ := List.getElem_of_mem hr'
  simp only [okRegs, Bool.and_eq_true] at hr
  have h1 := allB_true.1 hr.1 j hj
  simp only [rgOk, Bool.and_eq_true] at h1
  have h2 := h1.1.1.1
  rw [gt_nat hj] at h2
  simp only [isName, Bool.and_eq_true, decide_eq_true_eq] at h2
  omega
/-- What bounds a machine of the statements. -/
def insBd (m : Mach) (s : Ins_) : Prop := m.regs.length ≤ 500 ∧ m.banks.length ≤ 500 ∧ m.units.length ≤ 500 ∧ s.operands.length ≤ 500 ∧ s.effects.length ≤ 500 ∧ (∀ o ∈ s.operands, o.pieces.length ≤ 500) ∧ ∀ x ∈ s.effects, ∀ t ∈ [x.addr, x.value, x.cond], t.nodes < 2 ^ 40 ∧ t.depth < 2 ^ 40
theorem p_checker_instr (m : Mach) (ok : Bool) (s : Ins_) (hok : ok = true → (1 ≤ m.word ∧ m.word ≤ 4) ∧ okRegs m = true ∧ okBanks m = true) (hbd : insBd m s) :
    ACall Tryd.prog glob (.func 35) 1 [.ptr 0 0, .pv s.pv] [(0, cbox m ok)] (.tup []) [(0, cbox m (ok && insB m s))] 1 := by
  obtain ⟨hb1, hb2, hb3, hb4, hb5, hb6, hb7⟩ := hbd
  refine k_machine_checker_instr.acall (by simp) (by simp) (by simp) (by simp [cbox]) (by simp) (by simp [cbox]) fun hwf => ?_
  have hmask : 0 ≤ s.mask ∧ s.mask ≤ 18446744073709551615 := by
    have := hwf (.pv s.pv) (by simp)
    simp only [DV.wf] at this; rw [Ins_.wf_pv] at this; simp [-Ins_.fold, maxLen, IntKind.min, IntKind.max, IntKind.signed, IntKind.bits] at this
    exact this.2.1
  have hc : ∀ i, (insSt m s (ok && insMasks m s) i).1 = (ok && (insSt m s (insMasks m s) i).1) := by
    intro i
    cases ok
    · simp only [Bool.false_and]
      rw [Bool.eq_false_iff]; intro h; exact absurd (insSt_mono h) (by simp)
    · simp
  simp [c_machine_checker_instr, cbox]
  refine DCallNext.pure (p_bits_Mask glob _) ?_
  simp
  refine DCallNext.obs' [0] (p_checker_must glob m _ [_, _]) rfl (by simp) (by simp) (by simp [bools]; exact ⟨rfl, rfl⟩) (by simp) (by simp [cbox]; rfl) ?_
  simp [cbox]
  have hu : ∀ i, (pc :: (s.operands.map (·.name)).take i).length ≤ i + 1 := fun i => by simp; omega
  generalize hcd : (ok && insMasks m s) = c at *
  have hw : c = true → 1 ≤ m.word ∧ m.word ≤ 4 := fun h => by rw [← hcd] at h; simp only [Bool.and_eq_true] at h; exact (hok h.1).1
  have htk := insSt_lt hw hmask.2
  have hi0 : (ok && (decide (bandNotI .u64 s.mask (maskI (IntKind.i64.wrap (8 * m.word))) = 0) && decide (bandNotI .u64 s.mtch s.mask = 0))) = c := hcd
  rw [hi0]
  refine Loop.nat (fun i => { e := [(0, .ptr 0 0), (3, .ptr 1 0), (4, .ptr 22 0), (5, .pv (.int .u64 ((insSt m s c i).2 : Nat))), (39, .pv (.lst 6 (s.operands.map Opnd.pv))), (40, .pv (.int .i64 s.operands.length)), (41, .pv (.int .i64 i))], h := [(0, cbox m (insSt m s c i).1), (1, s.bx), (22, nbox 23 (pc :: (s.operands.map (·.name)).take i)), (23, .tip 1 (i + 1))], nx := 24 }) s.operands.length (fun _ => True) (by simp [cbox]) (by simp) (by simp [cbox, nbox, strs, insSt, Ins_.bx, pc, Int.toNat_of_nonneg hmask.1]) fun i hi hinv => ?_
  by_cases hlt : i < s.operands.length
  · have hlen : (pc :: (s.operands.map (·.name)).take i).length = i + 1 := by simp; omega
    have hm := gt_mem (l := s.operands) (i := (i : Nat)) (by omega) (by omega)
    simp [hlt, cbox, Ins_.bx]
    refine CallNext.obs [22, 23] (p_names_fresh glob (pc :: (s.operands.map (·.name)).take i) (gt s.operands (i : Nat)).name (by rw [hlen]; omega)) (by simp) (by simp) (by simp) (by simp [nbox, hlen]) fun _ => ?_
    simp [nbox, cbox]
    refine CallNext.obs [0] (p_checker_must glob m _ [_]) (by simp) (by simp) (by simp [bools]; rfl) (by simp [cbox]; rfl) fun _ => ?_
    simp [cbox]
    let b := (insSt m s c i).1 && freshB (pc :: (s.operands.map (·.name)).take i) (gt s.operands (i : Nat)).name
    have hwb : b = true → 1 ≤ m.word ∧ m.word ≤ 4 := fun h => by simp only [b, Bool.and_eq_true] at h; exact hw (insSt_mono h.1)
    refine CallNext.obs [0] (p_checker_operand glob m b s i hlt hwb hb4 hb2 (hb6 _ hm)) (by simp) (by simp) (by simp) (by simp [cbox, b]) fun _ => ?_
    have hot := opTaken_lt (s := s) (i := i) hwb
    simp [cbox]
    rw [and_u64 (htk i) (by omega)]
    refine CallNext.obs [0] (p_checker_must glob m _ [_]) (by simp) (by simp) (by simp [bools]; rfl) (by simp [cbox]; rfl) fun _ => ?_
    simp [cbox, hlt, wrap_nat (show (0:Int) ≤ i + 1 by omega) (by omega)]
    rw [or_u64 (htk i) (by omega)]
    refine ⟨rfl, rfl, ?_, by omega⟩
    rw [take_names _ hlt]
  obtain rfl : i = s.operands.length := by omega
  simp [cbox, nbox, Ins_.bx]
  have hops : (insSt m s c s.operands.length).1 = true → ok = true ∧ (insSt m s (insMasks m s) s.operands.length).1 = true := fun h => by rw [hc] at h; simpa using h
  refine ⟨fun h => ?_, fun h => ?_⟩
  · refine ⟨[0], ?_⟩
    have h2 := hc s.operands.length
    rw [h] at h2
    simp [h]
    intro ho
    rw [ho, Bool.true_and] at h2
    rw [insB, ← h2]
    simp
  obtain ⟨hok1, hst⟩ := hops h
  obtain ⟨hww, hrg, hbk⟩ := hok hok1
  have hwide := wide_of hbk (insSt_ops h)
  refine CallNext.obs [0] (p_checker_variables glob m _ s hb1 (names_of hrg) hb4 hwide) (by simp) (by simp) (by simp) (by simp [cbox]; rfl) fun _ => ?_
  simp [cbox]
  refine Loop.nat (fun i => { e := [(0, .ptr 0 0), (3, .ptr 1 0), (9, .mref 25), (10, .mref 26), (77, .pv (.lst 21 (s.effects.map Eff.pv))), (78, .pv (.int .i64 s.effects.length)), (79, .pv (.int .i64 i))], h := [(0, cbox m ((s.effects.take i).all (effB m s (insVars m s)))), (1, s.bx), (22, nbox 23 (pc :: s.operands.map (·.name))), (23, .tip 1 (s.operands.length + 1)), (25, .mp (vmap (insVars m s))), (26, .mp (kmap (kindsN s i)))], nx := 27 }) s.effects.length (fun _ => True) (by simp [cbox]) (by simp) (by simp [cbox, nbox, Ins_.bx, h, kindsN, kmap, List.take_of_length_le (show (s.operands.map (·.name)).length ≤ s.operands.length by simp)]) fun i hi hinv => ?_
  by_cases hlt : i < s.effects.length
  · have hm := gt_mem (l := s.effects) (i := (i : Nat)) (by omega) (by omega)
    have hkl := kindsN_le s (gt s.effects (i : Nat)).kind i (by omega)
    have hkk : ∀ (n : Int) (s : KV), keysOk 1 (.int .u8 n) (kmap s) := fun n s => keysOk_kmap
    simp [hlt, cbox, Ins_.bx]
    refine CallNext.obs [0, 25] (p_checker_effect m (insVars m s) _ s (gt s.effects (i : Nat)) (hb7 _ hm) hb1 hb4 hwide) (by simp) (by simp) (by simp) (by simp [cbox]; rfl) fun _ => ?_
    simp [hlt, cbox, Eff.bx, hkk, wrap_nat (show (0:Int) ≤ i + 1 by omega) (by omega), all_take1 hlt, kindsN, wrap_nat (show (0:Int) ≤ (lookK (kindsN s i) (gt s.effects (i : Nat)).kind).getD 0 + 1 by omega) (by omega)]
    simp [nbox]
  obtain rfl : i = s.effects.length := by omega
  have hcnt : ∀ k : Int, (lookK (kindsN s s.effects.length) k).getD 0 = countK s k := fun k => by rw [kindsN_count s k _ (Nat.le_refl _), List.take_length]; rfl
  have hkk : ∀ (n : Int) (s : KV), keysOk 1 (.int .u8 n) (kmap s) := fun n s => keysOk_kmap
  simp [cbox, Ins_.bx, hkk, hcnt]
  refine DCallNext.pure (p_machine_within glob _ _ _) ?_
  simp
  refine DCallNext.pure (p_machine_within glob _ _ _) ?_
  simp
  refine DCallNext.pure (p_machine_within glob _ _ _) ?_
  simp
  refine DCallNext.pure (p_machine_within glob _ _ _) ?_
  simp
  rw [wrap_i64 (by omega) (by omega)]
  refine DCallNext.obs' [0] (p_checker_must glob m _ [_, _, _, _, _, _, _]) rfl (by simp) (by simp) (by simp [bools]; exact ⟨rfl, rfl, rfl, rfl, rfl, rfl, rfl⟩) (by simp) (by simp [cbox]; rfl) ?_
  simp [cbox]
  refine ⟨[0], ?_⟩
  simp [hok1, insB, hst, insTail]
  simp only [show ((s.effects.length : Int) = 1) = (s.effects.length = 1) from propext (by omega), Bool.and_assoc]
end Go.Proofs.YteiampdhhigjcaaDoorV

/- Contracts: layer 8 of the program: Check. -/
namespace Go.Proofs.YteiampdhhigjcaaDoorV
open Go
set_option maxRecDepth 100000
set_option maxHeartbeats 4000000

def chkBase (m : Mach) : Bool := isName m.name && inR m.word 1 4 && (decide (m.address = 16) || decide (m.address = 32)) && okRegs m && okBanks m && okUnits m
def chkSt (m : Mach) : Nat → Bool
  | 0 => chkBase m
  | i + 1 => chkSt m i && freshB ((m.instrs.map (·.name)).take i) (gt m.instrs (i : Nat)).name && insB m (gt m.instrs (i : Nat))
theorem chkSt_base {m : Mach} : ∀ {i : Nat}, chkSt m i = true → chkBase m = true
  | 0, h => h
  | i + 1, h => by simp only [chkSt, Bool.and_eq_true] at h; exact chkSt_base h.1.1
theorem chkSt_le {m : Mach} {i : Nat} : ∀ {n : Nat}, i ≤ n → chkSt m n = true → chkSt m i = true
  | 0, h, hn => by cases Nat.le_zero.1 h; exact hn
  | n + 1, h, hn => by
    rcases Nat.lt_or_eq_of_le h with h | rfl
    · simp only [chkSt, Bool.and_eq_true] at hn; exact chkSt_le (Nat.le_of_lt_succ h) hn.1.1
    · exact hn
def mchk (m : Mach) : Int := if inLimits m then if chkSt m m.instrs.length then 0 else 8 else 4
/-- The terms are of bounded size. -/
def mTerms (m : Mach) : Prop := ∀ s ∈ m.instrs, ∀ x ∈ s.effects, ∀ t ∈ [x.addr, x.value, x.cond], t.nodes < 2 ^ 40 ∧ t.depth < 2 ^ 40
theorem inLimits_iff {m : Mach} (h : inLimits m = true) : m.regs.length ≤ 64 ∧ m.banks.length ≤ 16 ∧ m.units.length ≤ 8 ∧ m.instrs.length ≤ 64 ∧ (∀ b ∈ m.banks, b.regs.length ≤ 64) ∧ ∀ s ∈ m.instrs, s.operands.length ≤ 4 ∧ s.effects.length ≤ 4 ∧ ∀ o ∈ s.operands, o.pieces.length ≤ 4 := by
  simp only [inLimits, Bool.and_eq_true, decide_eq_true_eq, List.all_eq_true] at h
  obtain ⟨⟨⟨⟨⟨h1, h2⟩, h3⟩, h4⟩, h5⟩, h6⟩ := h
  exact ⟨h1, h2, h3, h4, h5, fun s hs => ⟨(h6 s hs).1.1, (h6 s hs).1.2, (h6 s hs).2⟩⟩
theorem p_machine_Check (m : Mach) (ht : mTerms m) : PCall Tryd.prog glob 16 [.pv m.pv] (.pv (.int .i64 (mchk m))) := by
  refine k_machine_Check.pcall (by simp) (by simp) (by simp) fun hwf => ?_
  simp [c_machine_Check]
  refine CallNext.pure (p_machine_small glob m) fun _ => ?_
  simp
  refine ⟨fun hl => ?_, fun hl => ?_⟩
  · simp [mchk, hl]
  obtain ⟨hb1, hb2, hb3, hb4, hb5, hb6⟩ := inLimits_iff hl
  refine DCallNext.pure (p_bits_Name glob _) ?_
  simp
  refine DCallNext.pure (p_machine_within glob _ _ _) ?_
  simp
  refine DCallNext.obs' [1] (p_checker_must glob m true [_, _, _]) rfl (by simp) (by simp) (by simp [bools]; exact ⟨rfl, rfl, rfl⟩) (by simp) (by simp [cbox]) ?_
  simp [cbox]
  refine CallNext.obs [1] (p_checker_regs glob m _ (by omega)) (by simp) (by simp) (by simp) (by simp [cbox]; rfl) fun _ => ?_
  simp [cbox]
  refine CallNext.obs [1] (p_checker_banks glob m _ (by omega) (by omega) (fun b hb => by have := hb5 b hb; omega)) (by simp) (by simp) (by simp) (by simp [cbox]; rfl) fun _ => ?_
  simp [cbox]
  refine CallNext.obs [1] (p_checker_units glob m _ (by omega)) (by simp) (by simp) (by simp) (by simp [cbox]; rfl) fun _ => ?_
  simp [cbox]
  have hB0 : (isName m.name && (inR m.word 1 4 && (decide (m.address = 16) || decide (m.address = 32))) && okRegs m && okBanks m && okUnits m) = chkBase m := by unfold chkBase; ac_rfl
  refine Loop.nat (fun i => { e := [(3, .ptr 1 0), (4, .ptr 19 0), (37, .pv (.lst 9 (m.instrs.map Ins_.pv))), (38, .pv (.int .i64 m.instrs.length)), (39, .pv (.int .i64 i))], h := [(0, m.bx), (1, cbox m (chkSt m i)), (19, nbox 20 ((m.instrs.map (·.name)).take i)), (20, .tip 1 i)], nx := 21 }) m.instrs.length (fun _ => True) (by simp [cbox]) (by simp) (by simp [cbox, nbox, strs, Mach.bx, chkSt, ← hB0]) fun i hi hinv => ?_
  by_cases hlt : i < m.instrs.length
  · have hm := gt_mem (l := m.instrs) (i := (i : Nat)) (by omega) (by omega)
    have hlen : ((m.instrs.map (·.name)).take i).length = i := by simp; omega
    simp [hlt, cbox]
    refine ⟨fun hno => ?_, fun hyes => ?_⟩
    · refine ⟨fun _ => ?_, fun h => by rw [h] at hno; simp at hno⟩
      have hn : chkSt m m.instrs.length = false := by
        rw [Bool.eq_false_iff]; intro h
        rw [chkSt_le hi h] at hno; simp at hno
      simp [mchk, hl, hn]
    · refine CallNext.obs [19, 20] (p_names_fresh glob ((m.instrs.map (·.name)).take i) (gt m.instrs (i : Nat)).name (by rw [hlen]; omega)) (by simp) (by simp) (by simp) (by simp [nbox, hlen]) fun _ => ?_
      simp [nbox, cbox]
      refine CallNext.obs [1] (p_checker_must glob m _ [_]) (by simp) (by simp) (by simp [bools]; rfl) (by simp [cbox]; rfl) fun _ => ?_
      simp [cbox]
      have hbs := chkSt_base hyes
      simp only [chkBase, Bool.and_eq_true] at hbs
      obtain ⟨⟨⟨⟨⟨-, hw⟩, -⟩, hrg⟩, hbk⟩, -⟩ := hbs
      have hw' : 1 ≤ m.word ∧ m.word ≤ 4 := by simpa [inR] using hw
      obtain ⟨h61, h62, h63⟩ := hb6 _ hm
      refine CallNext.obs [1] (p_checker_instr m _ (gt m.instrs (i : Nat)) (fun _ => ⟨hw', hrg, hbk⟩) ⟨by omega, by omega, by omega, by omega, by omega, fun o ho => by have := h63 o ho; omega, ht _ hm⟩) (by simp) (by simp) (by simp) (by simp [cbox]; rfl) fun _ => ?_
      simp [hlt, cbox, Mach.bx, wrap_nat (show (0:Int) ≤ i + 1 by omega) (by omega), chkSt]
      rw [take_names _ hlt]
      exact ⟨rfl, by omega⟩
  · obtain rfl : i = m.instrs.length := by omega
    simp [cbox, mchk, hl]
end Go.Proofs.YteiampdhhigjcaaDoorV

/- The program's functions as trees of our logic (group d). -/
namespace Go.Proofs.YteiampdhhigjcaaDoorV
open Go
set_option maxRecDepth 100000
/- "retarget/retargetref08.Great" -/
def c_retargetref08_Great : C :=
.seq (.reg [⟨some 1, none, .box 7 (.t 0)⟩, ⟨some 2, none, .mov (.c (.pv (.bool false)))⟩]) (.seq (.seq (.reg [⟨some 8, none, .fad 0 (.t 1)⟩, ⟨some 9, none, .load none (.t 8)⟩, ⟨some 10, none, .lens (.t 9)⟩, ⟨some 11, none, .bin .gtr (.t 10) (.c (.pv (.int .i64 100)))⟩, ⟨some 12, none, .mov (.t 11)⟩, ⟨some 13, some (12, false), .fad 3 (.t 1)⟩, ⟨some 14, some (12, false), .load none (.t 13)⟩, ⟨some 15, some (12, false), .len (.t 14)⟩, ⟨some 16, some (12, false), .bin .gtr (.t 15) (.c (.pv (.int .i64 74)))⟩, ⟨some 17, none, .lor (.t 12) (.t 16)⟩, ⟨some 18, none, .mov (.t 17)⟩, ⟨some 19, some (18, false), .fad 4 (.t 1)⟩, ⟨some 20, some (18, false), .load none (.t 19)⟩, ⟨some 21, some (18, false), .len (.t 20)⟩, ⟨some 22, some (18, false), .bin .gtr (.t 21) (.c (.pv (.int .i64 26)))⟩, ⟨some 23, none, .lor (.t 18) (.t 22)⟩, ⟨some 24, none, .mov (.t 23)⟩, ⟨some 25, some (24, false), .fad 5 (.t 1)⟩, ⟨some 26, some (24, false), .load none (.t 25)⟩, ⟨some 27, some (24, false), .len (.t 26)⟩, ⟨some 28, some (24, false), .bin .gtr (.t 27) (.c (.pv (.int .i64 18)))⟩, ⟨some 29, none, .lor (.t 24) (.t 28)⟩, ⟨some 30, none, .mov (.t 29)⟩, ⟨some 31, some (30, false), .fad 6 (.t 1)⟩, ⟨some 32, some (30, false), .load none (.t 31)⟩, ⟨some 33, some (30, false), .len (.t 32)⟩, ⟨some 34, some (30, false), .bin .gtr (.t 33) (.c (.pv (.int .i64 74)))⟩, ⟨some 35, none, .lor (.t 30) (.t 34)⟩]) (.cond (.t 35) (.seq (.reg [⟨some 2, none, .mov (.c (.pv (.bool true)))⟩]) (.ret)) (.skip))) (.seq (.seq (.reg [⟨some 3, none, .mov (.c (.pv (.int .i64 0)))⟩]) (.blk 0 (.loop ⟨[1, 3], [0], 1⟩ (.seq (.seq (.reg [⟨some 36, none, .mov (.t 3)⟩, ⟨some 37, none, .fad 4 (.t 1)⟩, ⟨some 38, none, .load none (.t 37)⟩, ⟨some 39, none, .len (.t 38)⟩, ⟨some 40, none, .bin .lss (.t 36) (.t 39)⟩]) (.cond (.t 40) (.skip) (.ext 0))) (.seq (.blk 1 (.seq (.reg [⟨some 43, none, .fad 4 (.t 1)⟩, ⟨some 44, none, .load none (.t 43)⟩, ⟨some 45, none, .mov (.t 3)⟩, ⟨some 46, none, .iad 2 (.t 44) (.t 45)⟩, ⟨some 47, none, .fad 1 (.t 46)⟩, ⟨some 48, none, .load none (.t 47)⟩, ⟨some 49, none, .len (.t 48)⟩, ⟨some 50, none, .bin .gtr (.t 49) (.c (.pv (.int .i64 74)))⟩, ⟨some 51, none, .mov (.t 50)⟩, ⟨some 52, some (51, false), .fad 4 (.t 1)⟩, ⟨some 53, some (51, false), .load none (.t 52)⟩, ⟨some 54, some (51, false), .mov (.t 3)⟩, ⟨some 55, some (51, false), .iad 2 (.t 53) (.t 54)⟩, ⟨some 56, some (51, false), .fad 0 (.t 55)⟩, ⟨some 57, some (51, false), .load none (.t 56)⟩, ⟨some 58, some (51, false), .lens (.t 57)⟩, ⟨some 59, some (51, false), .bin .gtr (.t 58) (.c (.pv (.int .i64 100)))⟩, ⟨some 60, none, .lor (.t 51) (.t 59)⟩]) (.cond (.t 60) (.seq (.reg [⟨some 2, none, .mov (.c (.pv (.bool true)))⟩]) (.ret)) (.skip)))) (.reg [⟨some 41, none, .mov (.t 3)⟩, ⟨some 42, none, .bin .add (.t 41) (.c (.pv (.int .i64 1)))⟩, ⟨some 3, none, .mov (.t 42)⟩])))))) (.seq (.seq (.reg [⟨some 4, none, .mov (.c (.pv (.int .i64 0)))⟩]) (.blk 2 (.loop ⟨[1, 4], [0], 1⟩ (.seq (.seq (.reg [⟨some 61, none, .mov (.t 4)⟩, ⟨some 62, none, .fad 6 (.t 1)⟩, ⟨some 63, none, .load none (.t 62)⟩, ⟨some 64, none, .len (.t 63)⟩, ⟨some 65, none, .bin .lss (.t 61) (.t 64)⟩]) (.cond (.t 65) (.skip) (.ext 2))) (.seq (.blk 3 (.seq (.reg [⟨some 68, none, .fad 6 (.t 1)⟩, ⟨some 69, none, .load none (.t 68)⟩, ⟨some 70, none, .mov (.t 4)⟩, ⟨some 71, none, .iad 9 (.t 69) (.t 70)⟩, ⟨some 72, none, .load (some 9) (.t 71)⟩, ⟨some 5, none, .alloc [.pv (.str ⟨#[]⟩), .pv (.int .u64 0), .pv (.int .u64 0), .nilS 6, .nilS 21, .pv (.int .i64 0), .pv (.int .i64 0), .pv (.int .i64 0), .pv (.int .i64 0)]⟩, ⟨none, none, .store 9 (.t 5) (.t 72)⟩]) (.seq (.seq (.reg [⟨some 73, none, .fad 3 (.t 5)⟩, ⟨some 74, none, .load none (.t 73)⟩, ⟨some 75, none, .len (.t 74)⟩, ⟨some 76, none, .bin .gtr (.t 75) (.c (.pv (.int .i64 14)))⟩, ⟨some 77, none, .mov (.t 76)⟩, ⟨some 78, some (77, false), .fad 4 (.t 5)⟩, ⟨some 79, some (77, false), .load none (.t 78)⟩, ⟨some 80, some (77, false), .len (.t 79)⟩, ⟨some 81, some (77, false), .bin .gtr (.t 80) (.c (.pv (.int .i64 14)))⟩, ⟨some 82, none, .lor (.t 77) (.t 81)⟩, ⟨some 83, none, .mov (.t 82)⟩, ⟨some 84, some (83, false), .fad 0 (.t 5)⟩, ⟨some 85, some (83, false), .load none (.t 84)⟩, ⟨some 86, some (83, false), .lens (.t 85)⟩, ⟨some 87, some (83, false), .bin .gtr (.t 86) (.c (.pv (.int .i64 100)))⟩, ⟨some 88, none, .lor (.t 83) (.t 87)⟩]) (.cond (.t 88) (.seq (.reg [⟨some 2, none, .mov (.c (.pv (.bool true)))⟩]) (.ret)) (.skip))) (.seq (.seq (.reg [⟨some 6, none, .mov (.c (.pv (.int .i64 0)))⟩]) (.blk 4 (.loop ⟨[1, 4, 5, 6], [0, 1], 2⟩ (.seq (.seq (.reg [⟨some 89, none, .mov (.t 6)⟩, ⟨some 90, none, .fad 3 (.t 5)⟩, ⟨some 91, none, .load none (.t 90)⟩, ⟨some 92, none, .len (.t 91)⟩, ⟨some 93, none, .bin .lss (.t 89) (.t 92)⟩]) (.cond (.t 93) (.skip) (.ext 4))) (.seq (.blk 5 (.seq (.reg [⟨some 96, none, .fad 3 (.t 5)⟩, ⟨some 97, none, .load none (.t 96)⟩, ⟨some 98, none, .mov (.t 6)⟩, ⟨some 99, none, .iad 6 (.t 97) (.t 98)⟩, ⟨some 100, none, .fad 4 (.t 99)⟩, ⟨some 101, none, .load none (.t 100)⟩, ⟨some 102, none, .len (.t 101)⟩, ⟨some 103, none, .bin .gtr (.t 102) (.c (.pv (.int .i64 14)))⟩, ⟨some 104, none, .mov (.t 103)⟩, ⟨some 105, some (104, false), .fad 3 (.t 5)⟩, ⟨some 106, some (104, false), .load none (.t 105)⟩, ⟨some 107, some (104, false), .mov (.t 6)⟩, ⟨some 108, some (104, false), .iad 6 (.t 106) (.t 107)⟩, ⟨some 109, some (104, false), .fad 0 (.t 108)⟩, ⟨some 110, some (104, false), .load none (.t 109)⟩, ⟨some 111, some (104, false), .lens (.t 110)⟩, ⟨some 112, some (104, false), .bin .gtr (.t 111) (.c (.pv (.int .i64 100)))⟩, ⟨some 113, none, .lor (.t 104) (.t 112)⟩]) (.cond (.t 113) (.seq (.reg [⟨some 2, none, .mov (.c (.pv (.bool true)))⟩]) (.ret)) (.skip)))) (.reg [⟨some 94, none, .mov (.t 6)⟩, ⟨some 95, none, .bin .add (.t 94) (.c (.pv (.int .i64 1)))⟩, ⟨some 6, none, .mov (.t 95)⟩])))))) (.seq (.reg [⟨some 7, none, .mov (.c (.pv (.int .i64 0)))⟩]) (.blk 6 (.loop ⟨[1, 4, 5, 7], [0, 1], 2⟩ (.seq (.seq (.reg [⟨some 114, none, .mov (.t 7)⟩, ⟨some 115, none, .fad 4 (.t 5)⟩, ⟨some 116, none, .load none (.t 115)⟩, ⟨some 117, none, .len (.t 116)⟩, ⟨some 118, none, .bin .lss (.t 114) (.t 117)⟩]) (.cond (.t 118) (.skip) (.ext 6))) (.seq (.blk 7 (.seq (.reg [⟨some 121, none, .fad 4 (.t 5)⟩, ⟨some 122, none, .load none (.t 121)⟩, ⟨some 123, none, .mov (.t 7)⟩, ⟨some 124, none, .iad 21 (.t 122) (.t 123)⟩, ⟨some 125, none, .fad 3 (.t 124)⟩, ⟨some 126, none, .load (some 6) (.t 125)⟩, ⟨some 127, none, .callf 11 [(.t 126)]⟩, ⟨some 128, none, .mov (.t 127)⟩, ⟨some 129, some (128, false), .fad 4 (.t 5)⟩, ⟨some 130, some (128, false), .load none (.t 129)⟩, ⟨some 131, some (128, false), .mov (.t 7)⟩, ⟨some 132, some (128, false), .iad 21 (.t 130) (.t 131)⟩, ⟨some 133, some (128, false), .fad 9 (.t 132)⟩, ⟨some 134, some (128, false), .load (some 6) (.t 133)⟩, ⟨some 135, some (128, false), .callf 11 [(.t 134)]⟩, ⟨some 136, none, .lor (.t 128) (.t 135)⟩, ⟨some 137, none, .mov (.t 136)⟩, ⟨some 138, some (137, false), .fad 4 (.t 5)⟩, ⟨some 139, some (137, false), .load none (.t 138)⟩, ⟨some 140, some (137, false), .mov (.t 7)⟩, ⟨some 141, some (137, false), .iad 21 (.t 139) (.t 140)⟩, ⟨some 142, some (137, false), .fad 15 (.t 141)⟩, ⟨some 143, some (137, false), .load (some 6) (.t 142)⟩, ⟨some 144, some (137, false), .callf 11 [(.t 143)]⟩, ⟨some 145, none, .lor (.t 137) (.t 144)⟩]) (.cond (.t 145) (.seq (.reg [⟨some 2, none, .mov (.c (.pv (.bool true)))⟩]) (.ret)) (.skip)))) (.reg [⟨some 119, none, .mov (.t 7)⟩, ⟨some 120, none, .bin .add (.t 119) (.c (.pv (.int .i64 1)))⟩, ⟨some 7, none, .mov (.t 120)⟩])))))))))) (.reg [⟨some 66, none, .mov (.t 4)⟩, ⟨some 67, none, .bin .add (.t 66) (.c (.pv (.int .i64 1)))⟩, ⟨some 4, none, .mov (.t 67)⟩])))))) (.seq (.reg [⟨some 146, none, .load (some 7) (.t 1)⟩, ⟨some 147, none, .callf 12 [(.t 146)]⟩, ⟨some 148, none, .bin .gtr (.t 147) (.c (.pv (.int .i64 1500)))⟩, ⟨some 2, none, .mov (.t 148)⟩]) (.ret)))))
theorem k_retargetref08_Great : FnOk Tryd.prog 4 149 c_retargetref08_Great [.tmp 2] := .mk' (fn := Tryd.f4) rfl rfl (by kernel_rfl) rfl (by kernel_rfl) (by kernel_rfl)
/- "retarget/retargetref08.Nodes" -/
def c_retargetref08_Nodes : C :=
.seq (.reg [⟨some 1, none, .box 7 (.t 0)⟩, ⟨some 2, none, .mov (.c (.pv (.int .i64 0)))⟩]) (.seq (.reg [⟨some 3, none, .mov (.c (.pv (.int .i64 0)))⟩]) (.seq (.seq (.reg [⟨some 4, none, .mov (.c (.pv (.int .i64 0)))⟩]) (.blk 0 (.loop ⟨[1, 3, 4], [0], 1⟩ (.seq (.seq (.reg [⟨some 7, none, .mov (.t 4)⟩, ⟨some 8, none, .fad 6 (.t 1)⟩, ⟨some 9, none, .load none (.t 8)⟩, ⟨some 10, none, .len (.t 9)⟩, ⟨some 11, none, .bin .lss (.t 7) (.t 10)⟩]) (.cond (.t 11) (.skip) (.ext 0))) (.seq (.blk 1 (.seq (.reg [⟨some 5, none, .mov (.c (.pv (.int .i64 0)))⟩]) (.blk 2 (.loop ⟨[1, 3, 4, 5], [0], 1⟩ (.seq (.seq (.reg [⟨some 14, none, .mov (.t 5)⟩, ⟨some 15, none, .fad 6 (.t 1)⟩, ⟨some 16, none, .load none (.t 15)⟩, ⟨some 17, none, .mov (.t 4)⟩, ⟨some 18, none, .iad 9 (.t 16) (.t 17)⟩, ⟨some 19, none, .fad 4 (.t 18)⟩, ⟨some 20, none, .load none (.t 19)⟩, ⟨some 21, none, .len (.t 20)⟩, ⟨some 22, none, .bin .lss (.t 14) (.t 21)⟩]) (.cond (.t 22) (.skip) (.ext 2))) (.seq (.blk 3 (.seq (.reg [⟨some 25, none, .fad 6 (.t 1)⟩, ⟨some 26, none, .load none (.t 25)⟩, ⟨some 27, none, .mov (.t 4)⟩, ⟨some 28, none, .iad 9 (.t 26) (.t 27)⟩, ⟨some 29, none, .fad 4 (.t 28)⟩, ⟨some 30, none, .load none (.t 29)⟩, ⟨some 31, none, .mov (.t 5)⟩, ⟨some 32, none, .iad 21 (.t 30) (.t 31)⟩, ⟨some 33, none, .load (some 21) (.t 32)⟩, ⟨some 6, none, .alloc [.pv (.int .u8 0), .pv (.int .i64 0), .pv (.int .i64 0), .pv (.int .u8 0), .pv (.int .i64 0), .pv (.int .u64 0), .pv (.str ⟨#[]⟩), .pv (.int .i64 0), .nilS 6, .pv (.int .u8 0), .pv (.int .i64 0), .pv (.int .u64 0), .pv (.str ⟨#[]⟩), .pv (.int .i64 0), .nilS 6, .pv (.int .u8 0), .pv (.int .i64 0), .pv (.int .u64 0), .pv (.str ⟨#[]⟩), .pv (.int .i64 0), .nilS 6]⟩, ⟨none, none, .store 21 (.t 6) (.t 33)⟩]) (.dreg [⟨some 34, none, .mov (.t 3)⟩, ⟨some 35, none, .fad 3 (.t 6)⟩, ⟨some 36, none, .load (some 6) (.t 35)⟩, ⟨some 37, none, .callf 25 [(.t 36)]⟩, ⟨some 38, none, .fad 9 (.t 6)⟩, ⟨some 39, none, .load (some 6) (.t 38)⟩, ⟨some 40, none, .callf 25 [(.t 39)]⟩, ⟨some 41, none, .bin .add (.t 37) (.t 40)⟩, ⟨some 42, none, .fad 15 (.t 6)⟩, ⟨some 43, none, .load (some 6) (.t 42)⟩, ⟨some 44, none, .callf 25 [(.t 43)]⟩, ⟨some 45, none, .bin .add (.t 41) (.t 44)⟩, ⟨some 46, none, .bin .add (.t 34) (.t 45)⟩, ⟨some 3, none, .mov (.t 46)⟩] [[], [], [1], [1, 2], [], [4], [1, 2, 3, 4, 5], [1, 2, 3, 4, 5, 6], [], [8], [1, 2, 3, 4, 5, 6, 8, 9], [1, 2, 3, 4, 5, 6, 7, 8, 9, 10], [0, 1, 2, 3, 4, 5, 6, 7, 8, 9, 10, 11], [0, 1, 2, 3, 4, 5, 6, 7, 8, 9, 10, 11, 12]]))) (.reg [⟨some 23, none, .mov (.t 5)⟩, ⟨some 24, none, .bin .add (.t 23) (.c (.pv (.int .i64 1)))⟩, ⟨some 5, none, .mov (.t 24)⟩]))))))) (.reg [⟨some 12, none, .mov (.t 4)⟩, ⟨some 13, none, .bin .add (.t 12) (.c (.pv (.int .i64 1)))⟩, ⟨some 4, none, .mov (.t 13)⟩])))))) (.seq (.reg [⟨some 47, none, .mov (.t 3)⟩, ⟨some 2, none, .mov (.t 47)⟩]) (.ret))))
theorem k_retargetref08_Nodes : FnOk Tryd.prog 12 48 c_retargetref08_Nodes [.tmp 2] := .mk' (fn := Tryd.f12) rfl rfl (by kernel_rfl) rfl (by kernel_rfl) (by kernel_rfl)
/- "retarget/retargetref08.Below" -/
def c_retargetref08_Below : C :=
.seq (.reg [⟨some 4, none, .mov (.c (.pv (.bool false)))⟩]) (.seq (.seq (.reg [⟨some 5, none, .mov (.c (.pv (.int .i64 0)))⟩]) (.blk 0 (.loop ⟨[0, 1, 5], [], 0⟩ (.seq (.seq (.reg [⟨some 6, none, .mov (.t 5)⟩, ⟨some 7, none, .mov (.t 1)⟩, ⟨some 8, none, .bin .lss (.t 6) (.t 7)⟩]) (.cond (.t 8) (.skip) (.ext 0))) (.seq (.blk 1 (.reg [⟨some 11, none, .mov (.t 0)⟩, ⟨some 12, none, .bin .quo (.t 11) (.c (.pv (.int .u64 2)))⟩, ⟨some 0, none, .mov (.t 12)⟩])) (.reg [⟨some 9, none, .mov (.t 5)⟩, ⟨some 10, none, .bin .add (.t 9) (.c (.pv (.int .i64 1)))⟩, ⟨some 5, none, .mov (.t 10)⟩])))))) (.seq (.reg [⟨some 13, none, .mov (.t 0)⟩, ⟨some 14, none, .bin .eql (.t 13) (.c (.pv (.int .u64 0)))⟩, ⟨some 4, none, .mov (.t 14)⟩]) (.ret)))
theorem k_retargetref08_Below : FnOk Tryd.prog 14 15 c_retargetref08_Below [.tmp 4] := .mk' (fn := Tryd.f14) rfl rfl (by kernel_rfl) rfl (by kernel_rfl) (by kernel_rfl)
/- "retarget/retargetref08.Check" -/
def c_retargetref08_Check : C :=
.seq (.reg [⟨some 1, none, .box 7 (.t 0)⟩, ⟨some 2, none, .mov (.c (.pv (.int .i64 0)))⟩]) (.seq (.seq (.reg [⟨some 6, none, .load (some 7) (.t 1)⟩, ⟨some 7, none, .callf 38 [(.t 6)]⟩, ⟨some 8, none, .un .not (.t 7)⟩]) (.cond (.t 8) (.seq (.reg [⟨some 2, none, .mov (.c (.pv (.int .i64 4)))⟩]) (.ret)) (.skip))) (.seq (.seq (.reg [⟨some 9, none, .fad 0 (.t 1)⟩, ⟨some 10, none, .load none (.t 9)⟩, ⟨some 11, none, .callf 39 [(.t 10)]⟩, ⟨some 12, none, .un .not (.t 11)⟩, ⟨some 13, none, .mov (.t 12)⟩, ⟨some 14, some (13, false), .fad 1 (.t 1)⟩, ⟨some 15, some (13, false), .load none (.t 14)⟩, ⟨some 16, some (13, false), .callf 40 [(.t 15), (.c (.pv (.int .i64 1))), (.c (.pv (.int .i64 4)))]⟩, ⟨some 17, some (13, false), .un .not (.t 16)⟩, ⟨some 18, none, .lor (.t 13) (.t 17)⟩, ⟨some 19, none, .mov (.t 18)⟩, ⟨some 20, some (19, false), .fad 2 (.t 1)⟩, ⟨some 21, some (19, false), .load none (.t 20)⟩, ⟨some 22, some (19, false), .bin .neq (.t 21) (.c (.pv (.int .i64 16)))⟩, ⟨some 23, some (19, false), .mov (.t 22)⟩, ⟨some 24, some (23, true), .fad 2 (.t 1)⟩, ⟨some 25, some (23, true), .load none (.t 24)⟩, ⟨some 26, some (23, true), .bin .neq (.t 25) (.c (.pv (.int .i64 32)))⟩, ⟨some 27, some (19, false), .land (.t 23) (.t 26)⟩, ⟨some 28, none, .lor (.t 19) (.t 27)⟩, ⟨some 29, none, .mov (.t 28)⟩, ⟨some 30, some (29, false), .load (some 7) (.t 1)⟩, ⟨some 31, some (29, false), .callf 41 [(.t 30)]⟩, ⟨some 32, some (29, false), .un .not (.t 31)⟩, ⟨some 33, none, .lor (.t 29) (.t 32)⟩, ⟨some 34, none, .mov (.t 33)⟩, ⟨some 35, some (34, false), .load (some 7) (.t 1)⟩, ⟨some 36, some (34, false), .callf 42 [(.t 35)]⟩, ⟨some 37, some (34, false), .un .not (.t 36)⟩, ⟨some 38, none, .lor (.t 34) (.t 37)⟩, ⟨some 39, none, .mov (.t 38)⟩, ⟨some 40, some (39, false), .load (some 7) (.t 1)⟩, ⟨some 41, some (39, false), .callf 43 [(.t 40)]⟩, ⟨some 42, some (39, false), .un .not (.t 41)⟩, ⟨some 43, none, .lor (.t 39) (.t 42)⟩]) (.cond (.t 43) (.seq (.reg [⟨some 2, none, .mov (.c (.pv (.int .i64 8)))⟩]) (.ret)) (.skip))) (.seq (.seq (.reg [⟨some 3, none, .mov (.c (.pv (.int .i64 0)))⟩]) (.blk 0 (.loop ⟨[1, 3], [0], 1⟩ (.seq (.seq (.reg [⟨some 44, none, .mov (.t 3)⟩, ⟨some 45, none, .fad 6 (.t 1)⟩, ⟨some 46, none, .load none (.t 45)⟩, ⟨some 47, none, .len (.t 46)⟩, ⟨some 48, none, .bin .lss (.t 44) (.t 47)⟩]) (.cond (.t 48) (.skip) (.ext 0))) (.seq (.blk 1 (.seq (.reg [⟨some 51, none, .fad 6 (.t 1)⟩, ⟨some 52, none, .load none (.t 51)⟩, ⟨some 53, none, .mov (.t 3)⟩, ⟨some 54, none, .iad 9 (.t 52) (.t 53)⟩, ⟨some 55, none, .load (some 9) (.t 54)⟩, ⟨some 4, none, .alloc [.pv (.str ⟨#[]⟩), .pv (.int .u64 0), .pv (.int .u64 0), .nilS 6, .nilS 21, .pv (.int .i64 0), .pv (.int .i64 0), .pv (.int .i64 0), .pv (.int .i64 0)]⟩, ⟨none, none, .store 9 (.t 4) (.t 55)⟩]) (.seq (.seq (.reg [⟨some 56, none, .fad 0 (.t 4)⟩, ⟨some 57, none, .load none (.t 56)⟩, ⟨some 58, none, .callf 39 [(.t 57)]⟩, ⟨some 59, none, .un .not (.t 58)⟩, ⟨some 60, none, .mov (.t 59)⟩, ⟨some 61, some (60, false), .load (some 7) (.t 1)⟩, ⟨some 62, some (60, false), .load (some 9) (.t 4)⟩, ⟨some 63, some (60, false), .callf 44 [(.t 61), (.t 62)]⟩, ⟨some 64, some (60, false), .un .not (.t 63)⟩, ⟨some 65, none, .lor (.t 60) (.t 64)⟩]) (.cond (.t 65) (.seq (.reg [⟨some 2, none, .mov (.c (.pv (.int .i64 8)))⟩]) (.ret)) (.skip))) (.seq (.reg [⟨some 5, none, .mov (.c (.pv (.int .i64 0)))⟩]) (.blk 2 (.loop ⟨[1, 3, 4, 5], [0, 1], 2⟩ (.seq (.seq (.reg [⟨some 66, none, .mov (.t 5)⟩, ⟨some 67, none, .mov (.t 3)⟩, ⟨some 68, none, .bin .lss (.t 66) (.t 67)⟩]) (.cond (.t 68) (.skip) (.ext 2))) (.seq (.blk 3 (.seq (.dreg [⟨some 71, none, .fad 6 (.t 1)⟩, ⟨some 72, none, .load none (.t 71)⟩, ⟨some 73, none, .mov (.t 5)⟩, ⟨some 74, none, .iad 9 (.t 72) (.t 73)⟩, ⟨some 75, none, .fad 0 (.t 74)⟩, ⟨some 76, none, .load none (.t 75)⟩, ⟨some 77, none, .fad 0 (.t 4)⟩, ⟨some 78, none, .load none (.t 77)⟩, ⟨some 79, none, .bin .eql (.t 76) (.t 78)⟩] [[], [0], [], [0, 1, 2], [0, 1, 2, 3], [0, 1, 2, 3, 4], [], [6], [0, 1, 2, 3, 4, 5, 6, 7]]) (.cond (.t 79) (.seq (.reg [⟨some 2, none, .mov (.c (.pv (.int .i64 8)))⟩]) (.ret)) (.skip)))) (.reg [⟨some 69, none, .mov (.t 5)⟩, ⟨some 70, none, .bin .add (.t 69) (.c (.pv (.int .i64 1)))⟩, ⟨some 5, none, .mov (.t 70)⟩]))))))))) (.reg [⟨some 49, none, .mov (.t 3)⟩, ⟨some 50, none, .bin .add (.t 49) (.c (.pv (.int .i64 1)))⟩, ⟨some 3, none, .mov (.t 50)⟩])))))) (.seq (.reg [⟨some 2, none, .mov (.c (.pv (.int .i64 0)))⟩]) (.ret)))))
theorem k_retargetref08_Check : FnOk Tryd.prog 20 80 c_retargetref08_Check [.tmp 2] := .mk' (fn := Tryd.f20) rfl rfl (by kernel_rfl) rfl (by kernel_rfl) (by kernel_rfl)
/- "retarget/retargetref08.Power" -/
def c_retargetref08_Power : C :=
.seq (.reg [⟨some 2, none, .mov (.c (.pv (.int .i64 0)))⟩]) (.seq (.reg [⟨some 3, none, .mov (.c (.pv (.int .i64 1)))⟩]) (.seq (.seq (.reg [⟨some 4, none, .mov (.c (.pv (.int .i64 0)))⟩]) (.blk 0 (.loop ⟨[0, 3, 4], [], 0⟩ (.seq (.seq (.reg [⟨some 5, none, .mov (.t 4)⟩, ⟨some 6, none, .mov (.t 0)⟩, ⟨some 7, none, .bin .lss (.t 5) (.t 6)⟩]) (.cond (.t 7) (.skip) (.ext 0))) (.seq (.blk 1 (.reg [⟨some 10, none, .mov (.t 3)⟩, ⟨some 11, none, .bin .mul (.c (.pv (.int .i64 2))) (.t 10)⟩, ⟨some 3, none, .mov (.t 11)⟩])) (.reg [⟨some 8, none, .mov (.t 4)⟩, ⟨some 9, none, .bin .add (.t 8) (.c (.pv (.int .i64 1)))⟩, ⟨some 4, none, .mov (.t 9)⟩])))))) (.seq (.reg [⟨some 12, none, .mov (.t 3)⟩, ⟨some 2, none, .mov (.t 12)⟩]) (.ret))))
theorem k_retargetref08_Power : FnOk Tryd.prog 27 13 c_retargetref08_Power [.tmp 2] := .mk' (fn := Tryd.f27) rfl rfl (by kernel_rfl) rfl (by kernel_rfl) (by kernel_rfl)
/- "retarget/retargetref08.within" -/
def c_retargetref08_within : C :=
.seq (.reg [⟨some 1, none, .box 7 (.t 0)⟩, ⟨some 2, none, .mov (.c (.pv (.bool false)))⟩]) (.seq (.seq (.reg [⟨some 6, none, .fad 3 (.t 1)⟩, ⟨some 7, none, .load none (.t 6)⟩, ⟨some 8, none, .len (.t 7)⟩, ⟨some 9, none, .bin .gtr (.t 8) (.c (.pv (.int .i64 64)))⟩, ⟨some 10, none, .mov (.t 9)⟩, ⟨some 11, some (10, false), .fad 4 (.t 1)⟩, ⟨some 12, some (10, false), .load none (.t 11)⟩, ⟨some 13, some (10, false), .len (.t 12)⟩, ⟨some 14, some (10, false), .bin .gtr (.t 13) (.c (.pv (.int .i64 16)))⟩, ⟨some 15, none, .lor (.t 10) (.t 14)⟩, ⟨some 16, none, .mov (.t 15)⟩, ⟨some 17, some (16, false), .fad 5 (.t 1)⟩, ⟨some 18, some (16, false), .load none (.t 17)⟩, ⟨some 19, some (16, false), .len (.t 18)⟩, ⟨some 20, some (16, false), .bin .gtr (.t 19) (.c (.pv (.int .i64 8)))⟩, ⟨some 21, none, .lor (.t 16) (.t 20)⟩, ⟨some 22, none, .mov (.t 21)⟩, ⟨some 23, some (22, false), .fad 6 (.t 1)⟩, ⟨some 24, some (22, false), .load none (.t 23)⟩, ⟨some 25, some (22, false), .len (.t 24)⟩, ⟨some 26, some (22, false), .bin .gtr (.t 25) (.c (.pv (.int .i64 64)))⟩, ⟨some 27, none, .lor (.t 22) (.t 26)⟩]) (.cond (.t 27) (.seq (.reg [⟨some 2, none, .mov (.c (.pv (.bool false)))⟩]) (.ret)) (.skip))) (.seq (.seq (.reg [⟨some 3, none, .mov (.c (.pv (.int .i64 0)))⟩]) (.blk 0 (.loop ⟨[1, 3], [0], 1⟩ (.seq (.seq (.reg [⟨some 28, none, .mov (.t 3)⟩, ⟨some 29, none, .fad 4 (.t 1)⟩, ⟨some 30, none, .load none (.t 29)⟩, ⟨some 31, none, .len (.t 30)⟩, ⟨some 32, none, .bin .lss (.t 28) (.t 31)⟩]) (.cond (.t 32) (.skip) (.ext 0))) (.seq (.blk 1 (.seq (.reg [⟨some 35, none, .fad 4 (.t 1)⟩, ⟨some 36, none, .load none (.t 35)⟩, ⟨some 37, none, .mov (.t 3)⟩, ⟨some 38, none, .iad 2 (.t 36) (.t 37)⟩, ⟨some 39, none, .fad 1 (.t 38)⟩, ⟨some 40, none, .load none (.t 39)⟩, ⟨some 41, none, .len (.t 40)⟩, ⟨some 42, none, .bin .gtr (.t 41) (.c (.pv (.int .i64 64)))⟩]) (.cond (.t 42) (.seq (.reg [⟨some 2, none, .mov (.c (.pv (.bool false)))⟩]) (.ret)) (.skip)))) (.reg [⟨some 33, none, .mov (.t 3)⟩, ⟨some 34, none, .bin .add (.t 33) (.c (.pv (.int .i64 1)))⟩, ⟨some 3, none, .mov (.t 34)⟩])))))) (.seq (.seq (.reg [⟨some 4, none, .mov (.c (.pv (.int .i64 0)))⟩]) (.blk 2 (.loop ⟨[1, 4], [0], 1⟩ (.seq (.seq (.reg [⟨some 43, none, .mov (.t 4)⟩, ⟨some 44, none, .fad 6 (.t 1)⟩, ⟨some 45, none, .load none (.t 44)⟩, ⟨some 46, none, .len (.t 45)⟩, ⟨some 47, none, .bin .lss (.t 43) (.t 46)⟩]) (.cond (.t 47) (.skip) (.ext 2))) (.seq (.blk 3 (.seq (.seq (.reg [⟨some 50, none, .fad 6 (.t 1)⟩, ⟨some 51, none, .load none (.t 50)⟩, ⟨some 52, none, .mov (.t 4)⟩, ⟨some 53, none, .iad 9 (.t 51) (.t 52)⟩, ⟨some 54, none, .fad 3 (.t 53)⟩, ⟨some 55, none, .load none (.t 54)⟩, ⟨some 56, none, .len (.t 55)⟩, ⟨some 57, none, .bin .gtr (.t 56) (.c (.pv (.int .i64 4)))⟩, ⟨some 58, none, .mov (.t 57)⟩, ⟨some 59, some (58, false), .fad 6 (.t 1)⟩, ⟨some 60, some (58, false), .load none (.t 59)⟩, ⟨some 61, some (58, false), .mov (.t 4)⟩, ⟨some 62, some (58, false), .iad 9 (.t 60) (.t 61)⟩, ⟨some 63, some (58, false), .fad 4 (.t 62)⟩, ⟨some 64, some (58, false), .load none (.t 63)⟩, ⟨some 65, some (58, false), .len (.t 64)⟩, ⟨some 66, some (58, false), .bin .gtr (.t 65) (.c (.pv (.int .i64 4)))⟩, ⟨some 67, none, .lor (.t 58) (.t 66)⟩]) (.cond (.t 67) (.seq (.reg [⟨some 2, none, .mov (.c (.pv (.bool false)))⟩]) (.ret)) (.skip))) (.seq (.reg [⟨some 5, none, .mov (.c (.pv (.int .i64 0)))⟩]) (.blk 4 (.loop ⟨[1, 4, 5], [0], 1⟩ (.seq (.seq (.reg [⟨some 68, none, .mov (.t 5)⟩, ⟨some 69, none, .fad 6 (.t 1)⟩, ⟨some 70, none, .load none (.t 69)⟩, ⟨some 71, none, .mov (.t 4)⟩, ⟨some 72, none, .iad 9 (.t 70) (.t 71)⟩, ⟨some 73, none, .fad 3 (.t 72)⟩, ⟨some 74, none, .load none (.t 73)⟩, ⟨some 75, none, .len (.t 74)⟩, ⟨some 76, none, .bin .lss (.t 68) (.t 75)⟩]) (.cond (.t 76) (.skip) (.ext 4))) (.seq (.blk 5 (.seq (.reg [⟨some 79, none, .fad 6 (.t 1)⟩, ⟨some 80, none, .load none (.t 79)⟩, ⟨some 81, none, .mov (.t 4)⟩, ⟨some 82, none, .iad 9 (.t 80) (.t 81)⟩, ⟨some 83, none, .fad 3 (.t 82)⟩, ⟨some 84, none, .load none (.t 83)⟩, ⟨some 85, none, .mov (.t 5)⟩, ⟨some 86, none, .iad 6 (.t 84) (.t 85)⟩, ⟨some 87, none, .fad 4 (.t 86)⟩, ⟨some 88, none, .load none (.t 87)⟩, ⟨some 89, none, .len (.t 88)⟩, ⟨some 90, none, .bin .gtr (.t 89) (.c (.pv (.int .i64 4)))⟩]) (.cond (.t 90) (.seq (.reg [⟨some 2, none, .mov (.c (.pv (.bool false)))⟩]) (.ret)) (.skip)))) (.reg [⟨some 77, none, .mov (.t 5)⟩, ⟨some 78, none, .bin .add (.t 77) (.c (.pv (.int .i64 1)))⟩, ⟨some 5, none, .mov (.t 78)⟩])))))))) (.reg [⟨some 48, none, .mov (.t 4)⟩, ⟨some 49, none, .bin .add (.t 48) (.c (.pv (.int .i64 1)))⟩, ⟨some 4, none, .mov (.t 49)⟩])))))) (.seq (.reg [⟨some 2, none, .mov (.c (.pv (.bool true)))⟩]) (.ret)))))
theorem k_retargetref08_within : FnOk Tryd.prog 38 91 c_retargetref08_within [.tmp 2] := .mk' (fn := Tryd.f38) rfl rfl (by kernel_rfl) rfl (by kernel_rfl) (by kernel_rfl)
/- "retarget/retargetref08.In" -/
def c_retargetref08_In : C :=
.seq (.reg [⟨some 6, none, .mov (.c (.pv (.bool false)))⟩]) (.seq (.reg [⟨some 7, none, .mov (.t 1)⟩, ⟨some 8, none, .mov (.t 0)⟩, ⟨some 9, none, .bin .leq (.t 7) (.t 8)⟩, ⟨some 10, none, .mov (.t 9)⟩, ⟨some 11, some (10, true), .mov (.t 0)⟩, ⟨some 12, some (10, true), .mov (.t 2)⟩, ⟨some 13, some (10, true), .bin .leq (.t 11) (.t 12)⟩, ⟨some 14, none, .land (.t 10) (.t 13)⟩, ⟨some 6, none, .mov (.t 14)⟩]) (.ret))
theorem k_retargetref08_In : FnOk Tryd.prog 40 15 c_retargetref08_In [.tmp 6] := .mk' (fn := Tryd.f40) rfl rfl (by kernel_rfl) rfl (by kernel_rfl) (by kernel_rfl)
/- "retarget/retargetref08.okRegs" -/
def c_retargetref08_okRegs : C :=
.seq (.reg [⟨some 1, none, .box 7 (.t 0)⟩, ⟨some 2, none, .mov (.c (.pv (.bool false)))⟩]) (.seq (.seq (.reg [⟨some 3, none, .mov (.c (.pv (.int .i64 0)))⟩]) (.blk 0 (.loop ⟨[1, 3], [0], 1⟩ (.seq (.seq (.reg [⟨some 7, none, .mov (.t 3)⟩, ⟨some 8, none, .fad 3 (.t 1)⟩, ⟨some 9, none, .load none (.t 8)⟩, ⟨some 10, none, .len (.t 9)⟩, ⟨some 11, none, .bin .lss (.t 7) (.t 10)⟩]) (.cond (.t 11) (.skip) (.ext 0))) (.seq (.blk 1 (.seq (.reg [⟨some 14, none, .fad 3 (.t 1)⟩, ⟨some 15, none, .load none (.t 14)⟩, ⟨some 16, none, .mov (.t 3)⟩, ⟨some 17, none, .iad 4 (.t 15) (.t 16)⟩, ⟨some 18, none, .load (some 4) (.t 17)⟩, ⟨some 4, none, .alloc [.pv (.str ⟨#[]⟩), .pv (.int .i64 0), .pv (.int .i64 0), .pv (.int .i64 0)]⟩, ⟨none, none, .store 4 (.t 4) (.t 18)⟩]) (.seq (.seq (.reg [⟨some 19, none, .fad 0 (.t 4)⟩, ⟨some 20, none, .load none (.t 19)⟩, ⟨some 21, none, .callf 39 [(.t 20)]⟩, ⟨some 22, none, .un .not (.t 21)⟩, ⟨some 23, none, .mov (.t 22)⟩, ⟨some 24, some (23, false), .fad 1 (.t 4)⟩, ⟨some 25, some (23, false), .load none (.t 24)⟩, ⟨some 26, some (23, false), .callf 40 [(.t 25), (.c (.pv (.int .i64 1))), (.c (.pv (.int .i64 64)))]⟩, ⟨some 27, some (23, false), .un .not (.t 26)⟩, ⟨some 28, none, .lor (.t 23) (.t 27)⟩]) (.cond (.t 28) (.seq (.reg [⟨some 2, none, .mov (.c (.pv (.bool false)))⟩]) (.ret)) (.skip))) (.seq (.seq (.reg [⟨some 5, none, .mov (.c (.pv (.int .i64 0)))⟩]) (.blk 2 (.loop ⟨[1, 3, 4, 5], [0, 1], 2⟩ (.seq (.seq (.reg [⟨some 29, none, .mov (.t 5)⟩, ⟨some 30, none, .mov (.t 3)⟩, ⟨some 31, none, .bin .lss (.t 29) (.t 30)⟩]) (.cond (.t 31) (.skip) (.ext 2))) (.seq (.blk 3 (.seq (.dreg [⟨some 34, none, .fad 3 (.t 1)⟩, ⟨some 35, none, .load none (.t 34)⟩, ⟨some 36, none, .mov (.t 5)⟩, ⟨some 37, none, .iad 4 (.t 35) (.t 36)⟩, ⟨some 38, none, .fad 0 (.t 37)⟩, ⟨some 39, none, .load none (.t 38)⟩, ⟨some 40, none, .fad 0 (.t 4)⟩, ⟨some 41, none, .load none (.t 40)⟩, ⟨some 42, none, .bin .eql (.t 39) (.t 41)⟩] [[], [0], [], [0, 1, 2], [0, 1, 2, 3], [0, 1, 2, 3, 4], [], [6], [0, 1, 2, 3, 4, 5, 6, 7]]) (.cond (.t 42) (.seq (.reg [⟨some 2, none, .mov (.c (.pv (.bool false)))⟩]) (.ret)) (.skip)))) (.reg [⟨some 32, none, .mov (.t 5)⟩, ⟨some 33, none, .bin .add (.t 32) (.c (.pv (.int .i64 1)))⟩, ⟨some 5, none, .mov (.t 33)⟩])))))) (.seq (.seq (.reg [⟨some 43, none, .fad 2 (.t 4)⟩, ⟨some 44, none, .load none (.t 43)⟩, ⟨some 45, none, .bin .eql (.t 44) (.c (.pv (.int .i64 (-1))))⟩]) (.cond (.t 45) (.seq (.seq (.reg [⟨some 46, none, .fad 3 (.t 4)⟩, ⟨some 47, none, .load none (.t 46)⟩, ⟨some 48, none, .bin .neq (.t 47) (.c (.pv (.int .i64 0)))⟩]) (.cond (.t 48) (.seq (.reg [⟨some 2, none, .mov (.c (.pv (.bool false)))⟩]) (.ret)) (.skip))) (.ext 1)) (.skip))) (.seq (.seq (.reg [⟨some 49, none, .fad 2 (.t 4)⟩, ⟨some 50, none, .load none (.t 49)⟩, ⟨some 51, none, .fad 3 (.t 1)⟩, ⟨some 52, none, .load none (.t 51)⟩, ⟨some 53, none, .len (.t 52)⟩, ⟨some 54, none, .bin .sub (.t 53) (.c (.pv (.int .i64 1)))⟩, ⟨some 55, none, .callf 40 [(.t 50), (.c (.pv (.int .i64 0))), (.t 54)]⟩, ⟨some 56, none, .un .not (.t 55)⟩]) (.cond (.t 56) (.seq (.reg [⟨some 2, none, .mov (.c (.pv (.bool false)))⟩]) (.ret)) (.skip))) (.seq (.reg [⟨some 57, none, .fad 3 (.t 1)⟩, ⟨some 58, none, .load none (.t 57)⟩, ⟨some 59, none, .fad 2 (.t 4)⟩, ⟨some 60, none, .load none (.t 59)⟩, ⟨some 61, none, .iad 4 (.t 58) (.t 60)⟩, ⟨some 62, none, .load (some 4) (.t 61)⟩, ⟨some 6, none, .alloc [.pv (.str ⟨#[]⟩), .pv (.int .i64 0), .pv (.int .i64 0), .pv (.int .i64 0)]⟩, ⟨none, none, .store 4 (.t 6) (.t 62)⟩]) (.seq (.reg [⟨some 63, none, .fad 2 (.t 6)⟩, ⟨some 64, none, .load none (.t 63)⟩, ⟨some 65, none, .bin .neq (.t 64) (.c (.pv (.int .i64 (-1))))⟩, ⟨some 66, none, .mov (.t 65)⟩, ⟨some 67, some (66, false), .fad 1 (.t 6)⟩, ⟨some 68, some (66, false), .load none (.t 67)⟩, ⟨some 69, some (66, false), .callf 40 [(.t 68), (.c (.pv (.int .i64 1))), (.c (.pv (.int .i64 64)))]⟩, ⟨some 70, some (66, false), .un .not (.t 69)⟩, ⟨some 71, none, .lor (.t 66) (.t 70)⟩, ⟨some 72, none, .mov (.t 71)⟩, ⟨some 73, some (72, false), .fad 1 (.t 4)⟩, ⟨some 74, some (72, false), .load none (.t 73)⟩, ⟨some 75, some (72, false), .fad 1 (.t 6)⟩, ⟨some 76, some (72, false), .load none (.t 75)⟩, ⟨some 77, some (72, false), .bin .geq (.t 74) (.t 76)⟩, ⟨some 78, none, .lor (.t 72) (.t 77)⟩, ⟨some 79, none, .mov (.t 78)⟩, ⟨some 80, some (79, false), .fad 3 (.t 4)⟩, ⟨some 81, some (79, false), .load none (.t 80)⟩, ⟨some 82, some (79, false), .fad 1 (.t 6)⟩, ⟨some 83, some (79, false), .load none (.t 82)⟩, ⟨some 84, some (79, false), .fad 1 (.t 4)⟩, ⟨some 85, some (79, false), .load none (.t 84)⟩, ⟨some 86, some (79, false), .bin .sub (.t 83) (.t 85)⟩, ⟨some 87, some (79, false), .callf 40 [(.t 81), (.c (.pv (.int .i64 0))), (.t 86)]⟩, ⟨some 88, some (79, false), .un .not (.t 87)⟩, ⟨some 89, none, .lor (.t 79) (.t 88)⟩]) (.cond (.t 89) (.seq (.reg [⟨some 2, none, .mov (.c (.pv (.bool false)))⟩]) (.ret)) (.skip)))))))))) (.reg [⟨some 12, none, .mov (.t 3)⟩, ⟨some 13, none, .bin .add (.t 12) (.c (.pv (.int .i64 1)))⟩, ⟨some 3, none, .mov (.t 13)⟩])))))) (.seq (.reg [⟨some 90, none, .fad 3 (.t 1)⟩, ⟨some 91, none, .load none (.t 90)⟩, ⟨some 92, none, .len (.t 91)⟩, ⟨some 93, none, .bin .gtr (.t 92) (.c (.pv (.int .i64 0)))⟩, ⟨some 2, none, .mov (.t 93)⟩]) (.ret)))
theorem k_retargetref08_okRegs : FnOk Tryd.prog 41 94 c_retargetref08_okRegs [.tmp 2] := .mk' (fn := Tryd.f41) rfl rfl (by kernel_rfl) rfl (by kernel_rfl) (by kernel_rfl)
/- "retarget/retargetref08.okBanks" -/
def c_retargetref08_okBanks : C :=
.seq (.reg [⟨some 1, none, .box 7 (.t 0)⟩, ⟨some 2, none, .mov (.c (.pv (.bool false)))⟩]) (.seq (.seq (.reg [⟨some 3, none, .mov (.c (.pv (.int .i64 0)))⟩]) (.blk 0 (.loop ⟨[1, 3], [0], 1⟩ (.seq (.seq (.reg [⟨some 8, none, .mov (.t 3)⟩, ⟨some 9, none, .fad 4 (.t 1)⟩, ⟨some 10, none, .load none (.t 9)⟩, ⟨some 11, none, .len (.t 10)⟩, ⟨some 12, none, .bin .lss (.t 8) (.t 11)⟩]) (.cond (.t 12) (.skip) (.ext 0))) (.seq (.blk 1 (.seq (.reg [⟨some 15, none, .fad 4 (.t 1)⟩, ⟨some 16, none, .load none (.t 15)⟩, ⟨some 17, none, .mov (.t 3)⟩, ⟨some 18, none, .iad 2 (.t 16) (.t 17)⟩, ⟨some 19, none, .load (some 2) (.t 18)⟩, ⟨some 4, none, .alloc [.pv (.str ⟨#[]⟩), .nilS 1]⟩, ⟨none, none, .store 2 (.t 4) (.t 19)⟩]) (.seq (.seq (.reg [⟨some 20, none, .fad 0 (.t 4)⟩, ⟨some 21, none, .load none (.t 20)⟩, ⟨some 22, none, .callf 39 [(.t 21)]⟩, ⟨some 23, none, .un .not (.t 22)⟩, ⟨some 24, none, .mov (.t 23)⟩, ⟨some 25, some (24, false), .fad 1 (.t 4)⟩, ⟨some 26, some (24, false), .load none (.t 25)⟩, ⟨some 27, some (24, false), .len (.t 26)⟩, ⟨some 28, some (24, false), .bin .eql (.t 27) (.c (.pv (.int .i64 0)))⟩, ⟨some 29, none, .lor (.t 24) (.t 28)⟩]) (.cond (.t 29) (.seq (.reg [⟨some 2, none, .mov (.c (.pv (.bool false)))⟩]) (.ret)) (.skip))) (.seq (.seq (.reg [⟨some 5, none, .mov (.c (.pv (.int .i64 0)))⟩]) (.blk 2 (.loop ⟨[1, 3, 4, 5], [0, 1], 2⟩ (.seq (.seq (.reg [⟨some 30, none, .mov (.t 5)⟩, ⟨some 31, none, .mov (.t 3)⟩, ⟨some 32, none, .bin .lss (.t 30) (.t 31)⟩]) (.cond (.t 32) (.skip) (.ext 2))) (.seq (.blk 3 (.seq (.dreg [⟨some 35, none, .fad 4 (.t 1)⟩, ⟨some 36, none, .load none (.t 35)⟩, ⟨some 37, none, .mov (.t 5)⟩, ⟨some 38, none, .iad 2 (.t 36) (.t 37)⟩, ⟨some 39, none, .fad 0 (.t 38)⟩, ⟨some 40, none, .load none (.t 39)⟩, ⟨some 41, none, .fad 0 (.t 4)⟩, ⟨some 42, none, .load none (.t 41)⟩, ⟨some 43, none, .bin .eql (.t 40) (.t 42)⟩] [[], [0], [], [0, 1, 2], [0, 1, 2, 3], [0, 1, 2, 3, 4], [], [6], [0, 1, 2, 3, 4, 5, 6, 7]]) (.cond (.t 43) (.seq (.reg [⟨some 2, none, .mov (.c (.pv (.bool false)))⟩]) (.ret)) (.skip)))) (.reg [⟨some 33, none, .mov (.t 5)⟩, ⟨some 34, none, .bin .add (.t 33) (.c (.pv (.int .i64 1)))⟩, ⟨some 5, none, .mov (.t 34)⟩])))))) (.seq (.reg [⟨some 6, none, .mov (.c (.pv (.int .i64 0)))⟩]) (.blk 4 (.loop ⟨[1, 3, 4, 6], [0, 1], 2⟩ (.seq (.seq (.reg [⟨some 44, none, .mov (.t 6)⟩, ⟨some 45, none, .fad 1 (.t 4)⟩, ⟨some 46, none, .load none (.t 45)⟩, ⟨some 47, none, .len (.t 46)⟩, ⟨some 48, none, .bin .lss (.t 44) (.t 47)⟩]) (.cond (.t 48) (.skip) (.ext 4))) (.seq (.blk 5 (.seq (.seq (.dreg [⟨some 51, none, .fad 1 (.t 4)⟩, ⟨some 52, none, .load none (.t 51)⟩, ⟨some 53, none, .mov (.t 6)⟩, ⟨some 54, none, .iad 1 (.t 52) (.t 53)⟩, ⟨some 55, none, .load none (.t 54)⟩, ⟨some 56, none, .fad 3 (.t 1)⟩, ⟨some 57, none, .load none (.t 56)⟩, ⟨some 58, none, .len (.t 57)⟩, ⟨some 59, none, .bin .sub (.t 58) (.c (.pv (.int .i64 1)))⟩, ⟨some 60, none, .callf 40 [(.t 55), (.c (.pv (.int .i64 0))), (.t 59)]⟩, ⟨some 61, none, .un .not (.t 60)⟩] [[], [0], [], [0, 1, 2], [0, 1, 2, 3], [], [5], [5, 6], [5, 6, 7], [0, 1, 2, 3, 4, 5, 6, 7, 8], [0, 1, 2, 3, 4, 5, 6, 7, 8, 9]]) (.cond (.t 61) (.seq (.reg [⟨some 2, none, .mov (.c (.pv (.bool false)))⟩]) (.ret)) (.skip))) (.seq (.seq (.reg [⟨some 7, none, .mov (.c (.pv (.int .i64 0)))⟩]) (.blk 6 (.loop ⟨[1, 3, 4, 6, 7], [0, 1], 13⟩ (.seq (.seq (.reg [⟨some 62, none, .mov (.t 7)⟩, ⟨some 63, none, .mov (.t 6)⟩, ⟨some 64, none, .bin .lss (.t 62) (.t 63)⟩]) (.cond (.t 64) (.skip) (.ext 6))) (.seq (.blk 7 (.seq (.dreg [⟨some 67, none, .fad 1 (.t 4)⟩, ⟨some 68, none, .load none (.t 67)⟩, ⟨some 69, none, .mov (.t 7)⟩, ⟨some 70, none, .iad 1 (.t 68) (.t 69)⟩, ⟨some 71, none, .load none (.t 70)⟩, ⟨some 72, none, .fad 1 (.t 4)⟩, ⟨some 73, none, .load none (.t 72)⟩, ⟨some 74, none, .mov (.t 6)⟩, ⟨some 75, none, .iad 1 (.t 73) (.t 74)⟩, ⟨some 76, none, .load none (.t 75)⟩, ⟨some 77, none, .bin .eql (.t 71) (.t 76)⟩] [[], [0], [], [0, 1, 2], [0, 1, 2, 3], [], [5], [], [5, 6, 7], [5, 6, 7, 8], [0, 1, 2, 3, 4, 5, 6, 7, 8, 9]]) (.cond (.t 77) (.seq (.reg [⟨some 2, none, .mov (.c (.pv (.bool false)))⟩]) (.ret)) (.skip)))) (.reg [⟨some 65, none, .mov (.t 7)⟩, ⟨some 66, none, .bin .add (.t 65) (.c (.pv (.int .i64 1)))⟩, ⟨some 7, none, .mov (.t 66)⟩])))))) (.seq (.dreg [⟨some 78, none, .fad 3 (.t 1)⟩, ⟨some 79, none, .load none (.t 78)⟩, ⟨some 80, none, .fad 1 (.t 4)⟩, ⟨some 81, none, .load none (.t 80)⟩, ⟨some 82, none, .mov (.t 6)⟩, ⟨some 83, none, .iad 1 (.t 81) (.t 82)⟩, ⟨some 84, none, .load none (.t 83)⟩, ⟨some 85, none, .iad 4 (.t 79) (.t 84)⟩, ⟨some 86, none, .fad 1 (.t 85)⟩, ⟨some 87, none, .load none (.t 86)⟩, ⟨some 88, none, .fad 3 (.t 1)⟩, ⟨some 89, none, .load none (.t 88)⟩, ⟨some 90, none, .fad 1 (.t 4)⟩, ⟨some 91, none, .load none (.t 90)⟩, ⟨some 92, none, .iad 1 (.t 91) (.c (.pv (.int .i64 0)))⟩, ⟨some 93, none, .load none (.t 92)⟩, ⟨some 94, none, .iad 4 (.t 89) (.t 93)⟩, ⟨some 95, none, .fad 1 (.t 94)⟩, ⟨some 96, none, .load none (.t 95)⟩, ⟨some 97, none, .bin .neq (.t 87) (.t 96)⟩] [[], [0], [], [2], [], [2, 3, 4], [2, 3, 4, 5], [0, 1, 2, 3, 4, 5, 6], [0, 1, 2, 3, 4, 5, 6, 7], [0, 1, 2, 3, 4, 5, 6, 7, 8], [], [10], [], [12], [12, 13], [12, 13, 14], [10, 11, 12, 13, 14, 15], [10, 11, 12, 13, 14, 15, 16], [10, 11, 12, 13, 14, 15, 16, 17], [0, 1, 2, 3, 4, 5, 6, 7, 8, 9, 10, 11, 12, 13, 14, 15, 16, 17, 18]]) (.cond (.t 97) (.seq (.reg [⟨some 2, none, .mov (.c (.pv (.bool false)))⟩]) (.ret)) (.skip)))))) (.reg [⟨some 49, none, .mov (.t 6)⟩, ⟨some 50, none, .bin .add (.t 49) (.c (.pv (.int .i64 1)))⟩, ⟨some 6, none, .mov (.t 50)⟩])))))))))) (.reg [⟨some 13, none, .mov (.t 3)⟩, ⟨some 14, none, .bin .add (.t 13) (.c (.pv (.int .i64 1)))⟩, ⟨some 3, none, .mov (.t 14)⟩])))))) (.seq (.reg [⟨some 2, none, .mov (.c (.pv (.bool true)))⟩]) (.ret)))
theorem k_retargetref08_okBanks : FnOk Tryd.prog 42 98 c_retargetref08_okBanks [.tmp 2] := .mk' (fn := Tryd.f42) rfl rfl (by kernel_rfl) rfl (by kernel_rfl) (by kernel_rfl)
/- "retarget/retargetref08.okUnits" -/
def c_retargetref08_okUnits : C :=
.seq (.reg [⟨some 1, none, .box 7 (.t 0)⟩, ⟨some 2, none, .mov (.c (.pv (.bool false)))⟩]) (.seq (.seq (.reg [⟨some 3, none, .mov (.c (.pv (.int .i64 0)))⟩]) (.blk 0 (.loop ⟨[1, 3], [0], 1⟩ (.seq (.seq (.reg [⟨some 5, none, .mov (.t 3)⟩, ⟨some 6, none, .fad 5 (.t 1)⟩, ⟨some 7, none, .load none (.t 6)⟩, ⟨some 8, none, .len (.t 7)⟩, ⟨some 9, none, .bin .lss (.t 5) (.t 8)⟩]) (.cond (.t 9) (.skip) (.ext 0))) (.seq (.blk 1 (.seq (.seq (.reg [⟨some 12, none, .fad 5 (.t 1)⟩, ⟨some 13, none, .load none (.t 12)⟩, ⟨some 14, none, .mov (.t 3)⟩, ⟨some 15, none, .iad 2 (.t 13) (.t 14)⟩, ⟨some 16, none, .fad 0 (.t 15)⟩, ⟨some 17, none, .load none (.t 16)⟩, ⟨some 18, none, .callf 39 [(.t 17)]⟩, ⟨some 19, none, .un .not (.t 18)⟩, ⟨some 20, none, .mov (.t 19)⟩, ⟨some 21, some (20, false), .fad 5 (.t 1)⟩, ⟨some 22, some (20, false), .load none (.t 21)⟩, ⟨some 23, some (20, false), .mov (.t 3)⟩, ⟨some 24, some (20, false), .iad 2 (.t 22) (.t 23)⟩, ⟨some 25, some (20, false), .fad 1 (.t 24)⟩, ⟨some 26, some (20, false), .load none (.t 25)⟩, ⟨some 27, some (20, false), .callf 40 [(.t 26), (.c (.pv (.int .i64 1))), (.c (.pv (.int .i64 4)))]⟩, ⟨some 28, some (20, false), .un .not (.t 27)⟩, ⟨some 29, none, .lor (.t 20) (.t 28)⟩]) (.cond (.t 29) (.seq (.reg [⟨some 2, none, .mov (.c (.pv (.bool false)))⟩]) (.ret)) (.skip))) (.seq (.reg [⟨some 4, none, .mov (.c (.pv (.int .i64 0)))⟩]) (.blk 2 (.loop ⟨[1, 3, 4], [0], 1⟩ (.seq (.seq (.reg [⟨some 30, none, .mov (.t 4)⟩, ⟨some 31, none, .mov (.t 3)⟩, ⟨some 32, none, .bin .lss (.t 30) (.t 31)⟩]) (.cond (.t 32) (.skip) (.ext 2))) (.seq (.blk 3 (.seq (.dreg [⟨some 35, none, .fad 5 (.t 1)⟩, ⟨some 36, none, .load none (.t 35)⟩, ⟨some 37, none, .mov (.t 4)⟩, ⟨some 38, none, .iad 2 (.t 36) (.t 37)⟩, ⟨some 39, none, .fad 0 (.t 38)⟩, ⟨some 40, none, .load none (.t 39)⟩, ⟨some 41, none, .fad 5 (.t 1)⟩, ⟨some 42, none, .load none (.t 41)⟩, ⟨some 43, none, .mov (.t 3)⟩, ⟨some 44, none, .iad 2 (.t 42) (.t 43)⟩, ⟨some 45, none, .fad 0 (.t 44)⟩, ⟨some 46, none, .load none (.t 45)⟩, ⟨some 47, none, .bin .eql (.t 40) (.t 46)⟩] [[], [0], [], [0, 1, 2], [0, 1, 2, 3], [0, 1, 2, 3, 4], [], [6], [], [6, 7, 8], [6, 7, 8, 9], [6, 7, 8, 9, 10], [0, 1, 2, 3, 4, 5, 6, 7, 8, 9, 10, 11]]) (.cond (.t 47) (.seq (.reg [⟨some 2, none, .mov (.c (.pv (.bool false)))⟩]) (.ret)) (.skip)))) (.reg [⟨some 33, none, .mov (.t 4)⟩, ⟨some 34, none, .bin .add (.t 33) (.c (.pv (.int .i64 1)))⟩, ⟨some 4, none, .mov (.t 34)⟩])))))))) (.reg [⟨some 10, none, .mov (.t 3)⟩, ⟨some 11, none, .bin .add (.t 10) (.c (.pv (.int .i64 1)))⟩, ⟨some 3, none, .mov (.t 11)⟩])))))) (.seq (.reg [⟨some 48, none, .fad 5 (.t 1)⟩, ⟨some 49, none, .load none (.t 48)⟩, ⟨some 50, none, .len (.t 49)⟩, ⟨some 51, none, .bin .gtr (.t 50) (.c (.pv (.int .i64 0)))⟩, ⟨some 2, none, .mov (.t 51)⟩]) (.ret)))
theorem k_retargetref08_okUnits : FnOk Tryd.prog 43 52 c_retargetref08_okUnits [.tmp 2] := .mk' (fn := Tryd.f43) rfl rfl (by kernel_rfl) rfl (by kernel_rfl) (by kernel_rfl)
/- "retarget/retargetref08.okInstr" -/
def c_retargetref08_okInstr : C :=
.seq (.reg [⟨some 2, none, .box 7 (.t 0)⟩, ⟨some 3, none, .box 9 (.t 1)⟩, ⟨some 4, none, .mov (.c (.pv (.bool false)))⟩]) (.seq (.seq (.reg [⟨some 10, none, .fad 1 (.t 3)⟩, ⟨some 11, none, .load none (.t 10)⟩, ⟨some 12, none, .fad 1 (.t 2)⟩, ⟨some 13, none, .load none (.t 12)⟩, ⟨some 14, none, .bin .mul (.c (.pv (.int .i64 8))) (.t 13)⟩, ⟨some 15, none, .callf 14 [(.t 11), (.t 14)]⟩, ⟨some 16, none, .un .not (.t 15)⟩]) (.cond (.t 16) (.seq (.reg [⟨some 4, none, .mov (.c (.pv (.bool false)))⟩]) (.ret)) (.skip))) (.seq (.seq (.reg [⟨some 5, none, .mov (.c (.pv (.int .i64 0)))⟩]) (.blk 0 (.loop ⟨[2, 3, 5], [0, 1], 2⟩ (.seq (.seq (.reg [⟨some 17, none, .mov (.t 5)⟩, ⟨some 18, none, .bin .lss (.t 17) (.c (.pv (.int .i64 64)))⟩]) (.cond (.t 18) (.skip) (.ext 0))) (.seq (.blk 1 (.seq (.dreg [⟨some 21, none, .fad 2 (.t 3)⟩, ⟨some 22, none, .load none (.t 21)⟩, ⟨some 23, none, .mov (.t 5)⟩, ⟨some 24, none, .callf 52 [(.t 22), (.t 23)]⟩, ⟨some 25, none, .fad 1 (.t 3)⟩, ⟨some 26, none, .load none (.t 25)⟩, ⟨some 27, none, .mov (.t 5)⟩, ⟨some 28, none, .callf 52 [(.t 26), (.t 27)]⟩, ⟨some 29, none, .bin .gtr (.t 24) (.t 28)⟩] [[], [0], [], [0, 1, 2], [], [4], [], [0, 1, 2, 3, 4, 5, 6], [0, 1, 2, 3, 4, 5, 6, 7]]) (.cond (.t 29) (.seq (.reg [⟨some 4, none, .mov (.c (.pv (.bool false)))⟩]) (.ret)) (.skip)))) (.reg [⟨some 19, none, .mov (.t 5)⟩, ⟨some 20, none, .bin .add (.t 19) (.c (.pv (.int .i64 1)))⟩, ⟨some 5, none, .mov (.t 20)⟩])))))) (.seq (.seq (.reg [⟨some 6, none, .mov (.c (.pv (.int .i64 0)))⟩]) (.blk 2 (.loop ⟨[2, 3, 6], [0, 1], 2⟩ (.seq (.seq (.reg [⟨some 30, none, .mov (.t 6)⟩, ⟨some 31, none, .fad 3 (.t 3)⟩, ⟨some 32, none, .load none (.t 31)⟩, ⟨some 33, none, .len (.t 32)⟩, ⟨some 34, none, .bin .lss (.t 30) (.t 33)⟩]) (.cond (.t 34) (.skip) (.ext 2))) (.seq (.blk 3 (.seq (.reg [⟨some 37, none, .load (some 7) (.t 2)⟩, ⟨some 38, none, .load (some 9) (.t 3)⟩, ⟨some 39, none, .mov (.t 6)⟩, ⟨some 40, none, .callf 53 [(.t 37), (.t 38), (.t 39)]⟩, ⟨some 41, none, .un .not (.t 40)⟩]) (.cond (.t 41) (.seq (.reg [⟨some 4, none, .mov (.c (.pv (.bool false)))⟩]) (.ret)) (.skip)))) (.reg [⟨some 35, none, .mov (.t 6)⟩, ⟨some 36, none, .bin .add (.t 35) (.c (.pv (.int .i64 1)))⟩, ⟨some 6, none, .mov (.t 36)⟩])))))) (.seq (.seq (.reg [⟨some 42, none, .load (some 7) (.t 2)⟩, ⟨some 43, none, .load (some 9) (.t 3)⟩, ⟨some 44, none, .callf 54 [(.t 42), (.t 43)]⟩, ⟨some 45, none, .un .not (.t 44)⟩]) (.cond (.t 45) (.seq (.reg [⟨some 4, none, .mov (.c (.pv (.bool false)))⟩]) (.ret)) (.skip))) (.seq (.reg [⟨some 7, none, .mov (.c (.pv (.int .i64 0)))⟩, ⟨some 8, none, .mov (.c (.pv (.int .i64 0)))⟩]) (.seq (.seq (.reg [⟨some 9, none, .mov (.c (.pv (.int .i64 0)))⟩]) (.blk 4 (.loop ⟨[2, 3, 7, 8, 9], [0, 1], 2⟩ (.seq (.seq (.reg [⟨some 46, none, .mov (.t 9)⟩, ⟨some 47, none, .fad 4 (.t 3)⟩, ⟨some 48, none, .load none (.t 47)⟩, ⟨some 49, none, .len (.t 48)⟩, ⟨some 50, none, .bin .lss (.t 46) (.t 49)⟩]) (.cond (.t 50) (.skip) (.ext 4))) (.seq (.blk 5 (.seq (.seq (.dreg [⟨some 53, none, .load (some 7) (.t 2)⟩, ⟨some 54, none, .load (some 9) (.t 3)⟩, ⟨some 55, none, .fad 4 (.t 3)⟩, ⟨some 56, none, .load none (.t 55)⟩, ⟨some 57, none, .mov (.t 9)⟩, ⟨some 58, none, .iad 21 (.t 56) (.t 57)⟩, ⟨some 59, none, .load (some 21) (.t 58)⟩, ⟨some 60, none, .callf 55 [(.t 53), (.t 54), (.t 59)]⟩, ⟨some 61, none, .un .not (.t 60)⟩] [[], [], [], [2], [], [2, 3, 4], [2, 3, 4, 5], [0, 1, 2, 3, 4, 5, 6], [0, 1, 2, 3, 4, 5, 6, 7]]) (.cond (.t 61) (.seq (.reg [⟨some 4, none, .mov (.c (.pv (.bool false)))⟩]) (.ret)) (.skip))) (.seq (.seq (.reg [⟨some 62, none, .fad 4 (.t 3)⟩, ⟨some 63, none, .load none (.t 62)⟩, ⟨some 64, none, .mov (.t 9)⟩, ⟨some 65, none, .iad 21 (.t 63) (.t 64)⟩, ⟨some 66, none, .fad 0 (.t 65)⟩, ⟨some 67, none, .load none (.t 66)⟩, ⟨some 68, none, .bin .eql (.t 67) (.c (.pv (.int .u8 3)))⟩]) (.cond (.t 68) (.reg [⟨some 69, none, .mov (.t 7)⟩, ⟨some 70, none, .bin .add (.t 69) (.c (.pv (.int .i64 1)))⟩, ⟨some 7, none, .mov (.t 70)⟩]) (.skip))) (.seq (.reg [⟨some 71, none, .fad 4 (.t 3)⟩, ⟨some 72, none, .load none (.t 71)⟩, ⟨some 73, none, .mov (.t 9)⟩, ⟨some 74, none, .iad 21 (.t 72) (.t 73)⟩, ⟨some 75, none, .fad 0 (.t 74)⟩, ⟨some 76, none, .load none (.t 75)⟩, ⟨some 77, none, .bin .eql (.t 76) (.c (.pv (.int .u8 4)))⟩]) (.cond (.t 77) (.reg [⟨some 78, none, .mov (.t 8)⟩, ⟨some 79, none, .bin .add (.t 78) (.c (.pv (.int .i64 1)))⟩, ⟨some 8, none, .mov (.t 79)⟩]) (.skip)))))) (.reg [⟨some 51, none, .mov (.t 9)⟩, ⟨some 52, none, .bin .add (.t 51) (.c (.pv (.int .i64 1)))⟩, ⟨some 9, none, .mov (.t 52)⟩])))))) (.seq (.seq (.reg [⟨some 80, none, .mov (.t 7)⟩, ⟨some 81, none, .bin .gtr (.t 80) (.c (.pv (.int .i64 1)))⟩, ⟨some 82, none, .mov (.t 81)⟩, ⟨some 83, some (82, false), .mov (.t 8)⟩, ⟨some 84, some (82, false), .bin .gtr (.t 83) (.c (.pv (.int .i64 0)))⟩, ⟨some 85, some (82, false), .mov (.t 84)⟩, ⟨some 86, some (85, true), .fad 4 (.t 3)⟩, ⟨some 87, some (85, true), .load none (.t 86)⟩, ⟨some 88, some (85, true), .len (.t 87)⟩, ⟨some 89, some (85, true), .bin .gtr (.t 88) (.c (.pv (.int .i64 1)))⟩, ⟨some 90, some (82, false), .land (.t 85) (.t 89)⟩, ⟨some 91, none, .lor (.t 82) (.t 90)⟩]) (.cond (.t 91) (.seq (.reg [⟨some 4, none, .mov (.c (.pv (.bool false)))⟩]) (.ret)) (.skip))) (.seq (.reg [⟨some 92, none, .fad 5 (.t 3)⟩, ⟨some 93, none, .load none (.t 92)⟩, ⟨some 94, none, .fad 5 (.t 2)⟩, ⟨some 95, none, .load none (.t 94)⟩, ⟨some 96, none, .len (.t 95)⟩, ⟨some 97, none, .bin .sub (.t 96) (.c (.pv (.int .i64 1)))⟩, ⟨some 98, none, .callf 40 [(.t 93), (.c (.pv (.int .i64 0))), (.t 97)]⟩, ⟨some 99, none, .mov (.t 98)⟩, ⟨some 100, some (99, true), .fad 6 (.t 3)⟩, ⟨some 101, some (99, true), .load none (.t 100)⟩, ⟨some 102, some (99, true), .callf 40 [(.t 101), (.c (.pv (.int .i64 1))), (.c (.pv (.int .i64 15)))]⟩, ⟨some 103, none, .land (.t 99) (.t 102)⟩, ⟨some 104, none, .mov (.t 103)⟩, ⟨some 105, some (104, true), .fad 7 (.t 3)⟩, ⟨some 106, some (104, true), .load none (.t 105)⟩, ⟨some 107, some (104, true), .callf 40 [(.t 106), (.c (.pv (.int .i64 1))), (.c (.pv (.int .i64 15)))]⟩, ⟨some 108, none, .land (.t 104) (.t 107)⟩, ⟨some 109, none, .mov (.t 108)⟩, ⟨some 110, some (109, true), .fad 8 (.t 3)⟩, ⟨some 111, some (109, true), .load none (.t 110)⟩, ⟨some 112, some (109, true), .callf 40 [(.t 111), (.c (.pv (.int .i64 0))), (.c (.pv (.int .i64 2)))]⟩, ⟨some 113, none, .land (.t 109) (.t 112)⟩, ⟨some 114, none, .mov (.t 113)⟩, ⟨some 115, some (114, true), .fad 8 (.t 3)⟩, ⟨some 116, some (114, true), .load none (.t 115)⟩, ⟨some 117, some (114, true), .bin .eql (.t 116) (.c (.pv (.int .i64 0)))⟩, ⟨some 118, some (114, true), .mov (.t 117)⟩, ⟨some 119, some (118, false), .mov (.t 7)⟩, ⟨some 120, some (118, false), .bin .eql (.t 119) (.c (.pv (.int .i64 1)))⟩, ⟨some 121, some (114, true), .lor (.t 118) (.t 120)⟩, ⟨some 122, none, .land (.t 114) (.t 121)⟩, ⟨some 4, none, .mov (.t 122)⟩]) (.ret)))))))))
theorem k_retargetref08_okInstr : FnOk Tryd.prog 44 123 c_retargetref08_okInstr [.tmp 4] := .mk' (fn := Tryd.f44) rfl rfl (by kernel_rfl) rfl (by kernel_rfl) (by kernel_rfl)
/- "retarget/retargetref08.Bit" -/
def c_retargetref08_Bit : C :=
.seq (.reg [⟨some 4, none, .mov (.c (.pv (.int .i64 0)))⟩]) (.seq (.seq (.reg [⟨some 5, none, .mov (.c (.pv (.int .i64 0)))⟩]) (.blk 0 (.loop ⟨[0, 1, 5], [], 0⟩ (.seq (.seq (.reg [⟨some 6, none, .mov (.t 5)⟩, ⟨some 7, none, .mov (.t 1)⟩, ⟨some 8, none, .bin .lss (.t 6) (.t 7)⟩]) (.cond (.t 8) (.skip) (.ext 0))) (.seq (.blk 1 (.reg [⟨some 11, none, .mov (.t 0)⟩, ⟨some 12, none, .bin .quo (.t 11) (.c (.pv (.int .u64 2)))⟩, ⟨some 0, none, .mov (.t 12)⟩])) (.reg [⟨some 9, none, .mov (.t 5)⟩, ⟨some 10, none, .bin .add (.t 9) (.c (.pv (.int .i64 1)))⟩, ⟨some 5, none, .mov (.t 10)⟩])))))) (.seq (.reg [⟨some 13, none, .mov (.t 0)⟩, ⟨some 14, none, .bin .rem (.t 13) (.c (.pv (.int .u64 2)))⟩, ⟨some 15, none, .conv .i64 (.t 14)⟩, ⟨some 4, none, .mov (.t 15)⟩]) (.ret)))
theorem k_retargetref08_Bit : FnOk Tryd.prog 52 16 c_retargetref08_Bit [.tmp 4] := .mk' (fn := Tryd.f52) rfl rfl (by kernel_rfl) rfl (by kernel_rfl) (by kernel_rfl)
/- "retarget/retargetref08.okOperand" -/
def c_retargetref08_okOperand : C :=
.seq (.reg [⟨some 3, none, .box 7 (.t 0)⟩, ⟨some 4, none, .box 9 (.t 1)⟩, ⟨some 6, none, .mov (.c (.pv (.bool false)))⟩]) (.seq (.reg [⟨some 11, none, .fad 3 (.t 4)⟩, ⟨some 12, none, .load none (.t 11)⟩, ⟨some 13, none, .mov (.t 2)⟩, ⟨some 14, none, .iad 6 (.t 12) (.t 13)⟩, ⟨some 15, none, .load (some 6) (.t 14)⟩, ⟨some 7, none, .alloc [.pv (.str ⟨#[]⟩), .pv (.int .u8 0), .pv (.int .i64 0), .pv (.int .i64 0), .nilS 2, .pv (.int .i64 0)]⟩, ⟨none, none, .store 6 (.t 7) (.t 15)⟩]) (.seq (.seq (.reg [⟨some 16, none, .fad 0 (.t 7)⟩, ⟨some 17, none, .load none (.t 16)⟩, ⟨some 18, none, .callf 39 [(.t 17)]⟩, ⟨some 19, none, .un .not (.t 18)⟩, ⟨some 20, none, .mov (.t 19)⟩, ⟨some 21, some (20, false), .fad 0 (.t 7)⟩, ⟨some 22, some (20, false), .load none (.t 21)⟩, ⟨some 23, some (20, false), .bin .eql (.t 22) (.c (.pv (.str ⟨#[112, 99]⟩)))⟩, ⟨some 24, none, .lor (.t 20) (.t 23)⟩, ⟨some 25, none, .mov (.t 24)⟩, ⟨some 26, some (25, false), .load (some 6) (.t 7)⟩, ⟨some 27, some (25, false), .fad 1 (.t 3)⟩, ⟨some 28, some (25, false), .load none (.t 27)⟩, ⟨some 29, some (25, false), .callf 62 [(.t 26), (.t 28)]⟩, ⟨some 30, some (25, false), .un .not (.t 29)⟩, ⟨some 31, none, .lor (.t 25) (.t 30)⟩]) (.cond (.t 31) (.seq (.reg [⟨some 6, none, .mov (.c (.pv (.bool false)))⟩]) (.ret)) (.skip))) (.seq (.seq (.reg [⟨some 8, none, .mov (.c (.pv (.int .i64 0)))⟩]) (.blk 0 (.loop ⟨[2, 3, 4, 7, 8], [0, 1, 2], 3⟩ (.seq (.seq (.reg [⟨some 32, none, .mov (.t 8)⟩, ⟨some 33, none, .mov (.t 2)⟩, ⟨some 34, none, .bin .lss (.t 32) (.t 33)⟩]) (.cond (.t 34) (.skip) (.ext 0))) (.seq (.blk 1 (.seq (.dreg [⟨some 37, none, .fad 3 (.t 4)⟩, ⟨some 38, none, .load none (.t 37)⟩, ⟨some 39, none, .mov (.t 8)⟩, ⟨some 40, none, .iad 6 (.t 38) (.t 39)⟩, ⟨some 41, none, .fad 0 (.t 40)⟩, ⟨some 42, none, .load none (.t 41)⟩, ⟨some 43, none, .fad 0 (.t 7)⟩, ⟨some 44, none, .load none (.t 43)⟩, ⟨some 45, none, .bin .eql (.t 42) (.t 44)⟩] [[], [0], [], [0, 1, 2], [0, 1, 2, 3], [0, 1, 2, 3, 4], [], [6], [0, 1, 2, 3, 4, 5, 6, 7]]) (.cond (.t 45) (.seq (.reg [⟨some 6, none, .mov (.c (.pv (.bool false)))⟩]) (.ret)) (.skip)))) (.reg [⟨some 35, none, .mov (.t 8)⟩, ⟨some 36, none, .bin .add (.t 35) (.c (.pv (.int .i64 1)))⟩, ⟨some 8, none, .mov (.t 36)⟩])))))) (.seq (.seq (.reg [⟨some 46, none, .fad 1 (.t 7)⟩, ⟨some 47, none, .load none (.t 46)⟩]) (.blk 2 (.seq (.reg [⟨some 49, none, .bin .eql (.t 47) (.c (.pv (.int .u8 1)))⟩, ⟨some 48, none, .mov (.t 49)⟩]) (.cond (.t 48) (.seq (.seq (.reg [⟨some 50, none, .fad 2 (.t 7)⟩, ⟨some 51, none, .load none (.t 50)⟩, ⟨some 52, none, .fad 4 (.t 3)⟩, ⟨some 53, none, .load none (.t 52)⟩, ⟨some 54, none, .len (.t 53)⟩, ⟨some 55, none, .bin .sub (.t 54) (.c (.pv (.int .i64 1)))⟩, ⟨some 56, none, .callf 40 [(.t 51), (.c (.pv (.int .i64 0))), (.t 55)]⟩, ⟨some 57, none, .un .not (.t 56)⟩, ⟨some 58, none, .mov (.t 57)⟩, ⟨some 59, some (58, false), .fad 3 (.t 7)⟩, ⟨some 60, some (58, false), .load none (.t 59)⟩, ⟨some 61, some (58, false), .bin .neq (.t 60) (.c (.pv (.int .i64 0)))⟩, ⟨some 62, none, .lor (.t 58) (.t 61)⟩]) (.cond (.t 62) (.seq (.reg [⟨some 6, none, .mov (.c (.pv (.bool false)))⟩]) (.ret)) (.skip))) (.seq (.seq (.reg [⟨some 63, none, .fad 5 (.t 7)⟩, ⟨some 64, none, .load none (.t 63)⟩, ⟨some 65, none, .bin .eql (.t 64) (.c (.pv (.int .i64 (-1))))⟩]) (.cond (.t 65) (.seq (.reg [⟨some 66, none, .load (some 6) (.t 7)⟩, ⟨some 67, none, .callf 56 [(.t 66)]⟩, ⟨some 9, none, .mov (.t 67)⟩]) (.seq (.dreg [⟨some 68, none, .mov (.t 9)⟩, ⟨some 69, none, .bin .gtr (.t 68) (.c (.pv (.int .i64 0)))⟩, ⟨some 70, none, .mov (.t 69)⟩, ⟨some 71, some (70, true), .mov (.t 9)⟩, ⟨some 72, some (70, true), .bin .gtr (.t 71) (.c (.pv (.int .i64 6)))⟩, ⟨some 73, some (70, true), .mov (.t 72)⟩, ⟨some 74, some (73, false), .fad 4 (.t 3)⟩, ⟨some 75, some (73, false), .load none (.t 74)⟩, ⟨some 76, some (73, false), .fad 2 (.t 7)⟩, ⟨some 77, some (73, false), .load none (.t 76)⟩, ⟨some 78, some (73, false), .iad 2 (.t 75) (.t 77)⟩, ⟨some 79, some (73, false), .fad 1 (.t 78)⟩, ⟨some 80, some (73, false), .load none (.t 79)⟩, ⟨some 81, some (73, false), .len (.t 80)⟩, ⟨some 82, some (73, false), .mov (.t 9)⟩, ⟨some 83, some (73, false), .callf 27 [(.t 82)]⟩, ⟨some 84, some (73, false), .bin .leq (.t 81) (.t 83)⟩, ⟨some 85, some (70, true), .lor (.t 73) (.t 84)⟩, ⟨some 86, none, .land (.t 70) (.t 85)⟩, ⟨some 6, none, .mov (.t 86)⟩] [[], [0], [0, 1], [0, 1, 2], [0, 1, 2, 3], [0, 1, 2, 3, 4], [0, 1, 2, 3, 4, 5], [0, 1, 2, 3, 4, 5, 6], [0, 1, 2, 3, 4, 5], [0, 1, 2, 3, 4, 5, 8], [0, 1, 2, 3, 4, 5, 6, 7, 8, 9], [0, 1, 2, 3, 4, 5, 6, 7, 8, 9, 10], [0, 1, 2, 3, 4, 5, 6, 7, 8, 9, 10, 11], [0, 1, 2, 3, 4, 5, 6, 7, 8, 9, 10, 11, 12], [0, 1, 2, 3, 4, 5], [0, 1, 2, 3, 4, 5, 14], [0, 1, 2, 3, 4, 5, 6, 7, 8, 9, 10, 11, 12, 13, 14, 15], [0, 1, 2, 3, 4, 5, 6, 7, 8, 9, 10, 11, 12, 13, 14, 15, 16], [0, 1, 2, 3, 4, 5, 6, 7, 8, 9, 10, 11, 12, 13, 14, 15, 16, 17], [0, 1, 2, 3, 4, 5, 6, 7, 8, 9, 10, 11, 12, 13, 14, 15, 16, 17, 18]]) (.ret))) (.skip))) (.seq (.seq (.reg [⟨some 87, none, .fad 5 (.t 7)⟩, ⟨some 88, none, .load none (.t 87)⟩, ⟨some 89, none, .mov (.t 2)⟩, ⟨some 90, none, .bin .sub (.t 89) (.c (.pv (.int .i64 1)))⟩, ⟨some 91, none, .callf 40 [(.t 88), (.c (.pv (.int .i64 0))), (.t 90)]⟩, ⟨some 92, none, .un .not (.t 91)⟩, ⟨some 93, none, .mov (.t 92)⟩, ⟨some 94, some (93, false), .fad 4 (.t 7)⟩, ⟨some 95, some (93, false), .load none (.t 94)⟩, ⟨some 96, some (93, false), .len (.t 95)⟩, ⟨some 97, some (93, false), .bin .gtr (.t 96) (.c (.pv (.int .i64 0)))⟩, ⟨some 98, none, .lor (.t 93) (.t 97)⟩]) (.cond (.t 98) (.seq (.reg [⟨some 6, none, .mov (.c (.pv (.bool false)))⟩]) (.ret)) (.skip))) (.seq (.reg [⟨some 99, none, .fad 3 (.t 4)⟩, ⟨some 100, none, .load none (.t 99)⟩, ⟨some 101, none, .fad 5 (.t 7)⟩, ⟨some 102, none, .load none (.t 101)⟩, ⟨some 103, none, .iad 6 (.t 100) (.t 102)⟩, ⟨some 104, none, .load (some 6) (.t 103)⟩, ⟨some 10, none, .alloc [.pv (.str ⟨#[]⟩), .pv (.int .u8 0), .pv (.int .i64 0), .pv (.int .i64 0), .nilS 2, .pv (.int .i64 0)]⟩, ⟨none, none, .store 6 (.t 10) (.t 104)⟩]) (.seq (.reg [⟨some 105, none, .fad 1 (.t 10)⟩, ⟨some 106, none, .load none (.t 105)⟩, ⟨some 107, none, .bin .eql (.t 106) (.c (.pv (.int .u8 1)))⟩, ⟨some 108, none, .mov (.t 107)⟩, ⟨some 109, some (108, true), .fad 2 (.t 10)⟩, ⟨some 110, some (108, true), .load none (.t 109)⟩, ⟨some 111, some (108, true), .fad 2 (.t 7)⟩, ⟨some 112, some (108, true), .load none (.t 111)⟩, ⟨some 113, some (108, true), .bin .eql (.t 110) (.t 112)⟩, ⟨some 114, none, .land (.t 108) (.t 113)⟩, ⟨some 115, none, .mov (.t 114)⟩, ⟨some 116, some (115, true), .fad 5 (.t 10)⟩, ⟨some 117, some (115, true), .load none (.t 116)⟩, ⟨some 118, some (115, true), .bin .eql (.t 117) (.c (.pv (.int .i64 (-1))))⟩, ⟨some 119, none, .land (.t 115) (.t 118)⟩, ⟨some 6, none, .mov (.t 119)⟩]) (.ret)))))) (.seq (.seq (.reg [⟨some 121, none, .bin .eql (.t 47) (.c (.pv (.int .u8 2)))⟩, ⟨some 120, none, .mov (.t 121)⟩]) (.cond (.t 120) (.skip) (.seq (.reg [⟨some 122, none, .bin .eql (.t 47) (.c (.pv (.int .u8 3)))⟩, ⟨some 120, none, .mov (.t 122)⟩]) (.cond (.t 120) (.skip) (.reg [⟨some 123, none, .bin .eql (.t 47) (.c (.pv (.int .u8 4)))⟩, ⟨some 120, none, .mov (.t 123)⟩]))))) (.cond (.t 120) (.seq (.dreg [⟨some 124, none, .fad 2 (.t 7)⟩, ⟨some 125, none, .load none (.t 124)⟩, ⟨some 126, none, .bin .eql (.t 125) (.c (.pv (.int .i64 0)))⟩, ⟨some 127, none, .mov (.t 126)⟩, ⟨some 128, some (127, true), .fad 5 (.t 7)⟩, ⟨some 129, some (127, true), .load none (.t 128)⟩, ⟨some 130, some (127, true), .bin .eql (.t 129) (.c (.pv (.int .i64 (-1))))⟩, ⟨some 131, none, .land (.t 127) (.t 130)⟩, ⟨some 132, none, .mov (.t 131)⟩, ⟨some 133, some (132, true), .fad 3 (.t 7)⟩, ⟨some 134, some (132, true), .load none (.t 133)⟩, ⟨some 135, some (132, true), .callf 40 [(.t 134), (.c (.pv (.int .i64 0))), (.c (.pv (.int .i64 3)))]⟩, ⟨some 136, none, .land (.t 132) (.t 135)⟩, ⟨some 137, none, .mov (.t 136)⟩, ⟨some 138, some (137, true), .load (some 6) (.t 7)⟩, ⟨some 139, some (137, true), .callf 56 [(.t 138)]⟩, ⟨some 140, some (137, true), .bin .gtr (.t 139) (.c (.pv (.int .i64 0)))⟩, ⟨some 141, none, .land (.t 137) (.t 140)⟩, ⟨some 142, none, .mov (.t 141)⟩, ⟨some 143, some (142, true), .load (some 6) (.t 7)⟩, ⟨some 144, some (142, true), .callf 56 [(.t 143)]⟩, ⟨some 145, some (142, true), .fad 3 (.t 7)⟩, ⟨some 146, some (142, true), .load none (.t 145)⟩, ⟨some 147, some (142, true), .bin .add (.t 144) (.t 146)⟩, ⟨some 148, some (142, true), .fad 2 (.t 3)⟩, ⟨some 149, some (142, true), .load none (.t 148)⟩, ⟨some 150, some (142, true), .bin .leq (.t 147) (.t 149)⟩, ⟨some 151, none, .land (.t 142) (.t 150)⟩, ⟨some 6, none, .mov (.t 151)⟩] [[], [0], [0, 1], [0, 1, 2], [0, 1, 2, 3], [0, 1, 2, 3, 4], [0, 1, 2, 3, 4, 5], [0, 1, 2, 3, 4, 5, 6], [0, 1, 2, 3, 4, 5, 6, 7], [0, 1, 2, 3, 4, 5, 6, 7, 8], [0, 1, 2, 3, 4, 5, 6, 7, 8, 9], [0, 1, 2, 3, 4, 5, 6, 7, 8, 9, 10], [0, 1, 2, 3, 4, 5, 6, 7, 8, 9, 10, 11], [0, 1, 2, 3, 4, 5, 6, 7, 8, 9, 10, 11, 12], [0, 1, 2, 3, 4, 5, 6, 7, 8, 9, 10, 11, 12, 13], [0, 1, 2, 3, 4, 5, 6, 7, 8, 9, 10, 11, 12, 13, 14], [0, 1, 2, 3, 4, 5, 6, 7, 8, 9, 10, 11, 12, 13, 14, 15], [0, 1, 2, 3, 4, 5, 6, 7, 8, 9, 10, 11, 12, 13, 14, 15, 16], [0, 1, 2, 3, 4, 5, 6, 7, 8, 9, 10, 11, 12, 13, 14, 15, 16, 17], [0, 1, 2, 3, 4, 5, 6, 7, 8, 9, 10, 11, 12, 13, 14, 15, 16, 17, 18], [0, 1, 2, 3, 4, 5, 6, 7, 8, 9, 10, 11, 12, 13, 14, 15, 16, 17, 18, 19], [0, 1, 2, 3, 4, 5, 6, 7, 8, 9, 10, 11, 12, 13, 14, 15, 16, 17, 18], [0, 1, 2, 3, 4, 5, 6, 7, 8, 9, 10, 11, 12, 13, 14, 15, 16, 17, 18, 21], [0, 1, 2, 3, 4, 5, 6, 7, 8, 9, 10, 11, 12, 13, 14, 15, 16, 17, 18, 19, 20, 21, 22], [0, 1, 2, 3, 4, 5, 6, 7, 8, 9, 10, 11, 12, 13, 14, 15, 16, 17, 18], [0, 1, 2, 3, 4, 5, 6, 7, 8, 9, 10, 11, 12, 13, 14, 15, 16, 17, 18, 24], [0, 1, 2, 3, 4, 5, 6, 7, 8, 9, 10, 11, 12, 13, 14, 15, 16, 17, 18, 19, 20, 21, 22, 23, 24, 25], [0, 1, 2, 3, 4, 5, 6, 7, 8, 9, 10, 11, 12, 13, 14, 15, 16, 17, 18, 19, 20, 21, 22, 23, 24, 25, 26], [0, 1, 2, 3, 4, 5, 6, 7, 8, 9, 10, 11, 12, 13, 14, 15, 16, 17, 18, 19, 20, 21, 22, 23, 24, 25, 26, 27]]) (.ret)) (.skip))))))) (.seq (.reg [⟨some 6, none, .mov (.c (.pv (.bool false)))⟩]) (.ret))))))
theorem k_retargetref08_okOperand : FnOk Tryd.prog 53 152 c_retargetref08_okOperand [.tmp 6] := .mk' (fn := Tryd.f53) rfl rfl (by kernel_rfl) rfl (by kernel_rfl) (by kernel_rfl)
/- "retarget/retargetref08.apart" -/
def c_retargetref08_apart : C :=
.seq (.reg [⟨some 2, none, .box 7 (.t 0)⟩, ⟨some 3, none, .box 9 (.t 1)⟩, ⟨some 4, none, .mov (.c (.pv (.bool false)))⟩]) (.seq (.seq (.reg [⟨some 5, none, .mov (.c (.pv (.int .i64 0)))⟩]) (.blk 0 (.loop ⟨[2, 3, 5], [0, 1], 2⟩ (.seq (.seq (.reg [⟨some 10, none, .mov (.t 5)⟩, ⟨some 11, none, .fad 1 (.t 2)⟩, ⟨some 12, none, .load none (.t 11)⟩, ⟨some 13, none, .bin .mul (.c (.pv (.int .i64 8))) (.t 12)⟩, ⟨some 14, none, .bin .lss (.t 10) (.t 13)⟩]) (.cond (.t 14) (.skip) (.ext 0))) (.seq (.blk 1 (.seq (.reg [⟨some 17, none, .fad 1 (.t 3)⟩, ⟨some 18, none, .load none (.t 17)⟩, ⟨some 19, none, .mov (.t 5)⟩, ⟨some 20, none, .callf 52 [(.t 18), (.t 19)]⟩, ⟨some 6, none, .mov (.t 20)⟩]) (.seq (.seq (.reg [⟨some 7, none, .mov (.c (.pv (.int .i64 0)))⟩]) (.blk 2 (.loop ⟨[2, 3, 5, 6, 7], [0, 1], 2⟩ (.seq (.seq (.reg [⟨some 21, none, .mov (.t 7)⟩, ⟨some 22, none, .fad 3 (.t 3)⟩, ⟨some 23, none, .load none (.t 22)⟩, ⟨some 24, none, .len (.t 23)⟩, ⟨some 25, none, .bin .lss (.t 21) (.t 24)⟩]) (.cond (.t 25) (.skip) (.ext 2))) (.seq (.blk 3 (.seq (.reg [⟨some 8, none, .mov (.c (.pv (.int .i64 0)))⟩]) (.blk 4 (.loop ⟨[2, 3, 5, 6, 7, 8], [0, 1], 2⟩ (.seq (.seq (.reg [⟨some 28, none, .mov (.t 8)⟩, ⟨some 29, none, .fad 3 (.t 3)⟩, ⟨some 30, none, .load none (.t 29)⟩, ⟨some 31, none, .mov (.t 7)⟩, ⟨some 32, none, .iad 6 (.t 30) (.t 31)⟩, ⟨some 33, none, .fad 4 (.t 32)⟩, ⟨some 34, none, .load none (.t 33)⟩, ⟨some 35, none, .len (.t 34)⟩, ⟨some 36, none, .bin .lss (.t 28) (.t 35)⟩]) (.cond (.t 36) (.skip) (.ext 4))) (.seq (.blk 5 (.seq (.reg [⟨some 39, none, .fad 3 (.t 3)⟩, ⟨some 40, none, .load none (.t 39)⟩, ⟨some 41, none, .mov (.t 7)⟩, ⟨some 42, none, .iad 6 (.t 40) (.t 41)⟩, ⟨some 43, none, .fad 4 (.t 42)⟩, ⟨some 44, none, .load none (.t 43)⟩, ⟨some 45, none, .mov (.t 8)⟩, ⟨some 46, none, .iad 2 (.t 44) (.t 45)⟩, ⟨some 47, none, .load (some 2) (.t 46)⟩, ⟨some 9, none, .alloc [.pv (.int .i64 0), .pv (.int .i64 0)]⟩, ⟨none, none, .store 2 (.t 9) (.t 47)⟩]) (.seq (.reg [⟨some 48, none, .mov (.t 5)⟩, ⟨some 49, none, .fad 0 (.t 9)⟩, ⟨some 50, none, .load none (.t 49)⟩, ⟨some 51, none, .fad 0 (.t 9)⟩, ⟨some 52, none, .load none (.t 51)⟩, ⟨some 53, none, .fad 1 (.t 9)⟩, ⟨some 54, none, .load none (.t 53)⟩, ⟨some 55, none, .bin .add (.t 52) (.t 54)⟩, ⟨some 56, none, .bin .sub (.t 55) (.c (.pv (.int .i64 1)))⟩, ⟨some 57, none, .callf 40 [(.t 48), (.t 50), (.t 56)]⟩]) (.cond (.t 57) (.reg [⟨some 58, none, .mov (.t 6)⟩, ⟨some 59, none, .bin .add (.t 58) (.c (.pv (.int .i64 1)))⟩, ⟨some 6, none, .mov (.t 59)⟩]) (.skip))))) (.reg [⟨some 37, none, .mov (.t 8)⟩, ⟨some 38, none, .bin .add (.t 37) (.c (.pv (.int .i64 1)))⟩, ⟨some 8, none, .mov (.t 38)⟩]))))))) (.reg [⟨some 26, none, .mov (.t 7)⟩, ⟨some 27, none, .bin .add (.t 26) (.c (.pv (.int .i64 1)))⟩, ⟨some 7, none, .mov (.t 27)⟩])))))) (.seq (.reg [⟨some 60, none, .mov (.t 6)⟩, ⟨some 61, none, .bin .gtr (.t 60) (.c (.pv (.int .i64 1)))⟩]) (.cond (.t 61) (.seq (.reg [⟨some 4, none, .mov (.c (.pv (.bool false)))⟩]) (.ret)) (.skip)))))) (.reg [⟨some 15, none, .mov (.t 5)⟩, ⟨some 16, none, .bin .add (.t 15) (.c (.pv (.int .i64 1)))⟩, ⟨some 5, none, .mov (.t 16)⟩])))))) (.seq (.reg [⟨some 4, none, .mov (.c (.pv (.bool true)))⟩]) (.ret)))
theorem k_retargetref08_apart : FnOk Tryd.prog 54 62 c_retargetref08_apart [.tmp 4] := .mk' (fn := Tryd.f54) rfl rfl (by kernel_rfl) rfl (by kernel_rfl) (by kernel_rfl)
/- "retarget/retargetref08.okEffect" -/
def c_retargetref08_okEffect : C :=
.seq (.reg [⟨some 3, none, .box 7 (.t 0)⟩, ⟨some 4, none, .box 9 (.t 1)⟩, ⟨some 5, none, .box 21 (.t 2)⟩, ⟨some 6, none, .mov (.c (.pv (.bool false)))⟩]) (.seq (.seq (.reg [⟨some 8, none, .fad 0 (.t 5)⟩, ⟨some 9, none, .load none (.t 8)⟩]) (.blk 0 (.seq (.reg [⟨some 11, none, .bin .eql (.t 9) (.c (.pv (.int .u8 1)))⟩, ⟨some 10, none, .mov (.t 11)⟩]) (.cond (.t 10) (.seq (.seq (.reg [⟨some 12, none, .fad 3 (.t 5)⟩, ⟨some 13, none, .load (some 6) (.t 12)⟩, ⟨some 14, none, .callf 63 [(.t 13)]⟩, ⟨some 15, none, .un .not (.t 14)⟩, ⟨some 16, none, .mov (.t 15)⟩, ⟨some 17, some (16, false), .fad 15 (.t 5)⟩, ⟨some 18, some (16, false), .load (some 6) (.t 17)⟩, ⟨some 19, some (16, false), .callf 63 [(.t 18)]⟩, ⟨some 20, some (16, false), .un .not (.t 19)⟩, ⟨some 21, none, .lor (.t 16) (.t 20)⟩, ⟨some 22, none, .mov (.t 21)⟩, ⟨some 23, some (22, false), .load (some 7) (.t 3)⟩, ⟨some 24, some (22, false), .load (some 9) (.t 4)⟩, ⟨some 25, some (22, false), .fad 9 (.t 5)⟩, ⟨some 26, some (22, false), .load (some 6) (.t 25)⟩, ⟨some 27, some (22, false), .callf 64 [(.t 23), (.t 24), (.t 26)]⟩, ⟨some 28, some (22, false), .un .not (.t 27)⟩, ⟨some 29, none, .lor (.t 22) (.t 28)⟩]) (.cond (.t 29) (.seq (.reg [⟨some 6, none, .mov (.c (.pv (.bool false)))⟩]) (.ret)) (.skip))) (.seq (.seq (.reg [⟨some 30, none, .fad 1 (.t 5)⟩, ⟨some 31, none, .load none (.t 30)⟩, ⟨some 32, none, .bin .eql (.t 31) (.c (.pv (.int .i64 (-1))))⟩]) (.cond (.t 32) (.seq (.dreg [⟨some 33, none, .fad 2 (.t 5)⟩, ⟨some 34, none, .load none (.t 33)⟩, ⟨some 35, none, .fad 3 (.t 3)⟩, ⟨some 36, none, .load none (.t 35)⟩, ⟨some 37, none, .len (.t 36)⟩, ⟨some 38, none, .bin .sub (.t 37) (.c (.pv (.int .i64 1)))⟩, ⟨some 39, none, .callf 40 [(.t 34), (.c (.pv (.int .i64 0))), (.t 38)]⟩, ⟨some 40, none, .mov (.t 39)⟩, ⟨some 41, some (40, true), .fad 9 (.t 5)⟩, ⟨some 42, some (40, true), .fad 1 (.t 41)⟩, ⟨some 43, some (40, true), .load none (.t 42)⟩, ⟨some 44, some (40, true), .fad 3 (.t 3)⟩, ⟨some 45, some (40, true), .load none (.t 44)⟩, ⟨some 46, some (40, true), .fad 2 (.t 5)⟩, ⟨some 47, some (40, true), .load none (.t 46)⟩, ⟨some 48, some (40, true), .iad 4 (.t 45) (.t 47)⟩, ⟨some 49, some (40, true), .fad 1 (.t 48)⟩, ⟨some 50, some (40, true), .load none (.t 49)⟩, ⟨some 51, some (40, true), .bin .eql (.t 43) (.t 50)⟩, ⟨some 52, none, .land (.t 40) (.t 51)⟩, ⟨some 6, none, .mov (.t 52)⟩] [[], [0], [], [2], [2, 3], [2, 3, 4], [0, 1, 2, 3, 4, 5], [0, 1, 2, 3, 4, 5, 6], [0, 1, 2, 3, 4, 5, 6, 7], [0, 1, 2, 3, 4, 5, 6, 7, 8], [0, 1, 2, 3, 4, 5, 6, 7, 8, 9], [0, 1, 2, 3, 4, 5, 6, 7], [0, 1, 2, 3, 4, 5, 6, 7, 11], [0, 1, 2, 3, 4, 5, 6, 7], [0, 1, 2, 3, 4, 5, 6, 7, 13], [0, 1, 2, 3, 4, 5, 6, 7, 11, 12, 13, 14], [0, 1, 2, 3, 4, 5, 6, 7, 11, 12, 13, 14, 15], [0, 1, 2, 3, 4, 5, 6, 7, 11, 12, 13, 14, 15, 16], [0, 1, 2, 3, 4, 5, 6, 7, 8, 9, 10, 11, 12, 13, 14, 15, 16, 17], [0, 1, 2, 3, 4, 5, 6, 7, 8, 9, 10, 11, 12, 13, 14, 15, 16, 17, 18], [0, 1, 2, 3, 4, 5, 6, 7, 8, 9, 10, 11, 12, 13, 14, 15, 16, 17, 18, 19]]) (.ret)) (.skip))) (.seq (.dreg [⟨some 53, none, .fad 2 (.t 5)⟩, ⟨some 54, none, .load none (.t 53)⟩, ⟨some 55, none, .bin .eql (.t 54) (.c (.pv (.int .i64 0)))⟩, ⟨some 56, none, .mov (.t 55)⟩, ⟨some 57, some (56, true), .fad 1 (.t 5)⟩, ⟨some 58, some (56, true), .load none (.t 57)⟩, ⟨some 59, some (56, true), .fad 3 (.t 4)⟩, ⟨some 60, some (56, true), .load none (.t 59)⟩, ⟨some 61, some (56, true), .len (.t 60)⟩, ⟨some 62, some (56, true), .bin .sub (.t 61) (.c (.pv (.int .i64 1)))⟩, ⟨some 63, some (56, true), .callf 40 [(.t 58), (.c (.pv (.int .i64 0))), (.t 62)]⟩, ⟨some 64, none, .land (.t 56) (.t 63)⟩, ⟨some 65, none, .mov (.t 64)⟩, ⟨some 66, some (65, true), .fad 3 (.t 4)⟩, ⟨some 67, some (65, true), .load none (.t 66)⟩, ⟨some 68, some (65, true), .fad 1 (.t 5)⟩, ⟨some 69, some (65, true), .load none (.t 68)⟩, ⟨some 70, some (65, true), .iad 6 (.t 67) (.t 69)⟩, ⟨some 71, some (65, true), .fad 1 (.t 70)⟩, ⟨some 72, some (65, true), .load none (.t 71)⟩, ⟨some 73, some (65, true), .bin .eql (.t 72) (.c (.pv (.int .u8 1)))⟩, ⟨some 74, none, .land (.t 65) (.t 73)⟩, ⟨some 75, none, .mov (.t 74)⟩, ⟨some 76, some (75, true), .fad 9 (.t 5)⟩, ⟨some 77, some (75, true), .fad 1 (.t 76)⟩, ⟨some 78, some (75, true), .load none (.t 77)⟩, ⟨some 79, some (75, true), .load (some 7) (.t 3)⟩, ⟨some 80, some (75, true), .fad 3 (.t 4)⟩, ⟨some 81, some (75, true), .load none (.t 80)⟩, ⟨some 82, some (75, true), .fad 1 (.t 5)⟩, ⟨some 83, some (75, true), .load none (.t 82)⟩, ⟨some 84, some (75, true), .iad 6 (.t 81) (.t 83)⟩, ⟨some 85, some (75, true), .load (some 6) (.t 84)⟩, ⟨some 86, some (75, true), .callf 65 [(.t 79), (.t 85)]⟩, ⟨some 87, some (75, true), .bin .eql (.t 78) (.t 86)⟩, ⟨some 88, none, .land (.t 75) (.t 87)⟩, ⟨some 6, none, .mov (.t 88)⟩] [[], [0], [0, 1], [0, 1, 2], [0, 1, 2, 3], [0, 1, 2, 3, 4], [0, 1, 2, 3], [0, 1, 2, 3, 6], [0, 1, 2, 3, 6, 7], [0, 1, 2, 3, 6, 7, 8], [0, 1, 2, 3, 4, 5, 6, 7, 8, 9], [0, 1, 2, 3, 4, 5, 6, 7, 8, 9, 10], [0, 1, 2, 3, 4, 5, 6, 7, 8, 9, 10, 11], [0, 1, 2, 3, 4, 5, 6, 7, 8, 9, 10, 11, 12], [0, 1, 2, 3, 4, 5, 6, 7, 8, 9, 10, 11, 12, 13], [0, 1, 2, 3, 4, 5, 6, 7, 8, 9, 10, 11, 12], [0, 1, 2, 3, 4, 5, 6, 7, 8, 9, 10, 11, 12, 15], [0, 1, 2, 3, 4, 5, 6, 7, 8, 9, 10, 11, 12, 13, 14, 15, 16], [0, 1, 2, 3, 4, 5, 6, 7, 8, 9, 10, 11, 12, 13, 14, 15, 16, 17], [0, 1, 2, 3, 4, 5, 6, 7, 8, 9, 10, 11, 12, 13, 14, 15, 16, 17, 18], [0, 1, 2, 3, 4, 5, 6, 7, 8, 9, 10, 11, 12, 13, 14, 15, 16, 17, 18, 19], [0, 1, 2, 3, 4, 5, 6, 7, 8, 9, 10, 11, 12, 13, 14, 15, 16, 17, 18, 19, 20], [0, 1, 2, 3, 4, 5, 6, 7, 8, 9, 10, 11, 12, 13, 14, 15, 16, 17, 18, 19, 20, 21], [0, 1, 2, 3, 4, 5, 6, 7, 8, 9, 10, 11, 12, 13, 14, 15, 16, 17, 18, 19, 20, 21, 22], [0, 1, 2, 3, 4, 5, 6, 7, 8, 9, 10, 11, 12, 13, 14, 15, 16, 17, 18, 19, 20, 21, 22, 23], [0, 1, 2, 3, 4, 5, 6, 7, 8, 9, 10, 11, 12, 13, 14, 15, 16, 17, 18, 19, 20, 21, 22, 23, 24], [0, 1, 2, 3, 4, 5, 6, 7, 8, 9, 10, 11, 12, 13, 14, 15, 16, 17, 18, 19, 20, 21, 22], [0, 1, 2, 3, 4, 5, 6, 7, 8, 9, 10, 11, 12, 13, 14, 15, 16, 17, 18, 19, 20, 21, 22], [0, 1, 2, 3, 4, 5, 6, 7, 8, 9, 10, 11, 12, 13, 14, 15, 16, 17, 18, 19, 20, 21, 22, 27], [0, 1, 2, 3, 4, 5, 6, 7, 8, 9, 10, 11, 12, 13, 14, 15, 16, 17, 18, 19, 20, 21, 22], [0, 1, 2, 3, 4, 5, 6, 7, 8, 9, 10, 11, 12, 13, 14, 15, 16, 17, 18, 19, 20, 21, 22, 29], [0, 1, 2, 3, 4, 5, 6, 7, 8, 9, 10, 11, 12, 13, 14, 15, 16, 17, 18, 19, 20, 21, 22, 27, 28, 29, 30], [0, 1, 2, 3, 4, 5, 6, 7, 8, 9, 10, 11, 12, 13, 14, 15, 16, 17, 18, 19, 20, 21, 22, 27, 28, 29, 30, 31], [0, 1, 2, 3, 4, 5, 6, 7, 8, 9, 10, 11, 12, 13, 14, 15, 16, 17, 18, 19, 20, 21, 22, 26, 27, 28, 29, 30, 31, 32], [0, 1, 2, 3, 4, 5, 6, 7, 8, 9, 10, 11, 12, 13, 14, 15, 16, 17, 18, 19, 20, 21, 22, 23, 24, 25, 26, 27, 28, 29, 30, 31, 32, 33], [0, 1, 2, 3, 4, 5, 6, 7, 8, 9, 10, 11, 12, 13, 14, 15, 16, 17, 18, 19, 20, 21, 22, 23, 24, 25, 26, 27, 28, 29, 30, 31, 32, 33, 34], [0, 1, 2, 3, 4, 5, 6, 7, 8, 9, 10, 11, 12, 13, 14, 15, 16, 17, 18, 19, 20, 21, 22, 23, 24, 25, 26, 27, 28, 29, 30, 31, 32, 33, 34, 35]]) (.ret)))) (.seq (.reg [⟨some 90, none, .bin .eql (.t 9) (.c (.pv (.int .u8 2)))⟩, ⟨some 89, none, .mov (.t 90)⟩]) (.cond (.t 89) (.seq (.reg [⟨some 91, none, .fad 9 (.t 5)⟩, ⟨some 92, none, .fad 1 (.t 91)⟩, ⟨some 93, none, .load none (.t 92)⟩, ⟨some 7, none, .mov (.t 93)⟩]) (.seq (.reg [⟨some 94, none, .fad 1 (.t 5)⟩, ⟨some 95, none, .load none (.t 94)⟩, ⟨some 96, none, .bin .eql (.t 95) (.c (.pv (.int .i64 0)))⟩, ⟨some 97, none, .mov (.t 96)⟩, ⟨some 98, some (97, true), .fad 2 (.t 5)⟩, ⟨some 99, some (97, true), .load none (.t 98)⟩, ⟨some 100, some (97, true), .bin .eql (.t 99) (.c (.pv (.int .i64 0)))⟩, ⟨some 101, none, .land (.t 97) (.t 100)⟩, ⟨some 102, none, .mov (.t 101)⟩, ⟨some 103, some (102, true), .fad 15 (.t 5)⟩, ⟨some 104, some (102, true), .load (some 6) (.t 103)⟩, ⟨some 105, some (102, true), .callf 63 [(.t 104)]⟩, ⟨some 106, none, .land (.t 102) (.t 105)⟩, ⟨some 107, none, .mov (.t 106)⟩, ⟨some 108, some (107, true), .load (some 7) (.t 3)⟩, ⟨some 109, some (107, true), .load (some 9) (.t 4)⟩, ⟨some 110, some (107, true), .fad 3 (.t 5)⟩, ⟨some 111, some (107, true), .load (some 6) (.t 110)⟩, ⟨some 112, some (107, true), .callf 64 [(.t 108), (.t 109), (.t 111)]⟩, ⟨some 113, none, .land (.t 107) (.t 112)⟩, ⟨some 114, none, .mov (.t 113)⟩, ⟨some 115, some (114, true), .fad 3 (.t 5)⟩, ⟨some 116, some (114, true), .fad 1 (.t 115)⟩, ⟨some 117, some (114, true), .load none (.t 116)⟩, ⟨some 118, some (114, true), .fad 2 (.t 3)⟩, ⟨some 119, some (114, true), .load none (.t 118)⟩, ⟨some 120, some (114, true), .bin .eql (.t 117) (.t 119)⟩, ⟨some 121, none, .land (.t 114) (.t 120)⟩, ⟨some 122, none, .mov (.t 121)⟩, ⟨some 123, some (122, true), .load (some 7) (.t 3)⟩, ⟨some 124, some (122, true), .load (some 9) (.t 4)⟩, ⟨some 125, some (122, true), .fad 9 (.t 5)⟩, ⟨some 126, some (122, true), .load (some 6) (.t 125)⟩, ⟨some 127, some (122, true), .callf 64 [(.t 123), (.t 124), (.t 126)]⟩, ⟨some 128, none, .land (.t 122) (.t 127)⟩, ⟨some 129, none, .mov (.t 128)⟩, ⟨some 130, some (129, true), .mov (.t 7)⟩, ⟨some 131, some (129, true), .bin .eql (.t 130) (.c (.pv (.int .i64 8)))⟩, ⟨some 132, some (129, true), .mov (.t 131)⟩, ⟨some 133, some (132, false), .mov (.t 7)⟩, ⟨some 134, some (132, false), .bin .eql (.t 133) (.c (.pv (.int .i64 16)))⟩, ⟨some 135, some (129, true), .lor (.t 132) (.t 134)⟩, ⟨some 136, some (129, true), .mov (.t 135)⟩, ⟨some 137, some (136, false), .mov (.t 7)⟩, ⟨some 138, some (136, false), .bin .eql (.t 137) (.c (.pv (.int .i64 32)))⟩, ⟨some 139, some (129, true), .lor (.t 136) (.t 138)⟩, ⟨some 140, some (129, true), .mov (.t 139)⟩, ⟨some 141, some (140, false), .mov (.t 7)⟩, ⟨some 142, some (140, false), .bin .eql (.t 141) (.c (.pv (.int .i64 64)))⟩, ⟨some 143, some (129, true), .lor (.t 140) (.t 142)⟩, ⟨some 144, none, .land (.t 129) (.t 143)⟩, ⟨some 6, none, .mov (.t 144)⟩]) (.ret))) (.seq (.reg [⟨some 146, none, .bin .eql (.t 9) (.c (.pv (.int .u8 3)))⟩, ⟨some 145, none, .mov (.t 146)⟩]) (.cond (.t 145) (.seq (.reg [⟨some 147, none, .fad 1 (.t 5)⟩, ⟨some 148, none, .load none (.t 147)⟩, ⟨some 149, none, .bin .eql (.t 148) (.c (.pv (.int .i64 0)))⟩, ⟨some 150, none, .mov (.t 149)⟩, ⟨some 151, some (150, true), .fad 2 (.t 5)⟩, ⟨some 152, some (150, true), .load none (.t 151)⟩, ⟨some 153, some (150, true), .bin .eql (.t 152) (.c (.pv (.int .i64 0)))⟩, ⟨some 154, none, .land (.t 150) (.t 153)⟩, ⟨some 155, none, .mov (.t 154)⟩, ⟨some 156, some (155, true), .fad 3 (.t 5)⟩, ⟨some 157, some (155, true), .load (some 6) (.t 156)⟩, ⟨some 158, some (155, true), .callf 63 [(.t 157)]⟩, ⟨some 159, none, .land (.t 155) (.t 158)⟩, ⟨some 160, none, .mov (.t 159)⟩, ⟨some 161, some (160, true), .load (some 7) (.t 3)⟩, ⟨some 162, some (160, true), .load (some 9) (.t 4)⟩, ⟨some 163, some (160, true), .fad 9 (.t 5)⟩, ⟨some 164, some (160, true), .load (some 6) (.t 163)⟩, ⟨some 165, some (160, true), .callf 64 [(.t 161), (.t 162), (.t 164)]⟩, ⟨some 166, none, .land (.t 160) (.t 165)⟩, ⟨some 167, none, .mov (.t 166)⟩, ⟨some 168, some (167, true), .fad 9 (.t 5)⟩, ⟨some 169, some (167, true), .fad 1 (.t 168)⟩, ⟨some 170, some (167, true), .load none (.t 169)⟩, ⟨some 171, some (167, true), .fad 2 (.t 3)⟩, ⟨some 172, some (167, true), .load none (.t 171)⟩, ⟨some 173, some (167, true), .bin .eql (.t 170) (.t 172)⟩, ⟨some 174, none, .land (.t 167) (.t 173)⟩, ⟨some 175, none, .mov (.t 174)⟩, ⟨some 176, some (175, true), .fad 15 (.t 5)⟩, ⟨some 177, some (175, true), .load (some 6) (.t 176)⟩, ⟨some 178, some (175, true), .callf 63 [(.t 177)]⟩, ⟨some 179, some (175, true), .mov (.t 178)⟩, ⟨some 180, some (179, false), .load (some 7) (.t 3)⟩, ⟨some 181, some (179, false), .load (some 9) (.t 4)⟩, ⟨some 182, some (179, false), .fad 15 (.t 5)⟩, ⟨some 183, some (179, false), .load (some 6) (.t 182)⟩, ⟨some 184, some (179, false), .callf 64 [(.t 180), (.t 181), (.t 183)]⟩, ⟨some 185, some (179, false), .mov (.t 184)⟩, ⟨some 186, some (185, true), .fad 15 (.t 5)⟩, ⟨some 187, some (185, true), .fad 1 (.t 186)⟩, ⟨some 188, some (185, true), .load none (.t 187)⟩, ⟨some 189, some (185, true), .bin .eql (.t 188) (.c (.pv (.int .i64 1)))⟩, ⟨some 190, some (179, false), .land (.t 185) (.t 189)⟩, ⟨some 191, some (175, true), .lor (.t 179) (.t 190)⟩, ⟨some 192, none, .land (.t 175) (.t 191)⟩, ⟨some 6, none, .mov (.t 192)⟩]) (.ret)) (.seq (.reg [⟨some 194, none, .bin .eql (.t 9) (.c (.pv (.int .u8 4)))⟩, ⟨some 193, none, .mov (.t 194)⟩]) (.cond (.t 193) (.seq (.reg [⟨some 195, none, .fad 1 (.t 5)⟩, ⟨some 196, none, .load none (.t 195)⟩, ⟨some 197, none, .bin .eql (.t 196) (.c (.pv (.int .i64 0)))⟩, ⟨some 198, none, .mov (.t 197)⟩, ⟨some 199, some (198, true), .fad 2 (.t 5)⟩, ⟨some 200, some (198, true), .load none (.t 199)⟩, ⟨some 201, some (198, true), .bin .eql (.t 200) (.c (.pv (.int .i64 0)))⟩, ⟨some 202, none, .land (.t 198) (.t 201)⟩, ⟨some 203, none, .mov (.t 202)⟩, ⟨some 204, some (203, true), .fad 3 (.t 5)⟩, ⟨some 205, some (203, true), .load (some 6) (.t 204)⟩, ⟨some 206, some (203, true), .callf 63 [(.t 205)]⟩, ⟨some 207, none, .land (.t 203) (.t 206)⟩, ⟨some 208, none, .mov (.t 207)⟩, ⟨some 209, some (208, true), .fad 15 (.t 5)⟩, ⟨some 210, some (208, true), .load (some 6) (.t 209)⟩, ⟨some 211, some (208, true), .callf 63 [(.t 210)]⟩, ⟨some 212, none, .land (.t 208) (.t 211)⟩, ⟨some 213, none, .mov (.t 212)⟩, ⟨some 214, some (213, true), .load (some 7) (.t 3)⟩, ⟨some 215, some (213, true), .load (some 9) (.t 4)⟩, ⟨some 216, some (213, true), .fad 9 (.t 5)⟩, ⟨some 217, some (213, true), .load (some 6) (.t 216)⟩, ⟨some 218, some (213, true), .callf 64 [(.t 214), (.t 215), (.t 217)]⟩, ⟨some 219, none, .land (.t 213) (.t 218)⟩, ⟨some 6, none, .mov (.t 219)⟩]) (.ret)) (.skip))))))))))) (.seq (.reg [⟨some 6, none, .mov (.c (.pv (.bool false)))⟩]) (.ret)))
theorem k_retargetref08_okEffect : FnOk Tryd.prog 55 220 c_retargetref08_okEffect [.tmp 6] := .mk' (fn := Tryd.f55) rfl rfl (by kernel_rfl) rfl (by kernel_rfl) (by kernel_rfl)
/- "retarget/retargetref08.Field" -/
def c_retargetref08_Field : C :=
.seq (.reg [⟨some 1, none, .box 6 (.t 0)⟩, ⟨some 2, none, .mov (.c (.pv (.int .i64 0)))⟩]) (.seq (.reg [⟨some 3, none, .mov (.c (.pv (.int .i64 0)))⟩]) (.seq (.seq (.reg [⟨some 4, none, .mov (.c (.pv (.int .i64 0)))⟩]) (.blk 0 (.loop ⟨[1, 3, 4], [0], 1⟩ (.seq (.seq (.reg [⟨some 5, none, .mov (.t 4)⟩, ⟨some 6, none, .fad 4 (.t 1)⟩, ⟨some 7, none, .load none (.t 6)⟩, ⟨some 8, none, .len (.t 7)⟩, ⟨some 9, none, .bin .lss (.t 5) (.t 8)⟩]) (.cond (.t 9) (.skip) (.ext 0))) (.seq (.blk 1 (.reg [⟨some 12, none, .mov (.t 3)⟩, ⟨some 13, none, .fad 4 (.t 1)⟩, ⟨some 14, none, .load none (.t 13)⟩, ⟨some 15, none, .mov (.t 4)⟩, ⟨some 16, none, .iad 2 (.t 14) (.t 15)⟩, ⟨some 17, none, .fad 1 (.t 16)⟩, ⟨some 18, none, .load none (.t 17)⟩, ⟨some 19, none, .bin .add (.t 12) (.t 18)⟩, ⟨some 3, none, .mov (.t 19)⟩])) (.reg [⟨some 10, none, .mov (.t 4)⟩, ⟨some 11, none, .bin .add (.t 10) (.c (.pv (.int .i64 1)))⟩, ⟨some 4, none, .mov (.t 11)⟩])))))) (.seq (.reg [⟨some 20, none, .mov (.t 3)⟩, ⟨some 2, none, .mov (.t 20)⟩]) (.ret))))
theorem k_retargetref08_Field : FnOk Tryd.prog 56 21 c_retargetref08_Field [.tmp 2] := .mk' (fn := Tryd.f56) rfl rfl (by kernel_rfl) rfl (by kernel_rfl) (by kernel_rfl)
/- "retarget/retargetref08.okPieces" -/
def c_retargetref08_okPieces : C :=
.seq (.reg [⟨some 2, none, .box 6 (.t 0)⟩, ⟨some 4, none, .mov (.c (.pv (.bool false)))⟩]) (.seq (.seq (.reg [⟨some 5, none, .mov (.c (.pv (.int .i64 0)))⟩]) (.blk 0 (.loop ⟨[1, 2, 5], [0], 1⟩ (.seq (.seq (.reg [⟨some 7, none, .mov (.t 5)⟩, ⟨some 8, none, .fad 4 (.t 2)⟩, ⟨some 9, none, .load none (.t 8)⟩, ⟨some 10, none, .len (.t 9)⟩, ⟨some 11, none, .bin .lss (.t 7) (.t 10)⟩]) (.cond (.t 11) (.skip) (.ext 0))) (.seq (.blk 1 (.seq (.reg [⟨some 14, none, .fad 4 (.t 2)⟩, ⟨some 15, none, .load none (.t 14)⟩, ⟨some 16, none, .mov (.t 5)⟩, ⟨some 17, none, .iad 2 (.t 15) (.t 16)⟩, ⟨some 18, none, .load (some 2) (.t 17)⟩, ⟨some 6, none, .alloc [.pv (.int .i64 0), .pv (.int .i64 0)]⟩, ⟨none, none, .store 2 (.t 6) (.t 18)⟩]) (.seq (.reg [⟨some 19, none, .fad 1 (.t 6)⟩, ⟨some 20, none, .load none (.t 19)⟩, ⟨some 21, none, .mov (.t 1)⟩, ⟨some 22, none, .bin .mul (.c (.pv (.int .i64 8))) (.t 21)⟩, ⟨some 23, none, .callf 40 [(.t 20), (.c (.pv (.int .i64 1))), (.t 22)]⟩, ⟨some 24, none, .un .not (.t 23)⟩, ⟨some 25, none, .mov (.t 24)⟩, ⟨some 26, some (25, false), .fad 0 (.t 6)⟩, ⟨some 27, some (25, false), .load none (.t 26)⟩, ⟨some 28, some (25, false), .mov (.t 1)⟩, ⟨some 29, some (25, false), .bin .mul (.c (.pv (.int .i64 8))) (.t 28)⟩, ⟨some 30, some (25, false), .fad 1 (.t 6)⟩, ⟨some 31, some (25, false), .load none (.t 30)⟩, ⟨some 32, some (25, false), .bin .sub (.t 29) (.t 31)⟩, ⟨some 33, some (25, false), .callf 40 [(.t 27), (.c (.pv (.int .i64 0))), (.t 32)]⟩, ⟨some 34, some (25, false), .un .not (.t 33)⟩, ⟨some 35, none, .lor (.t 25) (.t 34)⟩]) (.cond (.t 35) (.seq (.reg [⟨some 4, none, .mov (.c (.pv (.bool false)))⟩]) (.ret)) (.skip))))) (.reg [⟨some 12, none, .mov (.t 5)⟩, ⟨some 13, none, .bin .add (.t 12) (.c (.pv (.int .i64 1)))⟩, ⟨some 5, none, .mov (.t 13)⟩])))))) (.seq (.reg [⟨some 4, none, .mov (.c (.pv (.bool true)))⟩]) (.ret)))
theorem k_retargetref08_okPieces : FnOk Tryd.prog 62 36 c_retargetref08_okPieces [.tmp 4] := .mk' (fn := Tryd.f62) rfl rfl (by kernel_rfl) rfl (by kernel_rfl) (by kernel_rfl)
/- "retarget/retargetref08.none" -/
def c_retargetref08_none : C :=
.seq (.reg [⟨some 1, none, .box 6 (.t 0)⟩, ⟨some 2, none, .mov (.c (.pv (.bool false)))⟩]) (.seq (.reg [⟨some 3, none, .fad 0 (.t 1)⟩, ⟨some 4, none, .load none (.t 3)⟩, ⟨some 5, none, .bin .eql (.t 4) (.c (.pv (.int .u8 0)))⟩, ⟨some 6, none, .mov (.t 5)⟩, ⟨some 7, some (6, true), .fad 1 (.t 1)⟩, ⟨some 8, some (6, true), .load none (.t 7)⟩, ⟨some 9, some (6, true), .bin .eql (.t 8) (.c (.pv (.int .i64 0)))⟩, ⟨some 10, none, .land (.t 6) (.t 9)⟩, ⟨some 11, none, .mov (.t 10)⟩, ⟨some 12, some (11, true), .fad 2 (.t 1)⟩, ⟨some 13, some (11, true), .load none (.t 12)⟩, ⟨some 14, some (11, true), .bin .eql (.t 13) (.c (.pv (.int .u64 0)))⟩, ⟨some 15, none, .land (.t 11) (.t 14)⟩, ⟨some 16, none, .mov (.t 15)⟩, ⟨some 17, some (16, true), .fad 3 (.t 1)⟩, ⟨some 18, some (16, true), .load none (.t 17)⟩, ⟨some 19, some (16, true), .bin .eql (.t 18) (.c (.pv (.str ⟨#[]⟩)))⟩, ⟨some 20, none, .land (.t 16) (.t 19)⟩, ⟨some 21, none, .mov (.t 20)⟩, ⟨some 22, some (21, true), .fad 4 (.t 1)⟩, ⟨some 23, some (21, true), .load none (.t 22)⟩, ⟨some 24, some (21, true), .bin .eql (.t 23) (.c (.pv (.int .i64 0)))⟩, ⟨some 25, none, .land (.t 21) (.t 24)⟩, ⟨some 26, none, .mov (.t 25)⟩, ⟨some 27, some (26, true), .fad 5 (.t 1)⟩, ⟨some 28, some (26, true), .load none (.t 27)⟩, ⟨some 29, some (26, true), .len (.t 28)⟩, ⟨some 30, some (26, true), .bin .eql (.t 29) (.c (.pv (.int .i64 0)))⟩, ⟨some 31, none, .land (.t 26) (.t 30)⟩, ⟨some 2, none, .mov (.t 31)⟩]) (.ret))
theorem k_retargetref08_none : FnOk Tryd.prog 63 32 c_retargetref08_none [.tmp 2] := .mk' (fn := Tryd.f63) rfl rfl (by kernel_rfl) rfl (by kernel_rfl) (by kernel_rfl)
/- "retarget/retargetref08.Fits" -/
def c_retargetref08_Fits : C :=
.seq (.reg [⟨some 3, none, .box 7 (.t 0)⟩, ⟨some 4, none, .box 9 (.t 1)⟩, ⟨some 5, none, .box 6 (.t 2)⟩, ⟨some 6, none, .mov (.c (.pv (.bool false)))⟩]) (.seq (.reg [⟨some 7, none, .load (some 6) (.t 5)⟩, ⟨some 8, none, .callf 68 [(.t 7)]⟩, ⟨some 9, none, .bin .eql (.t 8) (.c (.pv (.int .i64 0)))⟩, ⟨some 10, none, .mov (.t 9)⟩, ⟨some 11, some (10, true), .load (some 7) (.t 3)⟩, ⟨some 12, some (10, true), .load (some 9) (.t 4)⟩, ⟨some 13, some (10, true), .load (some 6) (.t 5)⟩, ⟨some 14, some (10, true), .callf 69 [(.t 11), (.t 12), (.t 13)]⟩, ⟨some 15, none, .land (.t 10) (.t 14)⟩, ⟨some 6, none, .mov (.t 15)⟩]) (.ret))
theorem k_retargetref08_Fits : FnOk Tryd.prog 64 16 c_retargetref08_Fits [.tmp 6] := .mk' (fn := Tryd.f64) rfl rfl (by kernel_rfl) rfl (by kernel_rfl) (by kernel_rfl)
/- "retarget/retargetref08.Wide" -/
def c_retargetref08_Wide : C :=
.seq (.reg [⟨some 2, none, .box 7 (.t 0)⟩, ⟨some 3, none, .box 6 (.t 1)⟩, ⟨some 4, none, .mov (.c (.pv (.int .i64 0)))⟩]) (.seq (.seq (.reg [⟨some 5, none, .fad 1 (.t 3)⟩, ⟨some 6, none, .load none (.t 5)⟩, ⟨some 7, none, .bin .eql (.t 6) (.c (.pv (.int .u8 1)))⟩]) (.cond (.t 7) (.seq (.dreg [⟨some 8, none, .fad 3 (.t 2)⟩, ⟨some 9, none, .load none (.t 8)⟩, ⟨some 10, none, .fad 4 (.t 2)⟩, ⟨some 11, none, .load none (.t 10)⟩, ⟨some 12, none, .fad 2 (.t 3)⟩, ⟨some 13, none, .load none (.t 12)⟩, ⟨some 14, none, .iad 2 (.t 11) (.t 13)⟩, ⟨some 15, none, .fad 1 (.t 14)⟩, ⟨some 16, none, .load none (.t 15)⟩, ⟨some 17, none, .iad 1 (.t 16) (.c (.pv (.int .i64 0)))⟩, ⟨some 18, none, .load none (.t 17)⟩, ⟨some 19, none, .iad 4 (.t 9) (.t 18)⟩, ⟨some 20, none, .fad 1 (.t 19)⟩, ⟨some 21, none, .load none (.t 20)⟩, ⟨some 4, none, .mov (.t 21)⟩] [[], [0], [], [2], [], [4], [2, 3, 4, 5], [2, 3, 4, 5, 6], [2, 3, 4, 5, 6, 7], [2, 3, 4, 5, 6, 7, 8], [2, 3, 4, 5, 6, 7, 8, 9], [0, 1, 2, 3, 4, 5, 6, 7, 8, 9, 10], [0, 1, 2, 3, 4, 5, 6, 7, 8, 9, 10, 11], [0, 1, 2, 3, 4, 5, 6, 7, 8, 9, 10, 11, 12], [0, 1, 2, 3, 4, 5, 6, 7, 8, 9, 10, 11, 12, 13]]) (.ret)) (.skip))) (.seq (.reg [⟨some 22, none, .fad 2 (.t 2)⟩, ⟨some 23, none, .load none (.t 22)⟩, ⟨some 4, none, .mov (.t 23)⟩]) (.ret)))
theorem k_retargetref08_Wide : FnOk Tryd.prog 65 24 c_retargetref08_Wide [.tmp 4] := .mk' (fn := Tryd.f65) rfl rfl (by kernel_rfl) rfl (by kernel_rfl) (by kernel_rfl)
/- "retarget/retargetref08.known" -/
def c_retargetref08_known : C :=
.seq (.reg [⟨some 3, none, .box 7 (.t 0)⟩, ⟨some 4, none, .box 9 (.t 1)⟩, ⟨some 5, none, .box 6 (.t 2)⟩, ⟨some 6, none, .mov (.c (.pv (.bool false)))⟩]) (.seq (.seq (.reg [⟨some 8, none, .fad 0 (.t 5)⟩, ⟨some 9, none, .load none (.t 8)⟩, ⟨some 10, none, .bin .eql (.t 9) (.c (.pv (.int .u8 2)))⟩, ⟨some 11, none, .mov (.t 10)⟩, ⟨some 12, some (11, true), .load (some 7) (.t 3)⟩, ⟨some 13, some (11, true), .load (some 9) (.t 4)⟩, ⟨some 14, some (11, true), .fad 3 (.t 5)⟩, ⟨some 15, some (11, true), .load none (.t 14)⟩, ⟨some 16, some (11, true), .fad 1 (.t 5)⟩, ⟨some 17, some (11, true), .load none (.t 16)⟩, ⟨some 18, some (11, true), .callf 78 [(.t 12), (.t 13), (.t 15), (.t 17)]⟩, ⟨some 19, some (11, true), .un .not (.t 18)⟩, ⟨some 20, none, .land (.t 11) (.t 19)⟩]) (.cond (.t 20) (.seq (.reg [⟨some 6, none, .mov (.c (.pv (.bool false)))⟩]) (.ret)) (.skip))) (.seq (.seq (.dreg [⟨some 21, none, .fad 0 (.t 5)⟩, ⟨some 22, none, .load none (.t 21)⟩, ⟨some 23, none, .bin .eql (.t 22) (.c (.pv (.int .u8 24)))⟩, ⟨some 24, none, .mov (.t 23)⟩, ⟨some 25, some (24, true), .fad 5 (.t 5)⟩, ⟨some 26, some (24, true), .load none (.t 25)⟩, ⟨some 27, some (24, true), .iad 6 (.t 26) (.c (.pv (.int .i64 0)))⟩, ⟨some 28, some (24, true), .fad 1 (.t 27)⟩, ⟨some 29, some (24, true), .load none (.t 28)⟩, ⟨some 30, some (24, true), .fad 2 (.t 3)⟩, ⟨some 31, some (24, true), .load none (.t 30)⟩, ⟨some 32, some (24, true), .bin .neq (.t 29) (.t 31)⟩, ⟨some 33, none, .land (.t 24) (.t 32)⟩] [[], [0], [0, 1], [0, 1, 2], [0, 1, 2, 3], [0, 1, 2, 3, 4], [0, 1, 2, 3, 4, 5], [0, 1, 2, 3, 4, 5, 6], [0, 1, 2, 3, 4, 5, 6, 7], [0, 1, 2, 3], [0, 1, 2, 3, 9], [0, 1, 2, 3, 4, 5, 6, 7, 8, 9, 10], [0, 1, 2, 3, 4, 5, 6, 7, 8, 9, 10, 11]]) (.cond (.t 33) (.seq (.reg [⟨some 6, none, .mov (.c (.pv (.bool false)))⟩]) (.ret)) (.skip))) (.seq (.seq (.reg [⟨some 7, none, .mov (.c (.pv (.int .i64 0)))⟩]) (.blk 0 (.loop ⟨[3, 4, 5, 7], [0, 1, 2], 16⟩ (.seq (.seq (.reg [⟨some 34, none, .mov (.t 7)⟩, ⟨some 35, none, .fad 5 (.t 5)⟩, ⟨some 36, none, .load none (.t 35)⟩, ⟨some 37, none, .len (.t 36)⟩, ⟨some 38, none, .bin .lss (.t 34) (.t 37)⟩]) (.cond (.t 38) (.skip) (.ext 0))) (.seq (.blk 1 (.seq (.dreg [⟨some 41, none, .load (some 7) (.t 3)⟩, ⟨some 42, none, .load (some 9) (.t 4)⟩, ⟨some 43, none, .fad 5 (.t 5)⟩, ⟨some 44, none, .load none (.t 43)⟩, ⟨some 45, none, .mov (.t 7)⟩, ⟨some 46, none, .iad 6 (.t 44) (.t 45)⟩, ⟨some 47, none, .load (some 6) (.t 46)⟩, ⟨some 48, none, .callf 69 [(.t 41), (.t 42), (.t 47)]⟩, ⟨some 49, none, .un .not (.t 48)⟩] [[], [], [], [2], [], [2, 3, 4], [2, 3, 4, 5], [0, 1, 2, 3, 4, 5, 6], [0, 1, 2, 3, 4, 5, 6, 7]]) (.cond (.t 49) (.seq (.reg [⟨some 6, none, .mov (.c (.pv (.bool false)))⟩]) (.ret)) (.skip)))) (.reg [⟨some 39, none, .mov (.t 7)⟩, ⟨some 40, none, .bin .add (.t 39) (.c (.pv (.int .i64 1)))⟩, ⟨some 7, none, .mov (.t 40)⟩])))))) (.seq (.reg [⟨some 6, none, .mov (.c (.pv (.bool true)))⟩]) (.ret)))))
theorem k_retargetref08_known : FnOk Tryd.prog 69 50 c_retargetref08_known [.tmp 6] := .mk' (fn := Tryd.f69) rfl rfl (by kernel_rfl) rfl (by kernel_rfl) (by kernel_rfl)
/- "retarget/retargetref08.variable" -/
def c_retargetref08_variable : C :=
.seq (.reg [⟨some 4, none, .box 7 (.t 0)⟩, ⟨some 5, none, .box 9 (.t 1)⟩, ⟨some 8, none, .mov (.c (.pv (.bool false)))⟩]) (.seq (.seq (.reg [⟨some 11, none, .mov (.t 2)⟩, ⟨some 12, none, .bin .eql (.t 11) (.c (.pv (.str ⟨#[112, 99]⟩)))⟩]) (.cond (.t 12) (.seq (.reg [⟨some 13, none, .mov (.t 3)⟩, ⟨some 14, none, .fad 2 (.t 4)⟩, ⟨some 15, none, .load none (.t 14)⟩, ⟨some 16, none, .bin .eql (.t 13) (.t 15)⟩, ⟨some 8, none, .mov (.t 16)⟩]) (.ret)) (.skip))) (.seq (.seq (.reg [⟨some 9, none, .mov (.c (.pv (.int .i64 0)))⟩]) (.blk 0 (.loop ⟨[2, 3, 4, 5, 9], [0, 1], 2⟩ (.seq (.seq (.reg [⟨some 17, none, .mov (.t 9)⟩, ⟨some 18, none, .fad 3 (.t 5)⟩, ⟨some 19, none, .load none (.t 18)⟩, ⟨some 20, none, .len (.t 19)⟩, ⟨some 21, none, .bin .lss (.t 17) (.t 20)⟩]) (.cond (.t 21) (.skip) (.ext 0))) (.seq (.blk 1 (.seq (.reg [⟨some 24, none, .fad 3 (.t 5)⟩, ⟨some 25, none, .load none (.t 24)⟩, ⟨some 26, none, .mov (.t 9)⟩, ⟨some 27, none, .iad 6 (.t 25) (.t 26)⟩, ⟨some 28, none, .fad 0 (.t 27)⟩, ⟨some 29, none, .load none (.t 28)⟩, ⟨some 30, none, .mov (.t 2)⟩, ⟨some 31, none, .bin .eql (.t 29) (.t 30)⟩]) (.cond (.t 31) (.seq (.dreg [⟨some 32, none, .mov (.t 3)⟩, ⟨some 33, none, .load (some 7) (.t 4)⟩, ⟨some 34, none, .fad 3 (.t 5)⟩, ⟨some 35, none, .load none (.t 34)⟩, ⟨some 36, none, .mov (.t 9)⟩, ⟨some 37, none, .iad 6 (.t 35) (.t 36)⟩, ⟨some 38, none, .load (some 6) (.t 37)⟩, ⟨some 39, none, .callf 65 [(.t 33), (.t 38)]⟩, ⟨some 40, none, .bin .eql (.t 32) (.t 39)⟩, ⟨some 8, none, .mov (.t 40)⟩] [[], [], [], [2], [], [2, 3, 4], [2, 3, 4, 5], [1, 2, 3, 4, 5, 6], [0, 1, 2, 3, 4, 5, 6, 7], [0, 1, 2, 3, 4, 5, 6, 7, 8]]) (.ret)) (.skip)))) (.reg [⟨some 22, none, .mov (.t 9)⟩, ⟨some 23, none, .bin .add (.t 22) (.c (.pv (.int .i64 1)))⟩, ⟨some 9, none, .mov (.t 23)⟩])))))) (.seq (.seq (.reg [⟨some 10, none, .mov (.c (.pv (.int .i64 0)))⟩]) (.blk 2 (.loop ⟨[2, 3, 4, 10], [0, 1], 2⟩ (.seq (.seq (.reg [⟨some 41, none, .mov (.t 10)⟩, ⟨some 42, none, .fad 3 (.t 4)⟩, ⟨some 43, none, .load none (.t 42)⟩, ⟨some 44, none, .len (.t 43)⟩, ⟨some 45, none, .bin .lss (.t 41) (.t 44)⟩]) (.cond (.t 45) (.skip) (.ext 2))) (.seq (.blk 3 (.seq (.reg [⟨some 48, none, .fad 3 (.t 4)⟩, ⟨some 49, none, .load none (.t 48)⟩, ⟨some 50, none, .mov (.t 10)⟩, ⟨some 51, none, .iad 4 (.t 49) (.t 50)⟩, ⟨some 52, none, .fad 0 (.t 51)⟩, ⟨some 53, none, .load none (.t 52)⟩, ⟨some 54, none, .bin .add (.c (.pv (.str ⟨#[114, 46]⟩))) (.t 53)⟩, ⟨some 55, none, .mov (.t 2)⟩, ⟨some 56, none, .bin .eql (.t 54) (.t 55)⟩]) (.cond (.t 56) (.seq (.reg [⟨some 57, none, .mov (.t 3)⟩, ⟨some 58, none, .fad 3 (.t 4)⟩, ⟨some 59, none, .load none (.t 58)⟩, ⟨some 60, none, .mov (.t 10)⟩, ⟨some 61, none, .iad 4 (.t 59) (.t 60)⟩, ⟨some 62, none, .fad 1 (.t 61)⟩, ⟨some 63, none, .load none (.t 62)⟩, ⟨some 64, none, .bin .eql (.t 57) (.t 63)⟩, ⟨some 8, none, .mov (.t 64)⟩]) (.ret)) (.skip)))) (.reg [⟨some 46, none, .mov (.t 10)⟩, ⟨some 47, none, .bin .add (.t 46) (.c (.pv (.int .i64 1)))⟩, ⟨some 10, none, .mov (.t 47)⟩])))))) (.seq (.reg [⟨some 8, none, .mov (.c (.pv (.bool false)))⟩]) (.ret)))))
theorem k_retargetref08_variable : FnOk Tryd.prog 78 65 c_retargetref08_variable [.tmp 8] := .mk' (fn := Tryd.f78) rfl rfl (by kernel_rfl) rfl (by kernel_rfl) (by kernel_rfl)
end Go.Proofs.YteiampdhhigjcaaDoorV

/- Plain laws: the bits that operands take. -/
namespace Go.Proofs.YteiampdhhigjcaaDoorV
open Go
set_option maxHeartbeats 1000000

theorem and_zero_iff {a b : Nat} : a &&& b = 0 ↔ ∀ k, ¬ (a.testBit k = true ∧ b.testBit k = true) := by
  constructor
  · intro h k hk
    have := Nat.testBit_and a b k
    rw [h, Nat.zero_testBit, hk.1, hk.2] at this
    simp at this
  · intro h
    refine Nat.eq_of_testBit_eq fun k => ?_
    rw [Nat.testBit_and, Nat.zero_testBit]
    have := h k
    cases ha : a.testBit k <;> cases hb : b.testBit k <;> simp_all
theorem pmask_bit {word : Int} {ps : List Piece} {j : Nat} (h : rngOk word ps j = true) (b : Nat) : (pmask (gt ps (j : Nat))).testBit b = covers (gt ps (j : Nat)) b := by
  simp only [rngOk, Bool.and_eq_true] at h
  have h1 : 1 ≤ (gt ps (j : Nat)).len ∧ (gt ps (j : Nat)).len ≤ 8 * word := by simpa [inR] using h.1
  have h2 : 0 ≤ (gt ps (j : Nat)).at_ ∧ (gt ps (j : Nat)).at_ ≤ 8 * word - (gt ps (j : Nat)).len := by simpa [inR] using h.2
  generalize gt ps (j : Nat) = p at *
  rw [pmask, Nat.mul_comm, Nat.testBit_two_pow_mul, Nat.testBit_two_pow_sub_one]
  rw [Bool.eq_iff_iff]
  simp [covers, inR]
  omega
theorem coverP_nonneg (ps : List Piece) (b : Nat) : ∀ n, 0 ≤ coverP ps b n
  | 0 => by simp [coverP]
  | n + 1 => by have := coverP_nonneg ps b n; rw [coverP]; split <;> omega
theorem takenN_bit {word : Int} {ps : List Piece} (b : Nat) : ∀ n, (∀ j, j < n → rngOk word ps j = true) → ((takenN ps n).testBit b = true ↔ 1 ≤ coverP ps b n)
  | 0, _ => by simp [takenN, coverP]
  | n + 1, h => by
    have ih := takenN_bit b n fun j hj => h j (by omega)
    have h0 := coverP_nonneg ps b n
    rw [takenN, Nat.testBit_or, Bool.or_eq_true, ih, pmask_bit (h n (by omega)), coverP]
    split
    · rename_i hc; simp [hc]; omega
    · rename_i hc; simp [hc]
theorem pieces_apart {word : Int} {ps : List Piece} : ∀ n, (∀ j, j < n → rngOk word ps j = true) → ((∀ j, j < n → takenN ps j &&& pmask (gt ps (j : Nat)) = 0) ↔ ∀ b, coverP ps b n ≤ 1)
  | 0, _ => by simp [coverP]
  | n + 1, h => by
    have hn : ∀ j, j < n → rngOk word ps j = true := fun j hj => h j (by omega)
    have ih := pieces_apart n hn
    constructor
    · intro hd b
      have h1 := ih.1 (fun j hj => hd j (by omega)) b
      rw [coverP]
      split
      · rename_i hc
        have h2 := and_zero_iff.1 (hd n (by omega)) b
        rw [takenN_bit b n hn, pmask_bit (h n (by omega)), hc] at h2
        simp at h2; omega
      · omega
    · intro hc j hj
      rcases Nat.lt_or_eq_of_le (Nat.le_of_lt_succ hj) with hj | rfl
      · refine ih.2 (fun b => ?_) j hj
        have := hc b
        rw [coverP] at this
        split at this <;> omega
      · rw [and_zero_iff]
        rintro b ⟨h1, h2⟩
        rw [takenN_bit b _ hn] at h1
        rw [pmask_bit (h _ (by omega))] at h2
        have := hc b
        rw [coverP, if_pos h2] at this
        omega
/-- The bits that the mask and the operands below i take. -/
def tkT (s : Ins_) : Nat → Nat
  | 0 => s.mask.toNat
  | i + 1 => tkT s i ||| takenN (gt s.operands (i : Nat)).pieces (gt s.operands (i : Nat)).pieces.length
def rngs (m : Mach) (s : Ins_) (n : Nat) : Prop := ∀ i, i < n → ∀ j, j < (gt s.operands (i : Nat)).pieces.length → rngOk m.word (gt s.operands (i : Nat)).pieces j = true
theorem coverO_nonneg (s : Ins_) (b : Nat) : ∀ n, 0 ≤ coverO s b n
  | 0 => by simp [coverO]
  | n + 1 => by have := coverO_nonneg s b n; have := coverP_nonneg (gt s.operands (n : Nat)).pieces b (gt s.operands (n : Nat)).pieces.length; rw [coverO]; omega
theorem bitI_bit {w : Int} (h : 0 ≤ w) (b : Nat) : bitI w b = if w.toNat.testBit b then 1 else 0 := by
  have e : w = (w.toNat : Int) := (Int.toNat_of_nonneg h).symm
  generalize w.toNat = n at e
  subst e
  rw [bitI, Nat.testBit_eq_decide_div_mod_eq]
  have : ((n : Int) / 2 ^ b % 2) = ((n / 2 ^ b % 2 : Nat) : Int) := by push_cast; rfl
  rw [this]
  by_cases h1 : n / 2 ^ b % 2 = 1
  · simp [h1]
  · simp [h1]; omega
theorem tkT_bit {m : Mach} {s : Ins_} (hm : 0 ≤ s.mask) (b : Nat) : ∀ n, rngs m s n → ((tkT s n).testBit b = true ↔ 1 ≤ bitI s.mask b + coverO s b n)
  | 0, _ => by rw [tkT, coverO, bitI_bit hm]; split <;> simp_all
  | n + 1, h => by
    have ih := tkT_bit hm b n fun i hi => h i (by omega)
    have h0 := coverO_nonneg s b n
    have h1 : 0 ≤ bitI s.mask b := by rw [bitI_bit hm]; split <;> omega
    have h2 := coverP_nonneg (gt s.operands (n : Nat)).pieces b (gt s.operands (n : Nat)).pieces.length
    rw [tkT, Nat.testBit_or, Bool.or_eq_true, ih, takenN_bit b _ (h n (by omega)), coverO]
    omega
theorem ops_apart {m : Mach} {s : Ins_} (hm : 0 ≤ s.mask) : ∀ n, rngs m s n →
    ((∀ i, i < n → (∀ j, j < (gt s.operands (i : Nat)).pieces.length → takenN (gt s.operands (i : Nat)).pieces j &&& pmask (gt (gt s.operands (i : Nat)).pieces (j : Nat)) = 0) ∧ tkT s i &&& takenN (gt s.operands (i : Nat)).pieces (gt s.operands (i : Nat)).pieces.length = 0) ↔ ∀ b, bitI s.mask b + coverO s b n ≤ 1)
  | 0, _ => by
    simp only [coverO]
    refine ⟨fun _ b => ?_, fun _ i hi => by omega⟩
    rw [bitI_bit hm]; split <;> omega
  | n + 1, h => by
    have hn : rngs m s n := fun i hi => h i (by omega)
    have ih := ops_apart hm n hn
    have hp := pieces_apart (gt s.operands (n : Nat)).pieces.length (h n (by omega))
    have h1 : ∀ b, 0 ≤ bitI s.mask b := fun b => by rw [bitI_bit hm]; split <;> omega
    constructor
    · intro hd b
      have h2 := ih.1 (fun i hi => hd i (by omega)) b
      have h3 := hp.1 (hd n (by omega)).1 b
      have h4 := and_zero_iff.1 (hd n (by omega)).2 b
      rw [tkT_bit hm b n hn, takenN_bit b _ (h n (by omega))] at h4
      have h5 := coverO_nonneg s b n
      have h6 := coverP_nonneg (gt s.operands (n : Nat)).pieces b (gt s.operands (n : Nat)).pieces.length
      have h7 := h1 b
      rw [coverO]
      omega
    · intro hc i hi
      rcases Nat.lt_or_eq_of_le (Nat.le_of_lt_succ hi) with hi | rfl
      · refine ih.2 (fun b => ?_) i hi
        have := hc b
        rw [coverO] at this
        have h6 := coverP_nonneg (gt s.operands (n : Nat)).pieces b (gt s.operands (n : Nat)).pieces.length
        omega
      · refine ⟨hp.2 fun b => ?_, ?_⟩
        · have := hc b
          rw [coverO] at this
          have h5 := coverO_nonneg s b i
          have h7 := h1 b
          omega
        · rw [and_zero_iff]
          rintro b ⟨h2, h3⟩
          rw [tkT_bit hm b _ hn] at h2
          rw [takenN_bit b _ (h _ (by omega))] at h3
          have := hc b
          rw [coverO] at this
          omega
/-- Bits beyond the word are not taken. -/
theorem coverP_out {word : Int} {ps : List Piece} {b : Nat} (hb : 8 * word ≤ b) : ∀ n, (∀ j, j < n → rngOk word ps j = true) → coverP ps b n = 0
  | 0, _ => rfl
  | n + 1, h => by
    have h1 := h n (by omega)
    simp only [rngOk, Bool.and_eq_true] at h1
    have h2 : 0 ≤ (gt ps (n : Nat)).at_ ∧ (gt ps (n : Nat)).at_ ≤ 8 * word - (gt ps (n : Nat)).len := by simpa [inR] using h1.2
    rw [coverP, coverP_out hb n fun j hj => h j (by omega), if_neg]; rfl
    simp [covers, inR]; omega
theorem coverO_out {m : Mach} {s : Ins_} {b : Nat} (hb : 8 * m.word ≤ b) : ∀ n, rngs m s n → coverO s b n = 0
  | 0, _ => rfl
  | n + 1, h => by rw [coverO, coverO_out hb n fun i hi => h i (by omega), coverP_out hb _ (h n (by omega))]; rfl
theorem apart_iff {m : Mach} {s : Ins_} (hw : 1 ≤ m.word ∧ m.word ≤ 4) (hm : 0 ≤ s.mask) (hm2 : s.mask < 2 ^ (8 * m.word).toNat) (hr : rngs m s s.operands.length) : apart m s = true ↔ ∀ b, bitI s.mask b + coverO s b s.operands.length ≤ 1 := by
  rw [apart, allB_true]
  simp only [decide_eq_true_eq]
  refine ⟨fun h b => ?_, fun h b _ => h b⟩
  by_cases hb : b < (8 * m.word).toNat
  · exact h b hb
  · rw [coverO_out (by omega) _ hr, bitI_bit hm]; split <;> omega
end Go.Proofs.YteiampdhhigjcaaDoorV
