/- Packed: Ia Ci Cj Pb Ck Cl Cm Pc Cn Co Cp Cq Cr Pd Pe Pf Pg Ra Rb Rc Cf Cg Rd Re Rf Rg -/
import Derived.Test.YtbghfliffomfdaaGreatDoorChk2
set_option linter.all false
/- Calls that keep the objects' numbers; visits that may stop. -/
namespace Go.Proofs.YtbghfliffomfdaaGreatDoorV
open Go

theorem DV.ren_id {n : Nat} {ρ : Nat → Nat} (hρ : ∀ i, i < n → ρ i = i) : ∀ d : DV, (d.nm fun i => i < n) → d.ren ρ = d
  | .own id _ _, h | .mrow id _ _ _, h | .ptr id _, h | .mref id, h | .stmp id _, h => by rw [DV.nm] at h; rw [DV.ren, hρ _ h]
  | .agg cs, h => by
    rw [DV.nm_agg] at h; rw [ren_agg]
    congr 1
    exact (List.map_congr_left fun c hc => DV.ren_id hρ c (h c hc)).trans (List.map_id' _)
  | .tup cs, h => by
    rw [DV.nm_tup] at h; rw [ren_tup]
    congr 1
    exact (List.map_congr_left fun c hc => DV.ren_id hρ c (h c hc)).trans (List.map_id' _)
  | .fn f a b, h => by
    rw [DV.nm_fn] at h; rw [ren_fn]
    congr 1
    · exact (List.map_congr_left fun c hc => DV.ren_id hρ c (h.1 c hc)).trans (List.map_id' _)
    · exact (List.map_congr_left fun c hc => DV.ren_id hρ c (h.2 c hc)).trans (List.map_id' _)
  | .ifc t d, h => by rw [DV.nm] at h; rw [ren_ifc, DV.ren_id hρ d h]
  | .gd b d, h => by rw [DV.nm] at h; rw [ren_gd, DV.ren_id hρ d h]
  | .pv _, _ | .nilS _, _ | .flit _ _, _ | .eptr _, _ | .nilP, _ | .nilF, _ | .nilM, _ | .nilI, _ | .junk, _ => by simp
termination_by d => SizeOf.sizeOf d
decreasing_by all_goals (first | (have := List.sizeOf_lt_of_mem hc; simp_wf; omega) | (simp_wf; omega) | simp_wf)

/-- All objects that it names are below n. -/
def Ob.bel (n : Nat) : Ob → Prop
  | .box cs => ∀ c ∈ cs, c.nm fun i => i < n
  | .mp es => ∀ x ∈ es, x.2.nm fun i => i < n
  | .lrec _ _ _ e => ∀ x ∈ e, x.2.nm fun i => i < n
  | .tip _ _ => True
theorem Ob.ren_id {n : Nat} {ρ : Nat → Nat} (hρ : ∀ i, i < n → ρ i = i) {o : Ob} (h : o.bel n) : o.ren ρ = o := by
  cases o with
  | box cs => simp only [Ob.ren]; congr 1; exact (List.map_congr_left fun c hc => DV.ren_id hρ c (h c hc)).trans (List.map_id' _)
  | tip _ _ => rfl
  | mp es => simp only [Ob.ren]; congr 1; exact (List.map_congr_left fun c hc => by rw [DV.ren_id hρ _ (h c hc)]).trans (List.map_id' _)
  | lrec l r st e => simp only [Ob.ren]; congr 1; exact (List.map_congr_left fun c hc => by rw [DV.ren_id hρ _ (h c hc)]).trans (List.map_id' _)

def heapBel (n : Nat) (H : Heap) : Prop := ∀ x ∈ H, x.1 < n ∧ x.2.bel n
theorem rh_range {n nx i : Nat} (h : i < n) : rh (List.range n) nx i = i := by simp [rh, h]
theorem renH_id {n nx : Nat} : ∀ {H : Heap}, heapBel n H → renH (List.range n) nx H = H
  | [], _ => rfl
  | (i, o) :: r, h => by
    have h0 := h (i, o) (.head _)
    rw [renH, rh_range h0.1, Ob.ren_id (fun i hi => rh_range hi) h0.2, renH_id fun x hx => h x (.tail _ hx)]
theorem sameH_id {n nx : Nat} {h : Heap} : ∀ {H : Heap}, heapBel n H → (∀ x ∈ H, hget h x.1 = some x.2) → sameH (List.range n) nx h H
  | [], _, _ => trivial
  | (i, o) :: r, hb, hs => by
    have h0 := hb (i, o) (.head _)
    refine ⟨?_, sameH_id (fun x hx => hb x (.tail _ hx)) fun x hx => hs x (.tail _ hx)⟩
    rw [rh_range h0.1, Ob.ren_id (fun i hi => rh_range hi) h0.2]
    exact hs _ (.head _)
/-- A call that is handed the objects below n, under their own numbers. -/
theorem CallNext.same {P : Program} {gl : Glob} {f : Fn} {ds : List DV} {s : St} {dst : Option Nat} {K : St → Prop} (n : Nat) {H H' : Heap} {d : DV} (h : ACall P gl f n ds H d H' n) (hn : n ≤ s.nx) (hb : heapBel n H) (hb' : heapBel n H')
    (hs : ∀ x ∈ H, hget s.h x.1 = some x.2) (hk : d.wf → K ⟨eput s.e dst d, H' ++ dropH (List.range n) s.h, s.nx⟩) : CallNext P gl f ds s dst K := by
  have hlen : (List.range n).length = n := by simp
  have hd : d.ren (rh (List.range n) s.nx) = d := DV.ren_id (fun i hi => rh_range hi) d h.res
  refine CallNext.obs (List.range n) (ds0 := ds) (H := H) (H' := H') (d := d) (n' := n) (by rw [hlen]; exact h) List.nodup_range (fun i hi => by have := List.mem_range.1 hi; omega) ?_ (sameH_id hb hs) fun hw => ?_
  · exact (List.map_congr_left fun c hc => DV.ren_id (fun i hi => rh_range hi) c (h.args c hc)).trans (List.map_id' _)
  · rw [hd] at hw ⊢
    rw [renH_id hb', hlen, Nat.sub_self, Nat.add_zero]
    exact hk hw

theorem DCallNext.obs' {P : Program} {gl : Glob} {n1 : Nat} {pr : List (List Nat)} {K : St → Prop} {r : List Ins} {acc : Rl} {s : St} {dst : Option Nat} {f : FuncId} {ds : List DV} (ρ : List Nat) {ds0 : List DV} {H H' : Heap} {d : DV} {n' : Nat} (h : ACall P gl (.func f) ρ.length ds0 H d H' n')
    (hdom : (List.range ρ.length).all (fun i => (hget H i).isSome && (hget H' i).isSome) = true) (hnd : ρ.Nodup) (hn : n' ≤ ρ.length + 1)
    (hds : ds0.map (·.ren (rh ρ s.nx)) = ds) (hnd' : (H'.map (·.1)).Nodup) (hs : sameH ρ s.nx s.h H)
    (hk : dvc P gl n1 pr K r ((H'.map fun x => rh ρ s.nx x.1, ρ) :: acc) ⟨eput s.e dst (d.ren (rh ρ s.nx)), upd s.h (renH ρ s.nx H'), s.nx + 1⟩) : DCallNext P gl n1 pr K r acc s dst (.func f) ds :=
  DCallNext.obs ρ h hnd hn hds (fun i hi => by have := List.all_eq_true.1 hdom i (List.mem_range.2 hi); simpa using this) hnd' hs hk
/-- A visit of nodes, one by one, that may stop. -/
def stopF {σ : Type} (f : σ → Tm → σ × Bool) : σ → List Tm → σ × Bool
  | s, [] => (s, true)
  | s, t :: r => if (f s t).2 then stopF f (f s t).1 r else ((f s t).1, false)
theorem stopF_append {σ : Type} (f : σ → Tm → σ × Bool) (s : σ) (a b : List Tm) : stopF f s (a ++ b) = if (stopF f s a).2 then stopF f (stopF f s a).1 b else ((stopF f s a).1, false) := by
  induction a generalizing s with
  | nil => simp [stopF]
  | cons t r ih =>
    simp only [List.cons_append, stopF]
    by_cases h : (f s t).2 = true
    · simp only [h, if_true, ih]
    · simp [h]
theorem Tm.preL_drop {l : List Tm} {i : Nat} (h : i < l.length) : Tm.preL (l.drop i) = (gt l i).pre ++ Tm.preL (l.drop (i + 1)) := by
  rw [List.drop_eq_getElem_cons h, Tm.preL, gt_nat h]
end Go.Proofs.YtbghfliffomfdaaGreatDoorV

/- Contracts: layer 2 of the program: visits of nodes. -/
namespace Go.Proofs.YtbghfliffomfdaaGreatDoorV
open Go
set_option maxRecDepth 100000
set_option maxHeartbeats 4000000

/-- How a round is left. -/
def ndC (c0 : Code) (go : Bool) : Option Code := if go then none else some c0
section
variable (gl : Glob) {σ : Type} (f : σ → Tm → σ × Bool) (l : Nat) (R : LRec) (e0 : Env) (c0 : Code) (o0 o1 o2 : σ → Ob)
  (h0 : ∀ s, (o0 s).bel 4) (h1 : ∀ s, (o1 s).bel 4) (h2 : ∀ s, (o2 s).bel 4) (he : ∀ x ∈ e0, x.2.nm fun i => i < 4)
  (k0 : ∀ s, (o0 s).nm fun i => i < 4) (k1 : ∀ s, (o1 s).nm fun i => i < 4) (k2 : ∀ s, (o2 s).nm fun i => i < 4) (he' : ∀ (i : Nat) (d : DV), eget e0 i = some d → d.nm fun i => i < 4)
  (hr : ∀ s t, ACall Tryz.prog gl (.yield l) 4 [.pv t.pv] [(3, .lrec l R none e0), (0, o0 s), (1, o1 s), (2, o2 s)] (.pv (.bool (f s t).2)) [(3, .lrec l R (ndC c0 (f s t).2) e0), (0, o0 (f s t).1), (1, o1 (f s t).1), (2, o2 (f s t).1)] 4)
include h0 h1 h2 he k0 k1 k2 he' hr
theorem p_term_visit (n : Nat) : ∀ (t : Tm) (s : σ), SizeOf.sizeOf t < n →
    ACall Tryz.prog gl (.func 117) 4 [.pv t.pv, .fn (.yield l) [] []] [(3, .lrec l R none e0), (0, o0 s), (1, o1 s), (2, o2 s)] (.pv (.bool (stopF f s t.pre).2)) [(3, .lrec l R (ndC c0 (stopF f s t.pre).2) e0), (0, o0 (stopF f s t.pre).1), (1, o1 (stopF f s t.pre).1), (2, o2 (stopF f s t.pre).1)] 4 := by
  induction n with
  | zero => intro t s h; omega
  | succ n ih =>
  intro t s hn
  have hnmH : ∀ (st : Option Code) (s : σ), heapNm 4 [(3, .lrec l R st e0), (0, o0 s), (1, o1 s), (2, o2 s)] := fun st s => ⟨by omega, he', by omega, k0 s, by omega, k1 s, by omega, k2 s, trivial⟩
  have hbH : ∀ (st : Option Code) (s : σ), heapBel 4 [(3, .lrec l R st e0), (0, o0 s), (1, o1 s), (2, o2 s)] := fun st s x hx => by
    simp at hx; rcases hx with rfl | rfl | rfl | rfl
    · exact ⟨by simp, he⟩
    · exact ⟨by simp, h0 s⟩
    · exact ⟨by simp, h1 s⟩
    · exact ⟨by simp, h2 s⟩
  refine k_term_visit.acall (by simp) (by omega) (by simp) (hnmH _ _) (by simp) (hnmH _ _) fun hwf => ?_
  have hb := Tm.wf_sub (t := t) (by have := hwf (.pv t.pv) (by simp); simpa using this)
  have hnd : t.pre = t :: Tm.preL t.sub := t.pre_eq
  simp [c_term_visit]
  refine CallNext.same 4 (hr s t) (by simp) (hbH _ _) (hbH _ _) (by simp) fun _ => ?_
  simp
  rw [hnd, stopF]
  refine ⟨fun h => ?_, fun h => ?_⟩
  · simp [h]
    exact ⟨[3, 0, 1, 2], by simp⟩
  · have g0 : ∀ s, (o0 s).nm fun i => i < 5 := fun s => Ob.nm_mono (fun _ h => by omega) (k0 s)
    have g1 : ∀ s, (o1 s).nm fun i => i < 5 := fun s => Ob.nm_mono (fun _ h => by omega) (k1 s)
    have g2 : ∀ s, (o2 s).nm fun i => i < 5 := fun s => Ob.nm_mono (fun _ h => by omega) (k2 s)
    have ge : ∀ (i : Nat) (d : DV), eget e0 i = some d → d.nm fun i => i < 5 := fun i d h => DV.nm_mono (fun _ h => by omega) d (he' i d h)
    simp [h, ndC]
    refine Loop.intro (fun x : Nat × σ => { e := [(1, .fn (.yield l) [] []), (12, .pv (.lst 6 (t.sub.map Tm.pv))), (13, .pv (.int .i64 t.sub.length)), (14, .pv (.int .i64 x.1))], h := [(0, o0 x.2), (1, o1 x.2), (2, o2 x.2), (3, .lrec l R none e0), (4, t.bx)], nx := 5 }) (fun x => t.sub.length - x.1)
      (fun x => x.1 ≤ t.sub.length ∧ stopF f x.2 (Tm.preL (t.sub.drop x.1)) = stopF f (f s t).1 (Tm.preL t.sub)) (0, (f s t).1) (by simp [g0, g1, g2]; exact ge) (by simp) (by simp [Tm.bx]) fun x hx => ?_
    obtain ⟨i, s'⟩ := x
    obtain ⟨hi, hinv⟩ := hx
    simp only at hi hinv
    by_cases hlt : i < t.sub.length
    · rw [Tm.preL_drop hlt, stopF_append] at hinv
      simp [hlt, Tm.bx]
      refine CallNext.same 4 (ih (gt t.sub i) s' (by have := Tm.size_gt hlt; omega)) (by simp) (hbH _ _) (hbH _ _) (by simp) fun _ => ?_
      simp [hlt, wrap_nat (show (0:Int) ≤ i + 1 by omega) (by omega)]
      refine ⟨fun hg => ?_, fun hg => ?_⟩
      · rw [if_neg (by simp [hg])] at hinv
        simp [← hinv, hg, ndC]
        exact ⟨[3, 0, 1, 2], by simp⟩
      · rw [if_pos hg] at hinv
        simp [hg, ndC, g0, g1, g2]
        exact ⟨ge, i + 1, _, ⟨by omega, hinv⟩, by omega, by omega, rfl, rfl, rfl⟩
    · obtain rfl : i = t.sub.length := by omega
      rw [List.drop_length, Tm.preL, stopF] at hinv
      simp [hlt, ← hinv, ndC]
      exact ⟨[3, 0, 1, 2], by simp⟩
end
section
variable (gl : Glob) {σ : Type} (f : σ → Tm → σ × Bool) (l : Nat) (R : LRec) (e0 : Env) (c0 : Code) (o0 o1 o2 o3 o4 o5 : σ → Ob)
  (h0 : ∀ s, (o0 s).bel 7) (h1 : ∀ s, (o1 s).bel 7) (h2 : ∀ s, (o2 s).bel 7) (h3 : ∀ s, (o3 s).bel 7) (h4 : ∀ s, (o4 s).bel 7) (h5 : ∀ s, (o5 s).bel 7) (he : ∀ x ∈ e0, x.2.nm fun i => i < 7)
  (k0 : ∀ s, (o0 s).nm fun i => i < 7) (k1 : ∀ s, (o1 s).nm fun i => i < 7) (k2 : ∀ s, (o2 s).nm fun i => i < 7) (k3 : ∀ s, (o3 s).nm fun i => i < 7) (k4 : ∀ s, (o4 s).nm fun i => i < 7) (k5 : ∀ s, (o5 s).nm fun i => i < 7) (he' : ∀ (i : Nat) (d : DV), eget e0 i = some d → d.nm fun i => i < 7)
  (hr : ∀ s t, ACall Tryz.prog gl (.yield l) 7 [.pv t.pv] [(6, .lrec l R none e0), (0, o0 s), (1, o1 s), (2, o2 s), (3, o3 s), (4, o4 s), (5, o5 s)] (.pv (.bool (f s t).2)) [(6, .lrec l R (ndC c0 (f s t).2) e0), (0, o0 (f s t).1), (1, o1 (f s t).1), (2, o2 (f s t).1), (3, o3 (f s t).1), (4, o4 (f s t).1), (5, o5 (f s t).1)] 7)
include h0 h1 h2 h3 h4 h5 he k0 k1 k2 k3 k4 k5 he' hr
theorem p_term_visitB (n : Nat) : ∀ (t : Tm) (s : σ), SizeOf.sizeOf t < n →
    ACall Tryz.prog gl (.func 117) 7 [.pv t.pv, .fn (.yield l) [] []] [(6, .lrec l R none e0), (0, o0 s), (1, o1 s), (2, o2 s), (3, o3 s), (4, o4 s), (5, o5 s)] (.pv (.bool (stopF f s t.pre).2)) [(6, .lrec l R (ndC c0 (stopF f s t.pre).2) e0), (0, o0 (stopF f s t.pre).1), (1, o1 (stopF f s t.pre).1), (2, o2 (stopF f s t.pre).1), (3, o3 (stopF f s t.pre).1), (4, o4 (stopF f s t.pre).1), (5, o5 (stopF f s t.pre).1)] 7 := by
  induction n with
  | zero => intro t s h; omega
  | succ n ih =>
  intro t s hn
  have hnmH : ∀ (st : Option Code) (s : σ), heapNm 7 [(6, .lrec l R st e0), (0, o0 s), (1, o1 s), (2, o2 s), (3, o3 s), (4, o4 s), (5, o5 s)] := fun st s => ⟨by omega, he', by omega, k0 s, by omega, k1 s, by omega, k2 s, by omega, k3 s, by omega, k4 s, by omega, k5 s, trivial⟩
  have hbH : ∀ (st : Option Code) (s : σ), heapBel 7 [(6, .lrec l R st e0), (0, o0 s), (1, o1 s), (2, o2 s), (3, o3 s), (4, o4 s), (5, o5 s)] := fun st s x hx => by
    simp at hx; rcases hx with rfl | rfl | rfl | rfl | rfl | rfl | rfl
    · exact ⟨by simp, he⟩
    · exact ⟨by simp, h0 s⟩
    · exact ⟨by simp, h1 s⟩
    · exact ⟨by simp, h2 s⟩
    · exact ⟨by simp, h3 s⟩
    · exact ⟨by simp, h4 s⟩
    · exact ⟨by simp, h5 s⟩
  refine k_term_visit_B.acall (by simp) (by omega) (by simp) (hnmH _ _) (by simp) (hnmH _ _) fun hwf => ?_
  have hb := Tm.wf_sub (t := t) (by have := hwf (.pv t.pv) (by simp); simpa using this)
  have hnd : t.pre = t :: Tm.preL t.sub := t.pre_eq
  simp [c_term_visit_B]
  refine CallNext.same 7 (hr s t) (by simp) (hbH _ _) (hbH _ _) (by simp) fun _ => ?_
  simp
  rw [hnd, stopF]
  refine ⟨fun h => ?_, fun h => ?_⟩
  · simp [h]
    exact ⟨[6, 0, 1, 2, 3, 4, 5], by simp⟩
  · have g0 : ∀ s, (o0 s).nm fun i => i < 8 := fun s => Ob.nm_mono (fun _ h => by omega) (k0 s)
    have g1 : ∀ s, (o1 s).nm fun i => i < 8 := fun s => Ob.nm_mono (fun _ h => by omega) (k1 s)
    have g2 : ∀ s, (o2 s).nm fun i => i < 8 := fun s => Ob.nm_mono (fun _ h => by omega) (k2 s)
    have g3 : ∀ s, (o3 s).nm fun i => i < 8 := fun s => Ob.nm_mono (fun _ h => by omega) (k3 s)
    have g4 : ∀ s, (o4 s).nm fun i => i < 8 := fun s => Ob.nm_mono (fun _ h => by omega) (k4 s)
    have g5 : ∀ s, (o5 s).nm fun i => i < 8 := fun s => Ob.nm_mono (fun _ h => by omega) (k5 s)
    have ge : ∀ (i : Nat) (d : DV), eget e0 i = some d → d.nm fun i => i < 8 := fun i d h => DV.nm_mono (fun _ h => by omega) d (he' i d h)
    simp [h, ndC]
    refine Loop.intro (fun x : Nat × σ => { e := [(1, .fn (.yield l) [] []), (12, .pv (.lst 6 (t.sub.map Tm.pv))), (13, .pv (.int .i64 t.sub.length)), (14, .pv (.int .i64 x.1))], h := [(0, o0 x.2), (1, o1 x.2), (2, o2 x.2), (3, o3 x.2), (4, o4 x.2), (5, o5 x.2), (6, .lrec l R none e0), (7, t.bx)], nx := 8 }) (fun x => t.sub.length - x.1)
      (fun x => x.1 ≤ t.sub.length ∧ stopF f x.2 (Tm.preL (t.sub.drop x.1)) = stopF f (f s t).1 (Tm.preL t.sub)) (0, (f s t).1) (by simp [g0, g1, g2, g3, g4, g5]; exact ge) (by simp) (by simp [Tm.bx]) fun x hx => ?_
    obtain ⟨i, s'⟩ := x
    obtain ⟨hi, hinv⟩ := hx
    simp only at hi hinv
    by_cases hlt : i < t.sub.length
    · rw [Tm.preL_drop hlt, stopF_append] at hinv
      simp [hlt, Tm.bx]
      refine CallNext.same 7 (ih (gt t.sub i) s' (by have := Tm.size_gt hlt; omega)) (by simp) (hbH _ _) (hbH _ _) (by simp) fun _ => ?_
      simp [hlt, wrap_nat (show (0:Int) ≤ i + 1 by omega) (by omega)]
      refine ⟨fun hg => ?_, fun hg => ?_⟩
      · rw [if_neg (by simp [hg])] at hinv
        simp [← hinv, hg, ndC]
        exact ⟨[6, 0, 1, 2, 3, 4, 5], by simp⟩
      · rw [if_pos hg] at hinv
        simp [hg, ndC, g0, g1, g2, g3, g4, g5]
        exact ⟨ge, i + 1, _, ⟨by omega, hinv⟩, by omega, by omega, rfl, rfl, rfl, rfl, rfl, rfl⟩
    · obtain rfl : i = t.sub.length := by omega
      rw [List.drop_length, Tm.preL, stopF] at hinv
      simp [hlt, ← hinv, ndC]
      exact ⟨[6, 0, 1, 2, 3, 4, 5], by simp⟩
end

theorem p_term_nodes (gl : Glob) (t : Tm) : ACall Tryz.prog gl (.func 109) 0 [.pv t.pv] [] (.fn (.func 116) [] [.ptr 0 0]) [(0, t.bx)] 1 := by
  refine k_term_nodes.acall (by simp) (by simp) (by simp) (by simp) (by simp) (by simp [Tm.bx]) fun hwf => ?_
  simp [c_term_nodes]
  exact ⟨[0], by simp [Tm.bx]⟩
end Go.Proofs.YtbghfliffomfdaaGreatDoorV

/- Contracts: layer 2 of the program: Size, Depth, Check. -/
namespace Go.Proofs.YtbghfliffomfdaaGreatDoorV
open Go
set_option maxRecDepth 100000
set_option maxHeartbeats 4000000

/-- A loop over the nodes of a term. -/
theorem RfVC.nodes {P : Program} {gl : Glob} {n : Nat} {e0 : Env} {p : Nat} {vx vy : (Ex → St → Prop) → St → Prop} {gf : FuncId} {c : Nat} {Q : Ex → St → Prop} {σ : Type} (HS : σ → Heap) (f : σ → Tm → σ × Bool) (ex : Ex) (hex : ex ≠ .nrm) (s0 : σ) (t : Tm)
    (hc : c < n) (hnm : ∀ s, heapNm n (HS s))
    (hgf : ∀ l R, (∀ s x, ACall P gl (.yield l) (n + 1) [.pv x.pv] ((n, .lrec l R none e0) :: HS s) (.pv (.bool (f s x).2)) ((n, .lrec l R (ndC (exCode ex) (f s x).2) e0) :: HS (f s x).1) (n + 1)) →
      ACall P gl (.func gf) (n + 1) [.fn (.yield l) [] [], .ptr c 0] ((n, .lrec l R none e0) :: HS s0) (.tup []) ((n, .lrec l R (ndC (exCode ex) (stopF f s0 t.pre).2) e0) :: HS (stopF f s0 t.pre).1) (n + 1))
    (hround : ∀ s x, vx (fun e s' => match e with | .nrm => vy (fun e s'' => exJump e = (if (f s x).2 then none else some ex) ∧ ∃ ob, kobs s''.h ob = HS (f s x).1) s' | _ => False) { e := (p, .pv x.pv) :: e0, h := HS s, nx := n })
    (hQ : ((stopF f s0 t.pre).2 = true → Q .nrm { e := e0, h := HS (stopF f s0 t.pre).1, nx := n }) ∧ ((stopF f s0 t.pre).2 = false → Q ex { e := e0, h := HS (stopF f s0 t.pre).1, nx := n })) :
    RfVC P gl n e0 (HS s0) [p] vx vy gf [] [.ptr c 0] Q := by
  refine ⟨by simp [hc], if (stopF f s0 t.pre).2 then none else some ex, HS (stopF f s0 t.pre).1, n + 1, .tup [], hnm _, fun l R hr => ?_, ?_⟩
  · have h := hgf l R fun s x => by
      have := hr [.pv x.pv] (HS s) (if (f s x).2 then none else some ex) (HS (f s x).1) rfl (by simp) (hnm _) (hnm _) (hround s x)
      cases hb : (f s x).2 <;> simpa [hb, ndC] using this
    cases hb : (stopF f s0 t.pre).2 <;> simpa [hb, ndC, DV.norm, toPV, toPV1] using h
  · cases hb : (stopF f s0 t.pre).2
    · simp only [Bool.false_eq_true, if_false]
      cases ex with
      | nrm => exact absurd rfl hex
      | ext i => exact hQ.2 hb
      | ret => exact hQ.2 hb
    · simp only [if_true]
      exact hQ.1 hb

theorem env_nm {p : Nat → Prop} : ∀ {e : Env}, (∀ x ∈ e, x.2.nm p) → ∀ (i : Nat) (d : DV), eget e i = some d → d.nm p
  | [], _, _, _, h => by simp [eget] at h
  | (j, d') :: r, h, i, d, hd => by
    rw [eget] at hd
    split at hd
    · obtain rfl := Option.some.inj hd; exact h _ (.head _)
    · exact env_nm (fun x hx => h x (.tail _ hx)) i d hd
theorem p_term_nodes_1 (gl : Glob) {σ : Type} (f : σ → Tm → σ × Bool) (l : Nat) (R : LRec) (e0 : Env) (c0 : Code) (o0 o1 : σ → Ob) (t0 : Tm)
    (h0 : ∀ s, (o0 s).bel 4) (h1 : ∀ s, (o1 s).bel 4) (he : ∀ x ∈ e0, x.2.nm fun i => i < 4)
    (k0 : ∀ s, (o0 s).nm fun i => i < 4) (k1 : ∀ s, (o1 s).nm fun i => i < 4) (s : σ)
    (hr : ∀ s t, ACall Tryz.prog gl (.yield l) 4 [.pv t.pv] [(3, .lrec l R none e0), (0, o0 s), (1, o1 s), (2, t0.bx)] (.pv (.bool (f s t).2)) [(3, .lrec l R (ndC c0 (f s t).2) e0), (0, o0 ((f s t).1)), (1, o1 ((f s t).1)), (2, t0.bx)] 4) :
    ACall Tryz.prog gl (.func 116) 4 [.fn (.yield l) [] [], .ptr 2 0] [(3, .lrec l R none e0), (0, o0 s), (1, o1 s), (2, t0.bx)] (.tup []) [(3, .lrec l R (ndC c0 (stopF f s t0.pre).2) e0), (0, o0 ((stopF f s t0.pre).1)), (1, o1 ((stopF f s t0.pre).1)), (2, t0.bx)] 4 := by
  have he' : ∀ (i : Nat) (d : DV), eget e0 i = some d → d.nm fun i => i < 4 := env_nm he
  have hb0 : t0.bx.bel 4 := by simp [Tm.bx, Ob.bel]
  have hn0 : t0.bx.nm fun i => i < 4 := by simp [Tm.bx]
  have hv := p_term_visit gl f l R e0 c0 o0 o1 (fun _ => t0.bx) h0 h1 (fun _ => hb0) he k0 k1 (fun _ => hn0) he' hr _ t0 s (Nat.lt_succ_self _)
  have hnmH : ∀ (st : Option Code) (s : σ), heapNm 4 [(3, .lrec l R st e0), (0, o0 s), (1, o1 s), (2, t0.bx)] := fun st s => ⟨by omega, he', by omega, k0 s, by omega, k1 s, by omega, hn0, trivial⟩
  have hbH : ∀ (st : Option Code) (s : σ), heapBel 4 [(3, .lrec l R st e0), (0, o0 s), (1, o1 s), (2, t0.bx)] := fun st s x hx => by
    simp at hx; rcases hx with rfl | rfl | rfl | rfl
    · exact ⟨by simp, he⟩
    · exact ⟨by simp, h0 s⟩
    · exact ⟨by simp, h1 s⟩
    · exact ⟨by simp, hb0⟩
  refine k_term_nodes_1.acall (by simp) (by omega) (by simp) (hnmH _ _) (by simp) (hnmH _ _) fun hwf => ?_
  simp [c_term_nodes_1, Tm.bx]
  refine CallNext.same 4 hv (by simp) (hbH _ _) (hbH _ _) (by simp [Tm.bx]) fun _ => ?_
  simp [Tm.bx]
  exact ⟨[3, 0, 1, 2], by simp⟩
theorem p_term_nodes_1B (gl : Glob) {σ : Type} (f : σ → Tm → σ × Bool) (l : Nat) (R : LRec) (e0 : Env) (c0 : Code) (o0 o1 o2 o3 o4 : σ → Ob) (t0 : Tm)
    (h0 : ∀ s, (o0 s).bel 7) (h1 : ∀ s, (o1 s).bel 7) (h2 : ∀ s, (o2 s).bel 7) (h3 : ∀ s, (o3 s).bel 7) (h4 : ∀ s, (o4 s).bel 7) (he : ∀ x ∈ e0, x.2.nm fun i => i < 7)
    (k0 : ∀ s, (o0 s).nm fun i => i < 7) (k1 : ∀ s, (o1 s).nm fun i => i < 7) (k2 : ∀ s, (o2 s).nm fun i => i < 7) (k3 : ∀ s, (o3 s).nm fun i => i < 7) (k4 : ∀ s, (o4 s).nm fun i => i < 7) (s : σ)
    (hr : ∀ s t, ACall Tryz.prog gl (.yield l) 7 [.pv t.pv] [(6, .lrec l R none e0), (0, o0 s), (1, o1 s), (2, o2 s), (3, o3 s), (4, o4 s), (5, t0.bx)] (.pv (.bool (f s t).2)) [(6, .lrec l R (ndC c0 (f s t).2) e0), (0, o0 ((f s t).1)), (1, o1 ((f s t).1)), (2, o2 ((f s t).1)), (3, o3 ((f s t).1)), (4, o4 ((f s t).1)), (5, t0.bx)] 7) :
    ACall Tryz.prog gl (.func 116) 7 [.fn (.yield l) [] [], .ptr 5 0] [(6, .lrec l R none e0), (0, o0 s), (1, o1 s), (2, o2 s), (3, o3 s), (4, o4 s), (5, t0.bx)] (.tup []) [(6, .lrec l R (ndC c0 (stopF f s t0.pre).2) e0), (0, o0 ((stopF f s t0.pre).1)), (1, o1 ((stopF f s t0.pre).1)), (2, o2 ((stopF f s t0.pre).1)), (3, o3 ((stopF f s t0.pre).1)), (4, o4 ((stopF f s t0.pre).1)), (5, t0.bx)] 7 := by
  have he' : ∀ (i : Nat) (d : DV), eget e0 i = some d → d.nm fun i => i < 7 := env_nm he
  have hb0 : t0.bx.bel 7 := by simp [Tm.bx, Ob.bel]
  have hn0 : t0.bx.nm fun i => i < 7 := by simp [Tm.bx]
  have hv := p_term_visitB gl f l R e0 c0 o0 o1 o2 o3 o4 (fun _ => t0.bx) h0 h1 h2 h3 h4 (fun _ => hb0) he k0 k1 k2 k3 k4 (fun _ => hn0) he' hr _ t0 s (Nat.lt_succ_self _)
  have hnmH : ∀ (st : Option Code) (s : σ), heapNm 7 [(6, .lrec l R st e0), (0, o0 s), (1, o1 s), (2, o2 s), (3, o3 s), (4, o4 s), (5, t0.bx)] := fun st s => ⟨by omega, he', by omega, k0 s, by omega, k1 s, by omega, k2 s, by omega, k3 s, by omega, k4 s, by omega, hn0, trivial⟩
  have hbH : ∀ (st : Option Code) (s : σ), heapBel 7 [(6, .lrec l R st e0), (0, o0 s), (1, o1 s), (2, o2 s), (3, o3 s), (4, o4 s), (5, t0.bx)] := fun st s x hx => by
    simp at hx; rcases hx with rfl | rfl | rfl | rfl | rfl | rfl | rfl
    · exact ⟨by simp, he⟩
    · exact ⟨by simp, h0 s⟩
    · exact ⟨by simp, h1 s⟩
    · exact ⟨by simp, h2 s⟩
    · exact ⟨by simp, h3 s⟩
    · exact ⟨by simp, h4 s⟩
    · exact ⟨by simp, hb0⟩
  refine k_term_nodes_1.acall (by simp) (by omega) (by simp) (hnmH _ _) (by simp) (hnmH _ _) fun hwf => ?_
  simp [c_term_nodes_1, Tm.bx]
  refine CallNext.same 7 hv (by simp) (hbH _ _) (hbH _ _) (by simp [Tm.bx]) fun _ => ?_
  simp [Tm.bx]
  exact ⟨[6, 0, 1, 2, 3, 4, 5], by simp⟩

mutual
theorem Tm.pre_length : ∀ t : Tm, t.pre.length = t.nodes
  | ⟨_, _, _, _, _, s⟩ => by rw [Tm.pre, Tm.nodes, List.length_cons, Tm.preL_length s]; omega
theorem Tm.preL_length : ∀ l : List Tm, (Tm.preL l).length = Tm.nodesL l
  | [] => rfl
  | t :: r => by rw [Tm.preL, Tm.nodesL, List.length_append, Tm.pre_length t, Tm.preL_length r]
end
def cntF (s : Int) (_ : Tm) : Int × Bool := (IntKind.i64.wrap (s + 1), true)
theorem stopF_cnt : ∀ (l : List Tm) (s : Int), 0 ≤ s → s + l.length < 9223372036854775807 → stopF cntF s l = (s + l.length, true)
  | [], s, _, _ => by simp [stopF]
  | t :: r, s, h0, h => by
    simp only [List.length_cons] at h
    have := stopF_cnt r (s + 1) (by omega) (by omega)
    have e1 : cntF s t = (s + 1, true) := by unfold cntF; rw [wrap_i64 (by omega) (by omega)]
    rw [stopF, e1]
    simp only [if_true]
    rw [this]; simp; omega

theorem p_term_Size (gl : Glob) (t : Tm) (hs : t.nodes < 2 ^ 40) : PCall Tryz.prog gl 107 [.pv t.pv] (.pv (.int .i64 t.nodes)) := by
  refine k_term_Size.pcall (by simp) (by simp) (by simp) fun hwf => ?_
  simp [c_term_Size]
  refine CallNext.obs [] (p_term_nodes gl t) (by simp) (by simp) (by simp) (by simp) fun _ => ?_
  simp [vc_rf, Tm.bx]
  have hst := stopF_cnt t.pre 0 (by omega) (by rw [Tm.pre_length]; omega)
  refine RfVC.nodes (fun s : Int => [(0, t.bx), (1, .box [.pv (.int .i64 s)]), (2, t.bx)]) cntF .ret (by simp) 0 t (by omega) (fun s => by simp [Tm.bx]) (fun l R hr => ?_) (fun s x => ?_) ?_
  · exact p_term_nodes_1 gl cntF l R _ _ (fun _ => t.bx) (fun s => .box [.pv (.int .i64 s)]) t (by simp [Tm.bx, Ob.bel]) (by simp [Ob.bel]) (by simp) (by simp [Tm.bx]) (by simp) 0 hr
  · simp [cntF, Tm.bx, exJump]
    exact ⟨[0, 1, 2], by simp⟩
  · rw [hst]
    simp [Tm.bx, Tm.pre_length]

theorem p_term_Depth (gl : Glob) (n : Nat) : ∀ t : Tm, SizeOf.sizeOf t < n → t.depth < 2 ^ 40 → PCall Tryz.prog gl 108 [.pv t.pv] (.pv (.int .i64 t.depth)) := by
  induction n with
  | zero => intro t h; omega
  | succ n ih =>
  intro t hn hs
  refine k_term_Depth.pcall (by simp) (by simp) (by simp) fun hwf => ?_
  have hb := Tm.wf_sub (by simpa using hwf)
  have hnd := t.depth_eq
  simp [c_term_Depth]
  refine Loop.nat (fun i => { e := [(3, .pv (.int .i64 (Tm.depthL (t.sub.take i) : Nat))), (7, .pv (.lst 6 (t.sub.map Tm.pv))), (8, .pv (.int .i64 t.sub.length)), (9, .pv (.int .i64 i))], h := [(0, t.bx)], nx := 1 }) t.sub.length (fun _ => True) (by simp) (by simp) (by simp [Tm.bx, Tm.depthL]) fun i hi hinv => ?_
  by_cases hlt : i < t.sub.length
  · have h1 := Tm.depthL_take hlt
    have h2 := @Tm.depthL_le t.sub (i + 1)
    simp [Tm.bx, hlt]
    refine CallNext.pure (ih (gt t.sub i) (by have := Tm.size_gt hlt; omega) (by omega)) fun _ => ?_
    simp [hlt, wrap_nat (show (0:Int) ≤ i + 1 by omega) (by omega)]
    omega
  · obtain rfl : i = t.sub.length := by omega
    simp [Tm.bx, hnd]
    rw [wrap_nat (by omega) (by omega)]

end Go.Proofs.YtbghfliffomfdaaGreatDoorV

/- Plain laws: maps; variables and their widths. -/
namespace Go.Proofs.YtbghfliffomfdaaGreatDoorV
open Go
set_option maxHeartbeats 1000000

theorem mfind_shift (k : PV) : ∀ (es : List (PV × DV)) (i : Nat), mfind k es (i + 1) = (mfind k es i).map fun x => (x.1 + 1, x.2)
  | [], _ => rfl
  | (q, d) :: r, i => by
    rw [mfind, mfind]
    split
    · rfl
    · exact mfind_shift k r (i + 1)
theorem mlook_cons {k q : PV} {e : DV} {r : List (PV × DV)} : mlook ((q, e) :: r) k = if keq k q then some e else mlook r k := by
  unfold mlook
  rw [mfind, mfind_shift]
  split
  · rfl
  · cases mfind k r 0 <;> rfl
theorem mput_cons {k q : PV} {e d : DV} {r : List (PV × DV)} : mput ((q, e) :: r) k d = if keq k q then (k, d) :: r else (q, e) :: mput r k d := by
  unfold mput
  rw [mfind, mfind_shift]
  split
  · rename_i h
    split at h
    · simp at h; obtain ⟨rfl, -⟩ := h; simp [*]
    · rename_i hq
      cases hm : mfind k r 0 with
      | none => simp [hm] at h
      | some x => simp [hm] at h; obtain ⟨rfl, -⟩ := h; simp [hq]
  · rename_i h
    split at h
    · simp at h
    · rename_i hq
      cases hm : mfind k r 0 with
      | none => simp [hq]
      | some x => simp [hm] at h
@[simp] theorem mlook_nil {k : PV} : mlook [] k = none := rfl
@[simp] theorem mput_nil {k : PV} {d : DV} : mput [] k d = [(k, d)] := rfl
@[simp] theorem keq_str {a b : ByteArray} : keq (.str a) (.str b) = decide (a = b) := by simp only [keq, ceq1]; by_cases h : a = b <;> simp [h]
@[simp] theorem keq_int {k : IntKind} {a b : Int} : keq (.int k a) (.int k b) = decide (a = b) := by simp only [keq, ceq1]; by_cases h : a = b <;> simp [h]

/-- Names and numbers, as a map has them. -/
abbrev NV := List (ByteArray × Int)
def lookV : NV → ByteArray → Option Int
  | [], _ => none
  | (m, w) :: r, n => if n = m then some w else lookV r n
def putV : NV → ByteArray → Int → NV
  | [], n, w => [(n, w)]
  | (m, v) :: r, n, w => if n = m then (n, w) :: r else (m, v) :: putV r n w
def vmap (s : NV) : List (PV × DV) := s.map fun x => (.str x.1, .pv (.int .i64 x.2))
@[simp] theorem mlook_vmap {n : ByteArray} : ∀ {s : NV}, mlook (vmap s) (.str n) = (lookV s n).map fun w => .pv (.int .i64 w)
  | [] => rfl
  | (m, w) :: r => by
    have := mlook_vmap (n := n) (s := r)
    simp only [vmap, List.map_cons] at this ⊢
    rw [mlook_cons, lookV, this]; simp; split <;> rfl
@[simp] theorem mput_vmap {n : ByteArray} {w : Int} : ∀ {s : NV}, mput (vmap s) (.str n) (.pv (.int .i64 w)) = vmap (putV s n w)
  | [] => rfl
  | (m, v) :: r => by
    have := mput_vmap (n := n) (w := w) (s := r)
    simp only [vmap, List.map_cons] at this ⊢
    rw [mput_cons, putV, this]; simp; split <;> rfl
theorem keysOk_vmap {n : ByteArray} {s : NV} : keysOk 2 (.str n) (vmap s) := by
  refine ⟨rfl, by omega, fun x hx => ?_⟩
  simp only [vmap, List.mem_map] at hx
  obtain ⟨y, -, rfl⟩ := hx
  rfl
theorem lookV_putV {n m : ByteArray} {w : Int} : ∀ {s : NV}, lookV (putV s n w) m = if m = n then some w else lookV s m
  | [] => by simp [putV, lookV]
  | (a, v) :: r => by
    rw [putV]
    by_cases h : n = a
    · subst h; simp only [if_true, lookV]; split <;> rfl
    · simp only [h, if_false, lookV, lookV_putV (s := r)]
      by_cases h1 : m = a
      · subst h1; simp [Ne.symm h]
      · simp [h1]

/-- Variables one by one: the map so far; no: one with another width. -/
def varF (s : NV) (x : Tm) : NV × Bool :=
  if x.op = 2 then (match lookV s x.name with
    | some w => if w = x.width then (putV s x.name x.width, true) else (s, false)
    | none => (putV s x.name x.width, true)) else (s, true)
def stopV : NV → NV → NV × Bool
  | s, [] => (s, true)
  | s, (n, w) :: r => match lookV s n with
    | some v => if v = w then stopV (putV s n w) r else (s, false)
    | none => stopV (putV s n w) r
theorem stopV_append (s : NV) : ∀ (a b : NV), stopV s (a ++ b) = if (stopV s a).2 then stopV (stopV s a).1 b else ((stopV s a).1, false)
  | [], b => by simp [stopV]
  | (n, w) :: r, b => by
    simp only [List.cons_append, stopV]
    obtain hl | ⟨v, hl⟩ : lookV s n = none ∨ ∃ v, lookV s n = some v := by cases lookV s n <;> simp
    · simp only [hl]; exact stopV_append _ r b
    · by_cases h : v = w
      · simp only [hl, h, if_true]; exact stopV_append _ r b
      · simp [hl, h]
mutual
theorem Tm.stop_vars : ∀ (t : Tm) (s : NV), stopF varF s t.pre = stopV s t.vars
  | ⟨o, w, v, n, l, ts⟩, s => by
    rw [Tm.pre, stopF, Tm.vars]
    by_cases h : o = 2
    · simp only [varF, h, if_true]
      simp only [List.cons_append, List.nil_append, stopV]
      obtain hl | ⟨u, hl⟩ : lookV s n = none ∨ ∃ u, lookV s n = some u := by cases lookV s n <;> simp
      · simp only [hl, if_true]; exact Tm.stop_varsL ts _
      · by_cases h : u = w
        · simp only [hl, h, if_true]; exact Tm.stop_varsL ts _
        · simp [hl, h]
    · simp only [varF, h, if_false, if_true, List.nil_append]; exact Tm.stop_varsL ts _
theorem Tm.stop_varsL : ∀ (l : List Tm) (s : NV), stopF varF s (Tm.preL l) = stopV s (Tm.varsL l)
  | [], s => rfl
  | t :: r, s => by
    rw [Tm.preL, stopF_append, Tm.varsL, stopV_append, Tm.stop_vars t s]
    split
    · exact Tm.stop_varsL r _
    · rfl
end
theorem stopV_ok : ∀ (l s : NV), (stopV s l).2 = true ↔ (∀ x ∈ l, ∀ w, lookV s x.1 = some w → w = x.2) ∧ ∀ x ∈ l, ∀ y ∈ l, x.1 = y.1 → x.2 = y.2
  | [], s => by simp [stopV]
  | (n, w) :: r, s => by
    have key : ((stopV (putV s n w) r).2 = true ∧ ∀ v, lookV s n = some v → v = w) ↔ (∀ x ∈ (n, w) :: r, ∀ w, lookV s x.1 = some w → w = x.2) ∧ ∀ x ∈ (n, w) :: r, ∀ y ∈ (n, w) :: r, x.1 = y.1 → x.2 = y.2 := by
      rw [stopV_ok r]
      constructor
      · rintro ⟨⟨h1, h2⟩, h3⟩
        have h4 : ∀ y ∈ r, y.1 = n → w = y.2 := fun y hy he => h1 y hy w (by rw [lookV_putV, if_pos he])
        refine ⟨fun x hx v hv => ?_, fun x hx y hy he => ?_⟩
        · rcases List.mem_cons.1 hx with rfl | hx
          · exact h3 v hv
          · by_cases he : x.1 = n
            · rw [← h4 x hx he]; exact h3 v (by rw [← he]; exact hv)
            · exact h1 x hx v (by rw [lookV_putV, if_neg he]; exact hv)
        · rcases List.mem_cons.1 hx with rfl | hx <;> rcases List.mem_cons.1 hy with rfl | hy
          · rfl
          · exact h4 y hy he.symm
          · exact (h4 x hx he).symm
          · exact h2 x hx y hy he
      · rintro ⟨h1, h2⟩
        refine ⟨⟨fun x hx v hv => ?_, fun x hx y hy => h2 x (.tail _ hx) y (.tail _ hy)⟩, fun v hv => h1 _ (.head _) v hv⟩
        rw [lookV_putV] at hv
        split at hv
        · rename_i he
          obtain rfl := Option.some.inj hv
          exact h2 _ (.head _) x (.tail _ hx) he.symm
        · exact h1 x (.tail _ hx) v hv
    rw [← key, stopV]
    cases hl : lookV s n with
    | none => simp
    | some v =>
      by_cases hv : v = w
      · simp [hv]
      · simp [hv]
theorem agree_iff (l : NV) : agree l = true ↔ ∀ x ∈ l, ∀ y ∈ l, x.1 = y.1 → x.2 = y.2 := by
  unfold agree
  rw [allB_true]
  simp only [allB_true, Bool.or_eq_true, Bool.not_eq_true', decide_eq_false_iff_not, decide_eq_true_eq]
  constructor
  · intro h x hx y hy he
    obtain ⟨i, hi, rfl⟩ := List.getElem_of_mem hx
    obtain ⟨k, hk, rfl⟩ := List.getElem_of_mem hy
    rcases Nat.lt_trichotomy i k with hik | rfl | hik
    · have := h k hk i hik
      rw [gt_nat hi, gt_nat hk] at this
      rcases this with h1 | h1
      · exact absurd he h1
      · exact h1
    · rfl
    · have := h i hi k hik
      rw [gt_nat hi, gt_nat hk] at this
      rcases this with h1 | h1
      · exact absurd he.symm h1
      · exact h1.symm
  · intro h i hi k hk
    rw [gt_nat hi, gt_nat (show k < l.length by omega)]
    by_cases he : l[k].1 = l[i].1
    · right; exact h _ (List.getElem_mem _) _ (List.getElem_mem _) he
    · left; exact he
theorem Tm.stop_agree (t : Tm) : (stopF varF [] t.pre).2 = agree t.vars := by
  rw [Tm.stop_vars, Bool.eq_iff_iff, stopV_ok, agree_iff]
  simp [lookV]
end Go.Proofs.YtbghfliffomfdaaGreatDoorV

/- Contracts: layer 2 of the program: variables, Check. -/
namespace Go.Proofs.YtbghfliffomfdaaGreatDoorV
open Go
set_option maxRecDepth 100000
set_option maxHeartbeats 4000000

def varsDV (t : Tm) : DV := if agree t.vars then .tup [.mref 3, .pv (.bool true)] else .tup [.nilM, .pv (.bool false)]
theorem p_term_variables (gl : Glob) (t : Tm) : ACall Tryz.prog gl (.func 111) 0 [.pv t.pv] [] (varsDV t) [(3, .mp (vmap (stopF varF [] t.pre).1))] 6 := by
  have hnmv : ∀ (s : NV) (n : Nat), (Ob.mp (vmap s)).nm fun i => i < n := fun s n x hx => by simp only [vmap, List.mem_map] at hx; obtain ⟨y, -, rfl⟩ := hx; simp
  have hbv : ∀ (s : NV) (n : Nat), (Ob.mp (vmap s)).bel n := fun s n x hx => by simp only [vmap, List.mem_map] at hx; obtain ⟨y, -, rfl⟩ := hx; simp
  refine k_term_variables.acall (by simp) (by simp) (by simp) (by simp) (by unfold varsDV; split <;> simp) ⟨by omega, hnmv _ _, trivial⟩ fun hwf => ?_
  simp [c_term_variables]
  refine CallNext.obs [] (p_term_nodes gl t) (by simp) (by simp) (by simp) (by simp) fun _ => ?_
  simp [vc_rf, Tm.bx]
  have hst := t.stop_agree
  refine RfVC.nodes (fun s : NV => [(0, t.bx), (1, .box [.nilM]), (2, .box [.pv (.bool false)]), (3, .mp (vmap s)), (4, .box [.mref 3]), (5, t.bx)]) varF .ret (by simp) [] t (by omega) (fun s => by simp [Tm.bx]; exact fun a b h => hnmv s 6 (a, b) h) (fun l R hr => ?_) (fun s x => ?_) ?_
  · exact p_term_nodes_1B gl varF l R _ _ (fun _ => t.bx) (fun _ => .box [.nilM]) (fun _ => .box [.pv (.bool false)]) (fun s => .mp (vmap s)) (fun _ => .box [.mref 3]) t (by simp [Tm.bx, Ob.bel]) (by simp [Ob.bel]) (by simp [Ob.bel]) (fun s => hbv s 7) (by simp [Ob.bel]) (by simp) (by simp [Tm.bx]) (by simp) (by simp) (fun s => hnmv s 7) (by simp) [] hr
  · have hk : keysOk 2 (.str x.name) (vmap s) := keysOk_vmap
    by_cases hx : x.op = 2
    · obtain hl | ⟨v, hl⟩ : lookV s x.name = none ∨ ∃ v, lookV s x.name = some v := by cases lookV s x.name <;> simp
      · simp [varF, Tm.bx, exJump, hx, hl, hk]
        exact ⟨[0, 1, 2, 3, 4, 5], by simp⟩
      · by_cases hv : v = x.width
        · simp [varF, Tm.bx, exJump, hx, hl, hk, hv]
          exact ⟨[0, 1, 2, 3, 4, 5], by simp⟩
        · simp [varF, Tm.bx, exJump, hx, hl, hk, hv]
          exact ⟨[0, 1, 2, 3, 4, 5], by simp⟩
    · simp [varF, Tm.bx, exJump, hx]
      exact ⟨[0, 1, 2, 3, 4, 5], by simp⟩
  · rw [hst]
    simp [Tm.bx, varsDV]
    refine ⟨fun h => ?_, fun h => ?_⟩
    · simp [h]; exact ⟨[3], by simp⟩
    · simp [h]; exact ⟨[3], by simp⟩

def nodeF (s : Int) (x : Tm) : Int × Bool := if x.nodeP then (s, true) else (8, false)
theorem stopF_node : ∀ (l : List Tm) (s : Int), stopF nodeF s l = if l.all Tm.nodeP then (s, true) else (8, false)
  | [], s => rfl
  | t :: r, s => by
    rw [stopF, nodeF]
    by_cases h : t.nodeP = true
    · simp only [h, if_true, List.all_cons, Bool.true_and]; exact stopF_node r s
    · simp [h]
theorem p_term_Check (t : Tm) (hs : t.nodes < 2 ^ 40) (hd : t.depth < 2 ^ 40) : PCall Tryz.prog glob 101 [.pv t.pv] (.pv (.int .i64 t.check)) := by
  refine k_term_Check.pcall (by simp) (by simp) (by simp) fun hwf => ?_
  simp [c_term_Check]
  refine CallNext.pure (p_term_Size glob t hs) fun _ => ?_
  simp
  refine ⟨_, fun _ => .of (p_term_Depth glob _ t (Nat.lt_succ_self _) hd), by simp, ?_⟩
  simp
  refine ⟨fun h => ?_, fun h1 h2 => CallNext.obs [] (p_term_nodes glob t) (by simp) (by simp) (by simp) (by simp) fun _ => ?_⟩
  · rw [t.check_eq, if_pos (by omega)]
  have hck : t.check = if t.formed then (if agree t.vars then 0 else 14) else 8 := by rw [t.check_eq, if_neg (by omega)]
  simp [vc_rf, Tm.bx]
  have hst : stopF nodeF 0 t.pre = if t.formed then (0, true) else (8, false) := by rw [stopF_node, t.pre_nodeP]
  refine RfVC.nodes (fun s : Int => [(0, t.bx), (1, .box [.pv (.int .i64 s)]), (2, t.bx)]) nodeF .ret (by simp) 0 t (by omega) (fun s => by simp [Tm.bx]) (fun l R hr => ?_) (fun s x => ?_) ?_
  · exact p_term_nodes_1 glob nodeF l R _ _ (fun _ => t.bx) (fun s => .box [.pv (.int .i64 s)]) t (by simp [Tm.bx, Ob.bel]) (by simp [Ob.bel]) (by simp) (by simp [Tm.bx]) (by simp) 0 hr
  · simp [Tm.bx]
    refine CallNext.pure (p_term_node x) fun _ => ?_
    by_cases hx : x.nodeP = true
    · simp [nodeF, exJump, hx]
      exact ⟨[0, 1, 2], by simp⟩
    · simp [nodeF, exJump, hx]
      exact ⟨[0, 1, 2], by simp⟩
  · rw [hst]
    by_cases hf : t.formed = true
    · simp [hf, Tm.bx]
      refine CallNext.obs [] (p_term_variables glob t) (by simp) (by simp) (by simp) (by simp) fun _ => ?_
      by_cases ha : agree t.vars = true
      · simp [varsDV, ha, hck, hf]
      · simp [varsDV, ha, hck, hf]
    · simp [hf, Tm.bx, hck]
end Go.Proofs.YtbghfliffomfdaaGreatDoorV

/- Contracts: layer 8 of the program: small functions. -/
namespace Go.Proofs.YtbghfliffomfdaaGreatDoorV
open Go
set_option maxRecDepth 100000
set_option maxHeartbeats 4000000

theorem p_machine_within (gl : Glob) (n a b : Int) : PCall Tryz.prog gl 61 [.pv (.int .i64 n), .pv (.int .i64 a), .pv (.int .i64 b)] (.pv (.bool (inR n a b))) := by
  refine k_machine_within.pcall (by simp) (by simp) (by simp) fun hwf => ?_
  simp [c_machine_within, inR]

theorem p_slices_Max2 (gl : Glob) (a b : Int) : PCall Tryz.prog gl 92 [.pv (.lst 1 [.int .i64 a, .int .i64 b])] (.pv (.int .i64 (max a b))) := by
  refine k_slices_Max_int_int.pcall (by simp) (by simp) (by simp) fun hwf => ?_
  simp [c_slices_Max_int_int, nth]
  refine Loop.nat (fun i => { e := [(0, .pv (.lst 1 [.int .i64 a, .int .i64 b])), (3, .pv (.int .i64 (if i = 0 then a else max a b))), (4, .pv (.int .i64 (i + 1 : Nat)))], h := [], nx := 0 }) 1 (fun _ => True) (by simp) (by simp) (by simp) fun i hi hinv => ?_
  have hc : i = 0 ∨ i = 1 := by omega
  rcases hc with rfl | rfl
  · simp [nth, wrap_nat]
  · simp
theorem p_machine_fewer (gl : Glob) (a n : Int) : PCall Tryz.prog gl 78 [.pv (.int .i64 a), .flit 1 [.int .i64 n]] (.pv (.bool (decide (max n 0 ≤ a)))) := by
  refine k_machine_fewer.pcall (by simp) (by simp) (by simp) fun hwf => ?_
  simp [c_machine_fewer]
  refine CallNext.pure (p_slices_Max2 gl n 0) fun _ => ?_
  simp
theorem p_slices_Index_string (gl : Glob) (l : List ByteArray) (x : ByteArray) : PCall Tryz.prog gl 94 [.pv (.lst 1 (strs l)), .pv (.str x)] (.pv (.int .i64 (fstI (fun y => decide (x = y)) l))) := by
  refine k_slices_Index_string_string.pcall (by simp) (by simp) (by simp) fun hwf => ?_
  have hb : l.length ≤ 9223372036854775807 := by have := hwf (.pv (.lst 1 (strs l))) (by simp); simp [strs, maxLen] at this; exact this.1
  simp [c_slices_Index_string_string]
  refine Loop.nat (fun i => { e := [(0, .pv (.lst 1 (strs l))), (1, .pv (.str x)), (7, .pv (.int .i64 l.length)), (8, .pv (.int .i64 i))], h := [], nx := 0 }) l.length (fun i => ∀ j, j < i → decide (x = gt l (j : Nat)) = false) (by simp) (by simp) (by simp) fun i hi hinv => ?_
  by_cases hlt : i < l.length
  · simp [hlt]
    refine ⟨fun h => (fstI_some (by omega) (by simp [h]) hinv).symm, fun h => ⟨fun j hj => ?_, wrap_nat (by omega) (by omega)⟩⟩
    rcases Nat.lt_or_eq_of_le (Nat.le_of_lt_succ hj) with hj | rfl
    · simpa using hinv j hj
    · exact h
  · simp [hlt]
    exact (fstI_none fun j hj => hinv j (by omega)).symm
theorem p_slices_Contains_string (gl : Glob) (l : List ByteArray) (x : ByteArray) : PCall Tryz.prog gl 80 [.pv (.lst 1 (strs l)), .pv (.str x)] (.pv (.bool (l.any fun y => decide (x = y)))) := by
  refine k_slices_Contains_string_string.pcall (by simp) (by simp) (by simp) fun hwf => ?_
  simp [c_slices_Contains_string_string]
  refine CallNext.pure (p_slices_Index_string gl l x) fun _ => ?_
  simp [fstI_nonneg]

/-- The names that have been used: the variable, and the licence to append. -/
def nbox (j : Nat) (l : List ByteArray) : Ob := .box [.own j 1 (strs l)]
def freshB (l : List ByteArray) (s : ByteArray) : Bool := isName s && !l.any fun y => decide (s = y)
theorem p_names_fresh (gl : Glob) (l : List ByteArray) (s : ByteArray) (hl : l.length ≤ 1000) :
    ACall Tryz.prog gl (.func 65) 2 [.ptr 0 0, .pv (.str s)] [(0, nbox 1 l), (1, .tip 1 l.length)] (.pv (.bool (freshB l s))) [(0, nbox 1 (l ++ [s])), (1, .tip 1 (l.length + 1))] 2 := by
  refine k_machine_names_fresh.acall (by simp) (by simp) (by simp) (by simp [nbox]) (by simp) (by simp [nbox]) fun hwf => ?_
  simp [c_machine_names_fresh, nbox]
  refine CallNext.pure (p_bits_Name gl s) fun _ => ?_
  simp
  refine ⟨_, fun _ => .of (p_slices_Contains_string gl l s), by simp, ?_⟩
  simp [freshB]
  refine ⟨by omega, [0, 1], ?_⟩
  simp [strs]

theorem all_take {l : List Bool} {i : Nat} (h : i < l.length) : (l.take (i + 1)).all id = ((l.take i).all id && gt l (i : Nat)) := by
  rw [gt_nat h, List.take_succ_eq_append_getElem h, List.all_append]; simp
/-- The checker: the machine, and whether all is well so far. -/
def cbox (m : Mach) (ok : Bool) : Ob := .box [.pv (.str m.name), .pv (.int .i64 m.word), .pv (.int .i64 m.address), .pv (.lst 4 (m.regs.map Reg.pv)), .pv (.lst 2 (m.banks.map Bank.pv)), .pv (.lst 2 (m.units.map Unt.pv)), .pv (.lst 9 (m.instrs.map Ins_.pv)), .pv (.bool ok)]
def bools (l : List Bool) : List PV := l.map .bool
theorem p_checker_must (gl : Glob) (m : Mach) (ok : Bool) (l : List Bool) :
    ACall Tryz.prog gl (.func 59) 1 [.ptr 0 0, .pv (.lst 1 (bools l))] [(0, cbox m ok)] (.tup []) [(0, cbox m (ok && l.all id))] 1 := by
  refine k_machine_checker_must.acall (by simp) (by simp) (by simp) (by simp [cbox]) (by simp) (by simp [cbox]) fun hwf => ?_
  have hb : l.length ≤ 9223372036854775807 := by have := hwf (.pv (.lst 1 (bools l))) (by simp); simp [bools, maxLen] at this; exact this.1
  simp [c_machine_checker_must, cbox, bools]
  refine Loop.nat (fun i => { e := [(0, .ptr 0 0), (6, .pv (.lst 1 (l.map .bool))), (7, .pv (.int .i64 l.length)), (8, .pv (.int .i64 i))], h := [(0, cbox m (ok && (l.take i).all id))], nx := 1 }) l.length (fun _ => True) (by simp) (by simp) (by simp [cbox]) fun i hi hinv => ?_
  by_cases hlt : i < l.length
  · simp [hlt, cbox, wrap_nat (show (0:Int) ≤ i + 1 by omega) (by omega)]
    rw [all_take hlt, Bool.and_assoc]
  · obtain rfl : i = l.length := by omega
    simp [cbox]
    exact ⟨[0], by simp⟩
end Go.Proofs.YtbghfliffomfdaaGreatDoorV

/- Contracts: layer 8 of the program: registers, banks, units. -/
namespace Go.Proofs.YtbghfliffomfdaaGreatDoorV
open Go
set_option maxRecDepth 100000
set_option maxHeartbeats 4000000

theorem any_take {α : Type} [Inhabited α] {l : List α} {i : Nat} (h : i ≤ l.length) (p : α → Bool) : (!(l.take i).any p) = allB i fun k => !p (gt l (k : Nat)) := by
  induction i with
  | zero => simp
  | succ i ih =>
    have hi : i < l.length := by omega
    rw [List.take_succ_eq_append_getElem hi, List.any_append, Bool.not_or, ih (by omega), allB_succ, gt_nat hi]; simp
theorem fresh_take {α : Type} [Inhabited α] {l : List α} (f : α → ByteArray) {i : Nat} (h : i < l.length) : freshB ((l.map f).take i) (f (gt l (i : Nat))) = (isName (f (gt l (i : Nat))) && allB i fun k => !decide (f (gt l (k : Nat)) = f (gt l (i : Nat)))) := by
  rw [freshB, any_take (by simp; omega)]
  congr 1
  refine allB_congr fun k hk => ?_
  rw [gt_nat (show k < (l.map f).length by simp; omega), gt_nat (show k < l.length by omega)]
  simp [eq_comm]
theorem take_names {α : Type} [Inhabited α] {l : List α} (f : α → ByteArray) {i : Nat} (h : i < l.length) : (l.map f).take (i + 1) = (l.map f).take i ++ [f (gt l (i : Nat))] := by
  rw [List.take_succ_eq_append_getElem (by simpa using h), gt_nat h]; simp

theorem p_checker_regs (gl : Glob) (m : Mach) (ok : Bool) (hl : m.regs.length ≤ 500) :
    ACall Tryz.prog gl (.func 62) 1 [.ptr 0 0] [(0, cbox m ok)] (.tup []) [(0, cbox m (ok && okRegs m))] 1 := by
  refine k_machine_checker_regs.acall (by simp) (by simp) (by simp) (by simp [cbox]) (by simp) (by simp [cbox]) fun hwf => ?_
  simp [c_machine_checker_regs, cbox]
  refine CallNext.obs [0] (p_checker_must gl m ok [decide (0 < m.regs.length)]) (by simp) (by simp) (by simp [bools]) (by simp [cbox]) fun _ => ?_
  simp [cbox]
  refine Loop.nat (fun i => { e := [(0, .ptr 0 0), (2, .ptr 1 0), (20, .pv (.lst 4 (m.regs.map Reg.pv))), (21, .pv (.int .i64 m.regs.length)), (22, .pv (.int .i64 i))], h := [(0, cbox m (ok && (decide (0 < m.regs.length) && allB i (rgOk m)))), (1, nbox 2 ((m.regs.map (·.name)).take i)), (2, .tip 1 i)], nx := 3 }) m.regs.length (fun _ => True) (by simp [cbox]) (by simp) (by simp [cbox, nbox, strs]) fun i hi hinv => ?_
  by_cases hlt : i < m.regs.length
  · simp [hlt, cbox, wrap_nat (show (0:Int) ≤ i + 1 by omega) (by omega)]
    have hlen : ((m.regs.map (·.name)).take i).length = i := by simp; omega
    refine DCallNext.obs' [1, 2] (p_names_fresh gl ((m.regs.map (·.name)).take i) (gt m.regs i).name (by rw [hlen]; omega)) rfl (by simp) (by simp) (by simp) (by simp) (by simp [nbox, hlen]) ?_
    simp [nbox, hlen]
    refine DCallNext.pure (p_machine_within gl _ _ _) ?_
    simp
    refine DCallNext.obs' [0] (p_checker_must gl m _ [_, _]) rfl (by simp) (by simp) (by simp [bools]; exact ⟨rfl, rfl⟩) (by simp) (by simp [cbox]; rfl) ?_
    simp [cbox]
    rw [fresh_take _ hlt, ← take_names _ hlt]
    have hw1 : IntKind.i64.wrap ((i : Int) + 1) = (i : Int) + 1 := wrap_nat (by omega) (by omega)
    have hne : m.regs ≠ [] := by intro h; simp [h] at hlt
    refine ⟨fun hof => ?_, fun hof => ?_⟩
    · refine CallNext.obs [0] (p_checker_must gl m _ [_]) (by simp) (by simp) (by simp [bools]; rfl) (by simp [cbox]; rfl) fun _ => ?_
      simp [cbox, hlt, hw1]
      rw [allB_succ]
      simp [rgOk, hof]
      ac_rfl
    · refine DCallNext.pure (p_machine_within gl _ _ _) ?_
      simp
      rw [wrap_i64 (by omega) (by omega)]
      refine ⟨fun hout => ?_, fun hin => ?_⟩
      · refine CallNext.obs [0] (p_checker_must gl m _ [_]) (by simp) (by simp) (by simp [bools]; rfl) (by simp [cbox]; rfl) fun _ => ?_
        simp [cbox]
        refine ⟨hlt, hw1, fun _ _ => ?_⟩
        rw [allB_succ]
        simp [rgOk, hof, hout]
      · have hin' : 0 ≤ (gt m.regs (i : Nat)).of ∧ (gt m.regs (i : Nat)).of ≤ (m.regs.length : Int) - 1 := by simpa [inR] using hin
        simp [hne]
        refine ⟨by omega, ?_⟩
        refine DCallNext.pure (p_machine_within gl _ _ _) ?_
        simp
        refine DCallNext.pure (p_machine_within gl _ _ _) ?_
        simp
        refine DCallNext.obs' [0] (p_checker_must gl m _ [_, _, _, _]) rfl (by simp) (by simp) (by simp [bools]; exact ⟨rfl, rfl, rfl, rfl⟩) (by simp) (by simp [cbox]; rfl) ?_
        simp [cbox]
        refine ⟨hlt, hw1, ?_⟩
        rw [allB_succ]
        simp only [rgOk, hof, if_false, hin]
        by_cases hA : inR (gt m.regs (gt m.regs (i : Nat)).of).width 1 64 = true
        · by_cases hB : inR (gt m.regs (i : Nat)).width 1 64 = true
          · rw [wrap_i64 (by simp [inR] at hA hB; omega) (by simp [inR] at hA hB; omega)]
            simp [hA, hB]
            ac_rfl
          · simp [hB]
        · simp [hA]
  · obtain rfl : i = m.regs.length := by omega
    simp [cbox, okRegs]
    exact ⟨[0], by simp [Bool.and_comm]⟩

theorem p_checker_units (gl : Glob) (m : Mach) (ok : Bool) (hl : m.units.length ≤ 500) :
    ACall Tryz.prog gl (.func 64) 1 [.ptr 0 0] [(0, cbox m ok)] (.tup []) [(0, cbox m (ok && okUnits m))] 1 := by
  refine k_machine_checker_units.acall (by simp) (by simp) (by simp) (by simp [cbox]) (by simp) (by simp [cbox]) fun hwf => ?_
  simp [c_machine_checker_units, cbox]
  refine CallNext.obs [0] (p_checker_must gl m ok [decide (0 < m.units.length)]) (by simp) (by simp) (by simp [bools]) (by simp [cbox]) fun _ => ?_
  simp [cbox]
  refine Loop.nat (fun i => { e := [(0, .ptr 0 0), (2, .ptr 1 0), (19, .pv (.lst 2 (m.units.map Unt.pv))), (20, .pv (.int .i64 m.units.length)), (21, .pv (.int .i64 i))], h := [(0, cbox m (ok && (decide (0 < m.units.length) && allB i (unitOk m)))), (1, nbox 2 ((m.units.map (·.name)).take i)), (2, .tip 1 i)], nx := 3 }) m.units.length (fun _ => True) (by simp [cbox]) (by simp) (by simp [cbox, nbox, strs]) fun i hi hinv => ?_
  by_cases hlt : i < m.units.length
  · have hw1 : IntKind.i64.wrap ((i : Int) + 1) = (i : Int) + 1 := wrap_nat (by omega) (by omega)
    have hlen : ((m.units.map (·.name)).take i).length = i := by simp; omega
    simp [hlt, cbox]
    refine DCallNext.obs' [1, 2] (p_names_fresh gl ((m.units.map (·.name)).take i) (gt m.units i).name (by rw [hlen]; omega)) rfl (by simp) (by simp) (by simp) (by simp) (by simp [nbox, hlen]) ?_
    simp [nbox, hlen]
    refine DCallNext.pure (p_machine_within gl _ _ _) ?_
    simp
    refine DCallNext.obs' [0] (p_checker_must gl m _ [_, _]) rfl (by simp) (by simp) (by simp [bools]; exact ⟨rfl, rfl⟩) (by simp) (by simp [cbox]; rfl) ?_
    simp [cbox, hlt, hw1]
    rw [fresh_take _ hlt, ← take_names _ hlt, allB_succ]
    simp [unitOk]
    ac_rfl
  · obtain rfl : i = m.units.length := by omega
    simp [cbox, okUnits]
    exact ⟨[0], by simp [Bool.and_comm]⟩

@[simp] theorem ints_take {l : List Int} {n : Nat} : (ints l).take n = ints (l.take n) := by simp [ints, List.map_take]
theorem p_checker_banks (gl : Glob) (m : Mach) (ok : Bool) (hl : m.banks.length ≤ 500) (hr : m.regs.length ≤ 500) (hbl : ∀ b ∈ m.banks, b.regs.length ≤ 500) :
    ACall Tryz.prog gl (.func 63) 1 [.ptr 0 0] [(0, cbox m ok)] (.tup []) [(0, cbox m (ok && okBanks m))] 1 := by
  refine k_machine_checker_banks.acall (by simp) (by simp) (by simp) (by simp [cbox]) (by simp) (by simp [cbox]) fun hwf => ?_
  simp [c_machine_checker_banks, cbox]
  refine Loop.nat (fun i => { e := [(0, .ptr 0 0), (2, .ptr 1 0), (11, .pv (.lst 2 (m.banks.map Bank.pv))), (12, .pv (.int .i64 m.banks.length)), (13, .pv (.int .i64 i))], h := [(0, cbox m (ok && allB i (bankOk m))), (1, nbox 2 ((m.banks.map (·.name)).take i)), (2, .tip 1 i)], nx := 3 }) m.banks.length (fun _ => True) (by simp [cbox]) (by simp) (by simp [cbox, nbox, strs]) fun i hi hinv => ?_
  by_cases hlt : i < m.banks.length
  · have hw1 : IntKind.i64.wrap ((i : Int) + 1) = (i : Int) + 1 := wrap_nat (by omega) (by omega)
    have hlen : ((m.banks.map (·.name)).take i).length = i := by simp; omega
    simp [hlt, cbox]
    refine DCallNext.obs' [1, 2] (p_names_fresh gl ((m.banks.map (·.name)).take i) (gt m.banks i).name (by rw [hlen]; omega)) rfl (by simp) (by simp) (by simp) (by simp) (by simp [nbox, hlen]) ?_
    simp [nbox, hlen]
    refine DCallNext.obs' [0] (p_checker_must gl m _ [_, _]) rfl (by simp) (by simp) (by simp [bools]; exact ⟨rfl, rfl⟩) (by simp) (by simp [cbox]; rfl) ?_
    simp [cbox]
    rw [fresh_take _ hlt, ← take_names _ hlt]
    have hbl' : (gt m.banks (i : Nat)).regs.length ≤ 500 := hbl _ (gt_mem (by omega) (by omega))
    generalize hb : gt m.banks (i : Nat) = b at *
    let q : Nat → Bool := fun k => inR (gt b.regs (k : Nat)) 0 (m.regs.length - 1) && allB k (fun j => !decide (gt b.regs (j : Nat) = gt b.regs (k : Nat))) && decide ((gt m.regs (gt b.regs (k : Nat))).width = (gt m.regs (gt b.regs 0)).width)
    let A : Bool := isName b.name && (allB i fun k => !decide ((gt m.banks (k : Nat)).name = b.name))
    have hq : bankOk m i = (A && decide (0 < b.regs.length) && allB b.regs.length q) := by
      simp only [bankOk, hb, A, q]; ac_rfl
    refine Loop.nat (fun k => { e := [(0, .ptr 0 0), (2, .ptr 1 0), (4, .ptr 3 0), (11, .pv (.lst 2 (m.banks.map Bank.pv))), (12, .pv (.int .i64 m.banks.length)), (13, .pv (.int .i64 i)), (28, .pv (.lst 1 (ints b.regs))), (29, .pv (.int .i64 b.regs.length)), (30, .pv (.int .i64 k))], h := [(0, cbox m (ok && allB i (bankOk m) && (A && decide (0 < b.regs.length)) && allB k q)), (1, nbox 2 ((m.banks.map (·.name)).take (i + 1))), (2, .tip 1 (i + 1)), (3, b.bx)], nx := 14 }) b.regs.length (fun _ => True) (by simp [cbox, Bank.bx]) (by simp) (by simp [cbox, nbox, Bank.bx, A]) fun k hk hinv => ?_
    by_cases hkt : k < b.regs.length
    · have hw2 : IntKind.i64.wrap ((k : Int) + 1) = (k : Int) + 1 := wrap_nat (by omega) (by omega)
      simp [hkt, cbox, Bank.bx]
      have hbne : b.regs ≠ [] := by intro h; simp [h] at hkt
      have hnc : (!(b.regs.take k).any fun y => decide (gt b.regs (k : Nat) = y)) = allB k (fun j => !decide (gt b.regs (j : Nat) = gt b.regs (k : Nat))) := by
        rw [any_take (by omega)]; exact allB_congr fun j hj => by simp [eq_comm]
      refine DCallNext.pure (p_machine_within gl _ _ _) ?_
      simp
      rw [wrap_i64 (by omega) (by omega)]
      refine ⟨by omega, DCallNext.pure (p_slices_Contains_int_int gl _ _) ?_⟩
      simp only [hnc, dvc_nil, d_un, dnext_some, stp_un, evs, ev, eget, eput, DV.strip, if_true]
      simp [hnc]
      refine DCallNext.obs' [0] (p_checker_must gl m _ [_, _]) rfl (by simp) (by simp) (by simp [bools]; exact ⟨rfl, rfl⟩) (by simp) (by simp [cbox]; rfl) ?_
      simp [cbox]
      refine ⟨fun h1 h2 h3 h4 h5 h6 h7 => ?_, fun hno => ?_⟩
      · have h6' : 0 ≤ gt b.regs (k : Nat) ∧ gt b.regs (k : Nat) ≤ (m.regs.length : Int) - 1 := by simpa [inR] using h6
        have hmne : m.regs ≠ [] := by intro h; simp [h] at h6'; omega
        have h0' : 0 ≤ gt b.regs 0 ∧ gt b.regs 0 ≤ (m.regs.length : Int) - 1 := by
          rcases Nat.eq_zero_or_pos k with rfl | hk0
          · simpa using h6'
          · have := allB_true.1 h5 0 hk0
            simp [q] at this
            simpa [inR] using this
        simp [hmne, hbne]
        refine ⟨by omega, by omega, by omega, ?_⟩
        refine DCallNext.obs' [0] (p_checker_must gl m _ [_]) rfl (by simp) (by simp) (by simp [bools]; rfl) (by simp) (by simp [cbox]; rfl) ?_
        simp [cbox, Bank.bx, hkt, hw2]
        refine ⟨by simp [nbox], ?_⟩
        rw [allB_succ]
        simp only [q]
        ac_rfl
      · simp [cbox, Bank.bx, hkt, hw2]
        refine ⟨by simp [nbox], ?_⟩
        have hX : ∀ w : Bool, (ok && allB i (bankOk m) && (A && decide (0 < b.regs.length)) && allB k q && (inR (gt b.regs (k : Nat)) 0 (m.regs.length - 1) && (allB k fun j => !decide (gt b.regs (j : Nat) = gt b.regs (k : Nat))) && w)) = false := fun w => by
          rw [Bool.eq_false_iff]; intro h
          simp only [Bool.and_eq_true, decide_eq_true_eq] at h
          obtain ⟨⟨⟨⟨h1, h2⟩, h3, h4⟩, h5⟩, ⟨h6, h7⟩, -⟩ := h
          have := hno h1 h2 h3 h4 h5 h6
          rw [h7] at this; simp at this
        have e1 := hX true
        rw [Bool.and_true] at e1
        rw [allB_succ, e1]
        have e2 := hX (decide ((gt m.regs (gt b.regs (k : Nat))).width = (gt m.regs (gt b.regs 0)).width))
        rw [← e2]; simp only [q]; ac_rfl
    · obtain rfl : k = b.regs.length := by omega
      simp [cbox, hlt, hw1, nbox]
      rw [allB_succ, hq]; simp [Bool.and_assoc]
  · obtain rfl : i = m.banks.length := by omega
    simp [cbox, okBanks]
    exact ⟨[0], by simp⟩
end Go.Proofs.YtbghfliffomfdaaGreatDoorV

/- Plain laws: words of 64 bits. -/
namespace Go.Proofs.YtbghfliffomfdaaGreatDoorV
open Go
set_option maxHeartbeats 1000000

theorem wrap_u64 {n : Int} (h0 : 0 ≤ n) (h : n < 18446744073709551616) : IntKind.u64.wrap n = n := wrap_id (by simp [IntKind.min, IntKind.signed]; omega) (by simp [IntKind.max, IntKind.signed, IntKind.bits]; omega)
theorem u64_bits : IntKind.u64.bits = 64 := rfl
theorem bv_ofNat {a : Nat} (h : a < 2 ^ 64) : (BitVec.ofInt 64 (a : Int)).toNat = a := by
  rw [BitVec.toNat_ofInt]; omega
theorem and_u64 {a b : Nat} (ha : a < 2 ^ 64) (hb : b < 2 ^ 64) : bandI .u64 (a : Int) (b : Int) = ((a &&& b : Nat) : Int) := by
  rw [bandI, u64_bits, BitVec.toNat_and, bv_ofNat ha, bv_ofNat hb]
  have := Nat.and_lt_two_pow a hb
  exact wrap_u64 (by omega) (by omega)
theorem or_u64 {a b : Nat} (ha : a < 2 ^ 64) (hb : b < 2 ^ 64) : borI .u64 (a : Int) (b : Int) = ((a ||| b : Nat) : Int) := by
  rw [borI, u64_bits, BitVec.toNat_or, bv_ofNat ha, bv_ofNat hb]
  have := Nat.or_lt_two_pow ha hb
  exact wrap_u64 (by omega) (by omega)
theorem andNot_u64 {a b : Nat} (ha : a < 2 ^ 64) (hb : b < 2 ^ 64) : bandNotI .u64 (a : Int) (b : Int) = ((a &&& (2 ^ 64 - 1 - b) : Nat) : Int) := by
  rw [bandNotI, u64_bits, BitVec.toNat_and, BitVec.toNat_not, bv_ofNat ha, bv_ofNat hb]
  have := Nat.and_lt_two_pow a (show 2 ^ 64 - 1 - b < 2 ^ 64 by omega)
  exact wrap_u64 (by omega) (by omega)

/-- The bits of a word that a piece takes. -/
def pmask (p : Piece) : Nat := (2 ^ p.len.toNat - 1) * 2 ^ p.at_.toNat
def takenN (ps : List Piece) : Nat → Nat
  | 0 => 0
  | n + 1 => takenN ps n ||| pmask (gt ps (n : Nat))
def rngOk (word : Int) (ps : List Piece) (j : Nat) : Bool := inR (gt ps (j : Nat)).len 1 (8 * word) && inR (gt ps (j : Nat)).at_ 0 (8 * word - (gt ps (j : Nat)).len)
def pcOk (word : Int) (ps : List Piece) (j : Nat) : Bool := rngOk word ps j && decide (takenN ps j &&& pmask (gt ps (j : Nat)) = 0)
theorem pmask_lt {word : Int} {ps : List Piece} {j : Nat} (hw : 1 ≤ word ∧ word ≤ 4) (h1 : inR (gt ps (j : Nat)).len 1 (8 * word) = true) (h2 : inR (gt ps (j : Nat)).at_ 0 (8 * word - (gt ps (j : Nat)).len) = true) : pmask (gt ps (j : Nat)) < 2 ^ 32 := by
  simp [inR] at h1 h2
  generalize gt ps (j : Nat) = p at *
  unfold pmask
  have hle : p.len.toNat + p.at_.toNat ≤ 32 := by omega
  have h3 : 2 ^ p.len.toNat * 2 ^ p.at_.toNat ≤ 2 ^ 32 := by rw [← Nat.pow_add]; exact Nat.pow_le_pow_right (by omega) hle
  have h4 : 0 < 2 ^ p.at_.toNat := Nat.pow_pos (by omega)
  rw [Nat.sub_mul]
  omega
theorem takenN_lt {word : Int} {ps : List Piece} (hw : 1 ≤ word ∧ word ≤ 4) : ∀ (n : Nat), (∀ j, j < n → rngOk word ps j = true) → takenN ps n < 2 ^ 32
  | 0, _ => by simp [takenN]
  | n + 1, h => by
    rw [takenN]
    have h1 := h n (by omega)
    simp only [rngOk, Bool.and_eq_true] at h1
    exact Nat.or_lt_two_pow (takenN_lt hw n fun j hj => h j (by omega)) (pmask_lt hw h1.1 h1.2)
theorem fieldN_le {word : Int} {ps : List Piece} (hw : 1 ≤ word ∧ word ≤ 4) : ∀ (n : Nat), n ≤ 500 → (∀ j, j < n → rngOk word ps j = true) → 0 ≤ fieldN ps n ∧ fieldN ps n ≤ 32 * n
  | 0, _, _ => by simp [fieldN]
  | n + 1, hn, h => by
    have h1 := fieldN_le hw n (by omega) fun j hj => h j (by omega)
    have h2 := h n (by omega)
    simp only [rngOk, Bool.and_eq_true] at h2
    have h3 : 1 ≤ (gt ps (n : Nat)).len ∧ (gt ps (n : Nat)).len ≤ 8 * word := by simpa [inR] using h2.1
    rw [fieldN, wrap_i64 (by omega) (by omega)]
    omega
theorem shl_one : ∀ n : Nat, n < 63 → shlI .i64 1 (n : Int) = 2 ^ n := by decide
theorem maskI_nat {w : Int} (h : 1 ≤ w ∧ w ≤ 64) : maskI w = ((2 ^ w.toNat - 1 : Nat) : Int) := by
  have hb : wideB w = true := by simp [wideB, inR]; omega
  have : 0 < 2 ^ w.toNat := Nat.pow_pos (by omega)
  simp only [maskI, hb, if_true]
  rw [Int.ofNat_sub (by omega)]
  simp
theorem shl_mask {p : Piece} {word : Int} (hw : 1 ≤ word ∧ word ≤ 4) (h1 : 1 ≤ p.len ∧ p.len ≤ 8 * word) (h2 : 0 ≤ p.at_ ∧ p.at_ ≤ 8 * word - p.len) : shlI .u64 (maskI p.len) p.at_ = (pmask p : Int) := by
  rw [shlI, maskI_nat (by omega)]
  have e1 : min p.at_.toNat IntKind.u64.bits = p.at_.toNat := by rw [u64_bits]; omega
  rw [e1]
  have e2 : ((2 ^ p.len.toNat - 1 : Nat) : Int) * 2 ^ p.at_.toNat = ((pmask p : Nat) : Int) := by unfold pmask; push_cast; rfl
  rw [e2]
  have := pmask_lt (word := word) (ps := [p]) (j := 0) hw (by simp [gt, inR]; omega) (by simp [gt, inR]; omega)
  simp [gt] at this
  exact wrap_u64 (by omega) (by omega)
end Go.Proofs.YtbghfliffomfdaaGreatDoorV

/- Contracts: layer 8 of the program: operands. -/
namespace Go.Proofs.YtbghfliffomfdaaGreatDoorV
open Go
set_option maxRecDepth 100000
set_option maxHeartbeats 4000000

theorem p_machine_field (gl : Glob) (o : Opnd) : PCall Tryz.prog gl 95 [.pv o.pv] (.pv (.int .i64 (fieldI o))) := by
  refine k_machine_field.pcall (by simp) (by simp) (by simp) fun hwf => ?_
  have hb : o.pieces.length ≤ 9223372036854775807 := by have := hwf (.pv o.pv) (by simp); simp only [DV.wf] at this; rw [Opnd.wf_pv] at this; simp [-Opnd.fold, maxLen] at this; exact this.2.2.2.2.1.1
  simp [c_machine_field]
  refine Loop.nat (fun i => { e := [(2, .pv (.int .i64 (fieldN o.pieces i))), (6, .pv (.lst 2 (o.pieces.map Piece.pv))), (7, .pv (.int .i64 o.pieces.length)), (8, .pv (.int .i64 i))], h := [(0, o.bx)], nx := 1 }) o.pieces.length (fun _ => True) (by simp [Opnd.bx]) (by simp) (by simp [Opnd.bx, fieldN]) fun i hi hinv => ?_
  by_cases hlt : i < o.pieces.length
  · simp [hlt, Opnd.bx, fieldN, wrap_nat (show (0:Int) ≤ i + 1 by omega) (by omega)]
  · obtain rfl : i = o.pieces.length := by omega
    simp [fieldI]
theorem p_machine_wide (gl : Glob) (m : Mach) (o : Opnd) (h : o.kind = 1 → (0 ≤ o.bank ∧ o.bank < m.banks.length) ∧ (gt m.banks o.bank).regs ≠ [] ∧ 0 ≤ gt (gt m.banks o.bank).regs 0 ∧ gt (gt m.banks o.bank).regs 0 < m.regs.length) : PCall Tryz.prog gl 96 [.pv m.pv, .pv o.pv] (.pv (.int .i64 (wideI m o))) := by
  refine k_machine_wide.pcall (by simp) (by simp) (by simp) fun hwf => ?_
  by_cases hk : o.kind = 1
  · obtain ⟨h1, h2, h3⟩ := h hk
    have hb : m.banks ≠ [] := by intro hh; simp [hh] at h1; omega
    have hr : m.regs ≠ [] := by intro hh; simp [hh] at h3; omega
    simp [c_machine_wide, hk, hb, hr, h2, wideI]
    have : 0 < (gt m.banks o.bank).regs.length := by cases hh : (gt m.banks o.bank).regs <;> simp_all
    omega
  · simp [c_machine_wide, hk, wideI]

/-- What an operand's kind asks. -/
def kindOk (m : Mach) (s : Ins_) (i : Nat) : Bool :=
  let o := gt s.operands (i : Nat)
  if o.kind = 1 then
    inR o.bank 0 (m.banks.length - 1) && decide (o.scale = 0) &&
    if o.tied = -1 then decide (0 < fieldI o) && (decide (6 < fieldI o) || decide (((gt m.banks o.bank).regs.length : Int) ≤ 2 ^ (fieldI o).toNat))
    else inR o.tied 0 (i - 1) && decide (o.pieces.length = 0) && (let t := gt s.operands o.tied; decide (t.kind = 1) && decide (t.bank = o.bank) && decide (t.tied = -1))
  else if o.kind = 2 ∨ o.kind = 3 ∨ o.kind = 4 then decide (o.bank = 0) && decide (o.tied = -1) && inR o.scale 0 3 && decide (0 < fieldI o) && decide (fieldI o + o.scale ≤ m.address)
  else false
def opOk (m : Mach) (s : Ins_) (i : Nat) : Bool := allB (gt s.operands (i : Nat)).pieces.length (pcOk m.word (gt s.operands (i : Nat)).pieces) && kindOk m s i
/-- What 'operand' gives back. -/
def opTaken (m : Mach) (ok : Bool) (s : Ins_) (i : Nat) : Nat :=
  let o := gt s.operands (i : Nat)
  if allB o.pieces.length (fun j => ok && allB j (pcOk m.word o.pieces) && rngOk m.word o.pieces j) then
    (if o.kind = 1 ∧ ¬ (ok && allB o.pieces.length (pcOk m.word o.pieces) && (inR o.bank 0 (m.banks.length - 1) && decide (o.scale = 0))) = true then 0 else takenN o.pieces o.pieces.length) else 0
theorem opTaken_lt {m : Mach} {ok : Bool} {s : Ins_} {i : Nat} (hw : ok = true → 1 ≤ m.word ∧ m.word ≤ 4) : opTaken m ok s i < 2 ^ 32 := by
  unfold opTaken
  simp only
  split
  · rename_i h
    split
    · omega
    · rcases Nat.eq_zero_or_pos (gt s.operands (i : Nat)).pieces.length with h0 | h0
      · rw [h0]; simp [takenN]
      · have := allB_true.1 h 0 h0
        simp only [Bool.and_eq_true] at this
        exact takenN_lt (hw this.1.1) _ fun j hj => by have := allB_true.1 h j hj; simp only [Bool.and_eq_true] at this; exact this.2
  · omega
theorem opTaken_eq {m : Mach} {ok : Bool} {s : Ins_} {i : Nat} (h : (ok && opOk m s i) = true) : opTaken m ok s i = takenN (gt s.operands (i : Nat)).pieces (gt s.operands (i : Nat)).pieces.length := by
  simp only [opOk, Bool.and_eq_true] at h
  obtain ⟨h1, h2, h3⟩ := h
  unfold opTaken
  simp only
  rw [if_pos (allB_true.2 fun j hj => ?_), if_neg]
  · rintro ⟨hk, hn⟩
    apply hn
    simp only [kindOk, hk, if_true, Bool.and_eq_true] at h3
    simp only [h1, h2, Bool.and_eq_true, h3.1.1, h3.1.2, and_self]
  · have h4 := allB_true.1 h2
    have := h4 j hj
    simp only [pcOk, Bool.and_eq_true] at this
    simp only [h1, this.1, Bool.and_true, Bool.true_and]
    exact allB_true.2 fun k hk => h4 k (by omega)
theorem p_checker_operand (gl : Glob) (m : Mach) (ok : Bool) (s : Ins_) (i : Nat) (hi : i < s.operands.length) (hw : ok = true → 1 ≤ m.word ∧ m.word ≤ 4) (hil : s.operands.length ≤ 500) (hb : m.banks.length ≤ 500) (hp : (gt s.operands (i : Nat)).pieces.length ≤ 500) :
    ACall Tryz.prog gl (.func 81) 1 [.ptr 0 0, .pv s.pv, .pv (.int .i64 i)] [(0, cbox m ok)] (.pv (.int .u64 (opTaken m ok s i))) [(0, cbox m (ok && opOk m s i))] 1 := by
  refine k_machine_checker_operand.acall (by simp) (by simp) (by simp) (by simp [cbox]) (by simp) (by simp [cbox]) fun hwf => ?_
  simp [c_machine_checker_operand, cbox, hi]
  generalize ho : gt s.operands (i : Nat) = o at *
  let R : Nat → Bool := fun j => ok && allB j (pcOk m.word o.pieces) && rngOk m.word o.pieces j
  have hT : opTaken m ok s i = if allB o.pieces.length R then (if o.kind = 1 ∧ ¬ (ok && allB o.pieces.length (pcOk m.word o.pieces) && (inR o.bank 0 (m.banks.length - 1) && decide (o.scale = 0))) = true then 0 else takenN o.pieces o.pieces.length) else 0 := by unfold opTaken; rw [ho]
  have hO : opOk m s i = (allB o.pieces.length (pcOk m.word o.pieces) && kindOk m s i) := by unfold opOk; rw [ho]
  refine Loop.nat (fun j => { e := [(0, .ptr 0 0), (2, .pv (.int .i64 i)), (4, .ptr 1 0), (6, .pv (.int .u64 (takenN o.pieces j : Nat))), (7, .ptr 2 0), (20, .pv (.lst 2 (o.pieces.map Piece.pv))), (21, .pv (.int .i64 o.pieces.length)), (22, .pv (.int .i64 j))], h := [(0, cbox m (ok && allB j (pcOk m.word o.pieces))), (1, s.bx), (2, o.bx)], nx := 3 }) o.pieces.length (fun j => allB j R = true) (by simp [cbox, Ins_.bx, Opnd.bx]) (by simp) (by simp [cbox, takenN, Ins_.bx, Opnd.bx]) fun j hj hinv => ?_
  by_cases hlt : j < o.pieces.length
  · have hw1 : IntKind.i64.wrap ((j : Int) + 1) = (j : Int) + 1 := wrap_nat (by omega) (by omega)
    simp [hlt, cbox]
    refine DCallNext.pure (p_machine_within gl _ _ _) ?_
    simp
    refine DCallNext.obs' [0] (p_checker_must gl m _ [_, _, _]) rfl (by simp) (by simp) (by simp [bools]; exact ⟨rfl, rfl, rfl⟩) (by simp) (by simp [cbox]; rfl) ?_
    simp [cbox]
    refine ⟨fun hno => ?_, fun g1 g2 g3 g4 g5 => ?_⟩
    · have hRj : R j = false := by
        rw [Bool.eq_false_iff]; intro h
        simp only [R, Bool.and_eq_true, rngOk] at h
        obtain ⟨⟨h1, h2⟩, h3, h4⟩ := h
        have hww := hw h1
        have h3' : 1 ≤ (gt o.pieces (j : Nat)).len ∧ (gt o.pieces (j : Nat)).len ≤ 8 * m.word := by simpa [inR] using h3
        have h4' : 0 ≤ (gt o.pieces (j : Nat)).at_ ∧ (gt o.pieces (j : Nat)).at_ ≤ 8 * m.word - (gt o.pieces (j : Nat)).len := by simpa [inR] using h4
        rw [wrap_i64 (n := 8 * m.word) (by omega) (by omega), wrap_i64 (by omega) (by omega), h3, h1, h2] at hno
        simp at hno
        omega
      have hf := allB_false hlt hRj
      have hf2 : (ok && opOk m s i) = false := by
        rw [Bool.eq_false_iff]; intro h
        rw [hO] at h
        simp only [Bool.and_eq_true] at h
        have h4 := allB_true.1 h.2.1
        have h5 : R j = true := by
          have := h4 j hlt
          simp only [pcOk, Bool.and_eq_true] at this
          simp only [R, h.1, this.1, Bool.and_true, Bool.true_and]
          exact allB_true.2 fun k hk => h4 k (by omega)
        rw [hRj] at h5; simp at h5
      rw [hT, if_neg (by simp [hf]), hf2]
      refine ⟨rfl, [0], ?_⟩
      simp
      intro a1 a2 a3 a4
      rcases hno with (h | h) | h | h | h
      · simp [a1] at h
      · simp [a2] at h
      · simp [a3] at h
      · omega
      · exact h
    · have hww := hw g1
      have e8 : IntKind.i64.wrap (8 * m.word) = 8 * m.word := wrap_i64 (by omega) (by omega)
      rw [e8] at g3 g5
      have hA : 1 ≤ (gt o.pieces (j : Nat)).len ∧ (gt o.pieces (j : Nat)).len ≤ 8 * m.word := by simpa [inR] using g3
      rw [wrap_i64 (by omega) (by omega)] at g5
      have hR : ∀ k, k < j → rngOk m.word o.pieces k = true := fun k hk => by have := allB_true.1 hinv k hk; simp only [R, Bool.and_eq_true] at this; exact this.2
      have hrj : rngOk m.word o.pieces j = true := by simp [rngOk, g3]; simp [inR, g4, g5]
      have ht := takenN_lt hww j hR
      have ht2 := takenN_lt hww (j + 1) fun k hk => by rcases Nat.lt_or_eq_of_le (Nat.le_of_lt_succ hk) with hk | rfl; exact hR k hk; exact hrj
      have hpm : pmask (gt o.pieces (j : Nat)) < 2 ^ 32 := pmask_lt (word := m.word) hww g3 (by simp [inR, g4, g5])
      refine DCallNext.pure (p_bits_Mask gl _) ?_
      simp
      rw [shl_mask hww hA ⟨g4, g5⟩, and_u64 (by omega) (by omega)]
      refine ⟨g4, CallNext.obs [0] (p_checker_must gl m _ [_]) (by simp) (by simp) (by simp [bools]; rfl) (by simp [cbox]; rfl) fun _ => ?_⟩
      have hRj : R j = true := by simp [R, g1, g2, hrj]
      have hpj : pcOk m.word o.pieces j = decide (takenN o.pieces j &&& pmask (gt o.pieces (j : Nat)) = 0) := by simp [pcOk, hrj]
      have hwl : inR (gt o.pieces (j : Nat)).len 1 (8 * m.word) = true := g3
      simp [cbox, hlt, hw1, or_u64 (show takenN o.pieces j < 2 ^ 64 by omega) (show pmask (gt o.pieces (j : Nat)) < 2 ^ 64 by omega), allB_succ, hinv, hRj, hpj, takenN, g1, g2, e8, hwl, g4, Ins_.bx, Opnd.bx, wrap_i64 (n := 8 * m.word - (gt o.pieces (j : Nat)).len) (by omega) (by omega), g5]
  · obtain rfl : j = o.pieces.length := by omega
    rw [if_pos hinv] at hT
    have hfield : ok = true → allB o.pieces.length (pcOk m.word o.pieces) = true → 0 ≤ fieldI o ∧ fieldI o ≤ 16000 := fun h1 h2 => by
      have := fieldN_le (hw h1) o.pieces.length hp fun k hk => by have := allB_true.1 h2 k hk; simp only [pcOk, Bool.and_eq_true] at this; exact this.1
      unfold fieldI; omega
    by_cases hk1 : o.kind = 1
    · simp [cbox, hk1, Opnd.bx]
      refine DCallNext.pure (p_machine_within gl _ _ _) ?_
      simp
      rw [wrap_i64 (by omega) (by omega)]
      refine DCallNext.obs' [0] (p_checker_must gl m _ [_, _]) rfl (by simp) (by simp) (by simp [bools]; exact ⟨rfl, rfl⟩) (by simp) (by simp [cbox]; rfl) ?_
      simp [cbox]
      have hkd : kindOk m s i = (inR o.bank 0 (m.banks.length - 1) && decide (o.scale = 0) &&
          if o.tied = -1 then decide (0 < fieldI o) && (decide (6 < fieldI o) || decide (((gt m.banks o.bank).regs.length : Int) ≤ 2 ^ (fieldI o).toNat))
          else inR o.tied 0 (i - 1) && decide (o.pieces.length = 0) && (let t := gt s.operands o.tied; decide (t.kind = 1) && decide (t.bank = o.bank) && decide (t.tied = -1))) := by simp only [kindOk, ho, hk1, if_true]
      refine ⟨fun hno => ?_, fun a1 a2 a3 a4 => ?_⟩
      · have hX : (ok && allB o.pieces.length (pcOk m.word o.pieces) && (inR o.bank 0 (m.banks.length - 1) && decide (o.scale = 0))) = false := by
          rw [Bool.eq_false_iff]; intro h
          simp only [Bool.and_eq_true, decide_eq_true_eq] at h
          obtain ⟨⟨h1, h2⟩, h3, h4⟩ := h
          rcases hno with (h | h) | h | h
          · simp [h1] at h
          · simp [h2] at h
          · simp [h3] at h
          · exact h h4
        have hz : opTaken m ok s i = 0 := by rw [hT, if_pos ⟨hk1, by simp [hX]⟩]
        have hY : (ok && opOk m s i) = false := by
          rw [Bool.eq_false_iff] at hX ⊢
          intro h; apply hX
          rw [hO, hkd] at h
          simp only [Bool.and_eq_true] at h ⊢
          exact ⟨⟨h.1, h.2.1⟩, h.2.2.1⟩
        rw [hz, hY, hX]
        exact ⟨rfl, [0], by simp⟩
      · have hz : opTaken m ok s i = takenN o.pieces o.pieces.length := by rw [hT, if_neg]; rintro ⟨-, h⟩; apply h; simp [a1, a2, a3, a4]
        have hfl := hfield a1 a2
        subst a1
        have a3' : 0 ≤ o.bank ∧ o.bank ≤ (m.banks.length : Int) - 1 := by simpa [inR] using a3
        have hbne : m.banks ≠ [] := by intro h; simp [h] at a3'; omega
        have hone : s.operands ≠ [] := by intro h; simp [h] at hi
        refine ⟨fun htd => ?_, fun htd => ?_⟩
        · refine CallNext.pure (by have := p_machine_field gl o; rw [Opnd.pv_eq, hk1] at this; exact this) fun hwf2 => ?_
          simp [hbne]
          refine ⟨⟨by omega, by omega⟩, by omega, ?_⟩
          refine DCallNext.obs' [0] (p_checker_must gl m _ [_, _]) rfl (by simp) (by simp) (by simp [bools]; exact ⟨rfl, rfl⟩) (by simp) (by simp [cbox]; rfl) ?_
          simp [cbox, hz, hO, hkd, htd, a2, a3, a4]
          refine ⟨[0], ?_⟩
          simp
          by_cases h6 : fieldI o ≤ 6
          · have hs1 := shl_one (fieldI o).toNat (by omega)
            rw [Int.toNat_of_nonneg (by omega)] at hs1
            rw [hs1]
          · simp [show 6 < fieldI o by omega]
        · refine DCallNext.pure (p_machine_within gl _ _ _) ?_
          simp
          rw [wrap_i64 (by omega) (by omega)]
          refine DCallNext.obs' [0] (p_checker_must gl m _ [_, _]) rfl (by simp) (by simp) (by simp [bools]; exact ⟨rfl, rfl⟩) (by simp) (by simp [cbox]; rfl) ?_
          simp [cbox, a2, a3, a4, hone]
          refine ⟨fun b1 b2 => ?_, fun hno => ?_⟩
          · have b1' : 0 ≤ o.tied ∧ o.tied ≤ (i : Int) - 1 := by simpa [inR] using b1
            simp [Ins_.bx, Opnd.bx, hone, hk1, show 0 ≤ o.tied by omega, show o.tied < (s.operands.length : Int) by omega]
            refine CallNext.obs [0] (p_checker_must gl m _ [_, _, _]) (by simp) (by simp) (by simp [bools]; exact ⟨rfl, rfl, rfl⟩) (by simp [cbox]; rfl) fun _ => ?_
            simp [cbox, hz, hO, hkd, htd, a2, a3, a4, b1, b2]
            refine ⟨[0], ?_⟩
            simp
            ac_rfl
          · simp [cbox, hz, hO, hkd, htd, a2, a3, a4]
            refine ⟨[0], ?_⟩
            simp
            exact fun b1 b2 => absurd b2 (hno b1)
    · by_cases hk2 : o.kind = 2 ∨ o.kind = 3 ∨ o.kind = 4
      · have hT' : opTaken m ok s i = takenN o.pieces o.pieces.length := by rw [hT, if_neg fun h => hk1 h.1]
        have hkd : kindOk m s i = (decide (o.bank = 0) && decide (o.tied = -1) && inR o.scale 0 3 && decide (0 < fieldI o) && decide (fieldI o + o.scale ≤ m.address)) := by simp only [kindOk, ho, hk1, if_false, hk2, if_true]
        rw [hT']
        rcases hk2 with hk2 | hk2 | hk2
        all_goals
          simp [cbox, hk2, Opnd.bx]
          refine CallNext.pure (by have := p_machine_field gl o; rw [Opnd.pv_eq, hk2] at this; exact this) fun hwf2 => ?_
          simp
          refine DCallNext.pure (p_machine_within gl _ _ _) ?_
          simp
          refine DCallNext.obs' [0] (p_checker_must gl m _ [_, _, _, _, _]) rfl (by simp) (by simp) (by simp [bools]; exact ⟨rfl, rfl, rfl, rfl, rfl⟩) (by simp) (by simp [cbox]; rfl) ?_
          simp [cbox, hO, hkd]
          refine ⟨[0], ?_⟩
          simp
          by_cases hA : ok = true ∧ allB o.pieces.length (pcOk m.word o.pieces) = true
          · have hfl := hfield hA.1 hA.2
            by_cases hsc : inR o.scale 0 3 = true
            · rw [wrap_i64 (by simp [inR] at hsc; omega) (by simp [inR] at hsc; omega)]
              simp [hA.1, hA.2, hsc]
              ac_rfl
            · simp [hsc]
          · rw [Bool.eq_iff_iff]
            simp only [Bool.and_eq_true]
            exact ⟨fun h => absurd h.1 hA, fun h => absurd ⟨h.1, h.2.1⟩ hA⟩
      · have hk : o.kind ≠ 2 ∧ o.kind ≠ 3 ∧ o.kind ≠ 4 := by omega
        have hT' : opTaken m ok s i = takenN o.pieces o.pieces.length := by rw [hT, if_neg fun h => hk1 h.1]
        have hkd : kindOk m s i = false := by simp only [kindOk, ho, hk1, if_false, hk2]
        simp [cbox, hk1, hk, Opnd.bx]
        refine CallNext.obs [0] (p_checker_must gl m _ [_]) (by simp) (by simp) (by simp [bools]; rfl) (by simp [cbox]; rfl) fun _ => ?_
        simp [cbox, hT', hO, hkd]
        exact ⟨[0], by simp⟩
end Go.Proofs.YtbghfliffomfdaaGreatDoorV

/- Contracts: layer 8 of the program: limits, terms of effects. -/
namespace Go.Proofs.YtbghfliffomfdaaGreatDoorV
open Go
set_option maxRecDepth 100000
set_option maxHeartbeats 4000000

theorem all_take1 {α : Type} [Inhabited α] {l : List α} {i : Nat} (h : i < l.length) (p : α → Bool) : (l.take (i + 1)).all p = ((l.take i).all p && p (gt l (i : Nat))) := by
  rw [gt_nat h, List.take_succ_eq_append_getElem h, List.all_append]; simp
def insSmall (s : Ins_) : Bool := decide (s.operands.length ≤ 4) && decide (s.effects.length ≤ 4) && s.operands.all fun o => decide (o.pieces.length ≤ 4)
theorem p_fewer (gl : Glob) (k n : Nat) : PCall Tryz.prog gl 78 [.pv (.int .i64 (k : Nat)), .flit 1 [.int .i64 n]] (.pv (.bool (decide (n ≤ k)))) := by
  have h : decide (n ≤ k) = decide (max (n : Int) 0 ≤ (k : Nat)) := by by_cases h1 : n ≤ k <;> simp [h1] <;> omega
  rw [h]; exact p_machine_fewer gl _ _
theorem p_machine_small (gl : Glob) (m : Mach) : PCall Tryz.prog gl 58 [.pv m.pv] (.pv (.bool (inLimits m))) := by
  refine k_machine_small.pcall (by simp) (by simp) (by simp) fun hwf => ?_
  have hb := hwf (.pv m.pv) (by simp)
  simp only [DV.wf] at hb; rw [Mach.wf_pv] at hb; simp [-Mach.fold, maxLen] at hb
  obtain ⟨-, -, -, -, ⟨hb1, -⟩, -, ⟨hb2, hb3⟩⟩ := hb
  let A : Bool := decide (m.regs.length ≤ 64) && decide (m.banks.length ≤ 16) && decide (m.units.length ≤ 8) && decide (m.instrs.length ≤ 64)
  let B : Bool := m.banks.all (fun b => decide (b.regs.length ≤ 64))
  simp [c_machine_small]
  refine CallNext.pure (p_fewer gl 64 _) fun _ => ?_
  simp
  refine ⟨_, by intros; exact .of (p_fewer gl 16 _), by simp, ?_⟩
  simp
  refine ⟨_, by intros; exact .of (p_fewer gl 8 _), by simp, ?_⟩
  simp
  refine ⟨_, by intros; exact .of (p_fewer gl 64 _), by simp, ?_⟩
  simp
  refine Loop.nat (fun i => { e := [(1, .ptr 0 0), (3, .pv (.bool (A && (m.banks.take i).all (fun b => decide (b.regs.length ≤ 64))))), (37, .pv (.lst 2 (m.banks.map Bank.pv))), (38, .pv (.int .i64 m.banks.length)), (39, .pv (.int .i64 i))], h := [(0, m.bx)], nx := 1 }) m.banks.length (fun _ => True) (by simp [Mach.bx]) (by simp) (by simp [Mach.bx, A]) fun i hi hinv => ?_
  by_cases hlt : i < m.banks.length
  · simp [hlt, wrap_nat (show (0:Int) ≤ i + 1 by omega) (by omega), Mach.bx]
    refine ⟨_, by intros; exact .of (p_fewer gl 64 _), by simp, ?_⟩
    simp [hlt, wrap_nat (show (0:Int) ≤ i + 1 by omega) (by omega), all_take1 hlt, Bool.and_assoc]
  obtain rfl : i = m.banks.length := by omega
  simp [Mach.bx]
  refine Loop.nat (fun i => { e := [(3, .pv (.bool (A && B && (m.instrs.take i).all insSmall))), (53, .pv (.lst 9 (m.instrs.map Ins_.pv))), (54, .pv (.int .i64 m.instrs.length)), (55, .pv (.int .i64 i))], h := [(0, m.bx)], nx := 1 }) m.instrs.length (fun _ => True) (by simp [Mach.bx]) (by simp) (by simp [Mach.bx, B]) fun i hi hinv => ?_
  by_cases hlt : i < m.instrs.length
  · have hb4 : (gt m.instrs (i : Nat)).operands.length ≤ 9223372036854775807 := by
      have := hb3 _ (gt_mem (i := (i : Nat)) (by omega) (by omega))
      rw [Ins_.wf_pv] at this; simp [-Ins_.fold, maxLen] at this
      exact this.2.2.2.1.1
    simp [hlt, Mach.bx]
    generalize hs : gt m.instrs (i : Nat) = s at *
    refine ⟨_, by intros; exact .of (p_fewer gl 4 _), by simp, ?_⟩
    simp
    refine ⟨_, by intros; exact .of (p_fewer gl 4 _), by simp, ?_⟩
    simp
    refine Loop.nat (fun k => { e := [(3, .pv (.bool (A && B && (m.instrs.take i).all insSmall && decide (s.operands.length ≤ 4) && decide (s.effects.length ≤ 4) && (s.operands.take k).all fun o => decide (o.pieces.length ≤ 4)))), (53, .pv (.lst 9 (m.instrs.map Ins_.pv))), (54, .pv (.int .i64 m.instrs.length)), (55, .pv (.int .i64 i)), (75, .pv (.lst 6 (s.operands.map Opnd.pv))), (76, .pv (.int .i64 s.operands.length)), (77, .pv (.int .i64 k))], h := [(0, m.bx), (1, s.bx)], nx := 2 }) s.operands.length (fun _ => True) (by simp [Mach.bx, Ins_.bx]) (by simp) (by simp [Mach.bx, Ins_.bx]) fun k hk hinv => ?_
    by_cases hkt : k < s.operands.length
    · simp [hkt, Mach.bx, Ins_.bx]
      refine ⟨_, by intros; exact .of (p_fewer gl 4 _), by simp, ?_⟩
      simp [hkt, wrap_nat (show (0:Int) ≤ k + 1 by omega) (by omega), all_take1 hkt, Bool.and_assoc]
    · obtain rfl : k = s.operands.length := by omega
      simp [hlt, wrap_nat (show (0:Int) ≤ i + 1 by omega) (by omega), all_take1 hlt, Bool.and_assoc, hs, insSmall, Mach.bx, Ins_.bx]
  · obtain rfl : i = m.instrs.length := by omega
    simp [inLimits, A, B]
    rfl
theorem p_machine_none (gl : Glob) (l : List Tm) : PCall Tryz.prog gl 98 [.pv (.lst 6 (l.map Tm.pv))] (.pv (.bool (l.all noneB))) := by
  refine k_machine_none.pcall (by simp) (by simp) (by simp) fun hwf => ?_
  have hb : l.length ≤ 9223372036854775807 := by have := hwf (.pv (.lst 6 (l.map Tm.pv))) (by simp); simp [maxLen] at this; exact this.1
  simp [c_machine_none]
  refine Loop.nat (fun i => { e := [(5, .pv (.lst 6 (l.map Tm.pv))), (6, .pv (.int .i64 l.length)), (7, .pv (.int .i64 i))], h := [], nx := 0 }) l.length (fun i => (l.take i).all noneB = true) (by simp) (by simp) (by simp) fun i hi hinv => ?_
  by_cases hlt : i < l.length
  · simp [hlt, wrap_nat (show (0:Int) ≤ i + 1 by omega) (by omega)]
    have hx : noneB (gt l (i : Nat)) = true ↔ (((((gt l (i : Nat)).op = 0 ∧ (gt l (i : Nat)).width = 0) ∧ (gt l (i : Nat)).val = 0) ∧ (gt l (i : Nat)).name = ⟨#[]⟩) ∧ (gt l (i : Nat)).low = 0) ∧ (gt l (i : Nat)).sub = [] := by
      simp only [noneB, Bool.and_eq_true, decide_eq_true_eq, List.length_eq_zero_iff]
    have ht := all_take1 hlt noneB
    rw [hinv, Bool.true_and] at ht
    refine ⟨fun h => ⟨_, gt_mem (i := (i : Nat)) (by omega) (by omega), ?_⟩, fun a b c d e f => ?_⟩
    · rw [Bool.eq_false_iff]; intro hn
      obtain ⟨⟨⟨⟨⟨a, b⟩, c⟩, d⟩, e⟩, f⟩ := hx.1 hn
      simp [a, b, c, d, e, f] at h
    · rw [← List.all_eq_true, ht, hx]
      exact ⟨⟨⟨⟨⟨a, b⟩, c⟩, d⟩, e⟩, f⟩
  · obtain rfl : i = l.length := by omega
    simp at hinv
    simp
    exact hinv

/-- The widths of an instruction's variables, as 'variables' lays them down. -/
def regVars (m : Mach) (n : Nat) : NV := (m.regs.take n).foldl (fun a r => putV a (rname r.name) r.width) [(pc, m.address)]
def insVarsN (m : Mach) (s : Ins_) (n : Nat) : NV := (s.operands.take n).foldl (fun a o => putV a o.name (wideI m o)) (regVars m m.regs.length)
def insVars (m : Mach) (s : Ins_) : NV := insVarsN m s s.operands.length
theorem regVars_succ {m : Mach} {i : Nat} (h : i < m.regs.length) : regVars m (i + 1) = putV (regVars m i) (rname (gt m.regs (i : Nat)).name) (gt m.regs (i : Nat)).width := by
  rw [regVars, List.take_succ_eq_append_getElem h, List.foldl_append, gt_nat h]; rfl
theorem insVars_succ {m : Mach} {s : Ins_} {i : Nat} (h : i < s.operands.length) : insVarsN m s (i + 1) = putV (insVarsN m s i) (gt s.operands (i : Nat)).name (wideI m (gt s.operands (i : Nat))) := by
  rw [insVarsN, List.take_succ_eq_append_getElem h, List.foldl_append, gt_nat h]; rfl
theorem nm_vmap (s : NV) (n : Nat) : (Ob.mp (vmap s)).nm fun i => i < n := fun x hx => by simp only [vmap, List.mem_map] at hx; obtain ⟨y, -, rfl⟩ := hx; simp
@[simp] theorem nm_vmap' {s : NV} {p : Nat → Prop} : (∀ (a : PV) (b : DV), (a, b) ∈ vmap s → DV.nm p b) ↔ True := ⟨fun _ => trivial, fun _ a b h => by simp only [vmap, List.mem_map, Prod.mk.injEq] at h; obtain ⟨y, -, -, rfl⟩ := h; simp⟩
@[simp] theorem ren_vmap {s : NV} {f : Nat → Nat} : (vmap s).map (fun x => (x.fst, DV.ren f x.snd)) = vmap s := by
  simp [vmap, DV.ren]
theorem bel_vmap (s : NV) (n : Nat) : (Ob.mp (vmap s)).bel n := fun x hx => by simp only [vmap, List.mem_map] at hx; obtain ⟨y, -, rfl⟩ := hx; simp
/-- What 'wide' asks. -/
def wideOk (m : Mach) (o : Opnd) : Prop := o.kind = 1 → (0 ≤ o.bank ∧ o.bank < m.banks.length) ∧ (gt m.banks o.bank).regs ≠ [] ∧ 0 ≤ gt (gt m.banks o.bank).regs 0 ∧ gt (gt m.banks o.bank).regs 0 < m.regs.length
theorem p_checker_variables (gl : Glob) (m : Mach) (ok : Bool) (s : Ins_) (hl : m.regs.length ≤ 500) (hn : ∀ r ∈ m.regs, r.name.size ≤ 1000) (hs : s.operands.length ≤ 500) (hw : ∀ o ∈ s.operands, wideOk m o) :
    ACall Tryz.prog gl (.func 82) 1 [.ptr 0 0, .pv s.pv] [(0, cbox m ok)] (.mref 2) [(0, cbox m ok), (2, .mp (vmap (insVars m s)))] 3 := by
  refine k_machine_checker_variables.acall (by simp) (by simp) (by simp) (by simp [cbox]) (by simp) (by simp [cbox]) fun hwf => ?_
  simp [c_machine_checker_variables, cbox]
  have hk : ∀ (n : ByteArray) (s : NV), keysOk 2 (.str n) (vmap s) := fun n s => keysOk_vmap
  refine ⟨hk pc [], ?_⟩
  refine Loop.nat (fun i => { e := [(0, .ptr 0 0), (3, .ptr 1 0), (5, .mref 2), (21, .pv (.lst 4 (m.regs.map Reg.pv))), (22, .pv (.int .i64 m.regs.length)), (23, .pv (.int .i64 i))], h := [(0, cbox m ok), (1, s.bx), (2, .mp (vmap (regVars m i)))], nx := 3 }) m.regs.length (fun _ => True) (by simp [cbox, Ins_.bx]) (by simp) (by simp [cbox, Ins_.bx, regVars, vmap, pc]) fun i hi hinv => ?_
  by_cases hlt : i < m.regs.length
  · simp [hlt, hk, cbox, Ins_.bx, wrap_nat (show (0:Int) ≤ i + 1 by omega) (by omega), regVars_succ hlt, rname, rdot]
    have := hn _ (gt_mem (l := m.regs) (i := (i : Nat)) (by omega) (by omega))
    have h2 : (⟨#[114, 46]⟩ : ByteArray).size = 2 := rfl
    rw [h2]; unfold maxLen; omega
  obtain rfl : i = m.regs.length := by omega
  simp [cbox, Ins_.bx]
  refine Loop.nat (fun i => { e := [(0, .ptr 0 0), (5, .mref 2), (35, .pv (.lst 6 (s.operands.map Opnd.pv))), (36, .pv (.int .i64 s.operands.length)), (37, .pv (.int .i64 i))], h := [(0, cbox m ok), (1, s.bx), (2, .mp (vmap (insVarsN m s i)))], nx := 3 }) s.operands.length (fun _ => True) (by simp [cbox, Ins_.bx]) (by simp) (by simp [cbox, Ins_.bx, insVarsN]) fun i hi hinv => ?_
  by_cases hlt : i < s.operands.length
  · simp [hlt, cbox, Ins_.bx]
    refine DCallNext.pure (p_machine_wide gl m (gt s.operands (i : Nat)) (hw _ (gt_mem (by omega) (by omega)))) ?_
    simp [hlt, hk, wrap_nat (show (0:Int) ≤ i + 1 by omega) (by omega), insVars_succ hlt]
  · obtain rfl : i = s.operands.length := by omega
    simp [cbox, Ins_.bx]
    exact ⟨[0, 2], by simp [insVars]⟩

/-- A valid term's leaves: variables have their widths, loads the address's. -/
def leafB (a : Int) (V : NV) (x : Tm) : Bool := if x.op = 2 then decide ((lookV V x.name).getD 0 = x.width) else if x.op = 24 then decide ((gt x.sub 0).width = a) else true
mutual
def leavesB (a : Int) (V : NV) : Tm → Bool
  | ⟨o, w, v, n, l, ts⟩ => leafB a V ⟨o, w, v, n, l, ts⟩ && leavesL a V ts
def leavesL (a : Int) (V : NV) : List Tm → Bool
  | [] => true
  | t :: r => leavesB a V t && leavesL a V r
end
theorem leavesL_eq {a : Int} {V : NV} : ∀ {l : List Tm}, leavesL a V l = l.all (leavesB a V)
  | [] => rfl
  | t :: r => by rw [leavesL, leavesL_eq, List.all_cons]
theorem leavesB_eq {a : Int} {V : NV} {t : Tm} : leavesB a V t = (leafB a V t && t.sub.all (leavesB a V)) := by cases t; rw [leavesB, leavesL_eq]
mutual
/-- Every load has a part. -/
def Tm.loadsOk : Tm → Bool
  | ⟨o, _, _, _, _, ts⟩ => (!decide (o = 24) || !decide (ts.length = 0)) && Tm.loadsOkL ts
def Tm.loadsOkL : List Tm → Bool
  | [] => true
  | t :: r => t.loadsOk && Tm.loadsOkL r
end
theorem Tm.loadsOkL_eq : ∀ {l : List Tm}, Tm.loadsOkL l = l.all Tm.loadsOk
  | [] => rfl
  | t :: r => by rw [Tm.loadsOkL, Tm.loadsOkL_eq, List.all_cons]
theorem Tm.loadsOk_eq {t : Tm} : t.loadsOk = ((!decide (t.op = 24) || !decide (t.sub.length = 0)) && t.sub.all Tm.loadsOk) := by cases t; rw [Tm.loadsOk, Tm.loadsOkL_eq]
theorem p_checker_leaves (gl : Glob) (m : Mach) (V : NV) (n : Nat) : ∀ (ok : Bool) (t : Tm), SizeOf.sizeOf t < n → t.loadsOk = true →
    ACall Tryz.prog gl (.func 102) 2 [.ptr 0 0, .mref 1, .pv t.pv] [(0, cbox m ok), (1, .mp (vmap V))] (.tup []) [(0, cbox m (ok && leavesB m.address V t)), (1, .mp (vmap V))] 2 := by
  induction n with
  | zero => intro ok t h; omega
  | succ n ih =>
  intro ok t hn hlo
  refine k_machine_checker_leaves.acall (by simp) (by simp) (by simp) (by simp [cbox]) (by simp) (by simp [cbox]) fun hwf => ?_
  have hb := Tm.wf_sub (by simpa using hwf)
  have hk : ∀ (n : ByteArray) (s : NV), keysOk 2 (.str n) (vmap s) := fun n s => keysOk_vmap
  rw [Tm.loadsOk_eq] at hlo
  simp only [Bool.and_eq_true, Bool.or_eq_true, Bool.not_eq_true', decide_eq_false_iff_not, List.length_eq_zero_iff] at hlo
  have hB := @leavesB_eq m.address V t
  have hc : t.op = 2 ∨ t.op = 24 ∨ (t.op ≠ 2 ∧ t.op ≠ 24) := by omega
  rcases hc with h | h | ⟨h, h'⟩
  simp [c_machine_checker_leaves, cbox, h, hk]
  refine CallNext.obs [0] (p_checker_must gl m _ [_]) (by simp) (by simp) (by simp [bools]; rfl) (by simp [cbox]; rfl) fun _ => ?_
  rotate_left
  have hne : t.sub ≠ [] := by rcases hlo.1 with h1 | h1; exact absurd h h1; exact h1
  simp [c_machine_checker_leaves, cbox, h, hk, hne, List.length_pos_iff]
  refine DCallNext.obs' [0] (p_checker_must gl m _ [_]) rfl (by simp) (by simp) (by simp [bools]; rfl) (by simp) (by simp [cbox]; rfl) ?_
  rotate_left
  simp [c_machine_checker_leaves, cbox, h, h', hk]
  all_goals
    try simp [cbox]
    refine Loop.nat (fun i => { e := [(0, .ptr 0 0), (1, .mref 1), (39, .pv (.lst 6 (t.sub.map Tm.pv))), (40, .pv (.int .i64 t.sub.length)), (41, .pv (.int .i64 i))], h := [(0, cbox m (ok && leafB m.address V t && (t.sub.take i).all (leavesB m.address V))), (1, .mp (vmap V)), (2, t.bx)], nx := 3 }) t.sub.length (fun _ => True) (by simp [cbox]) (by simp) (by simp [cbox, Tm.bx, leafB, h] <;> exact fun _ => .inl ‹_›) fun i hi hinv => ?_
    by_cases hlt : i < t.sub.length
    · simp [cbox, Tm.bx, hlt]
      refine CallNext.obs [0, 1] (ih _ (gt t.sub (i : Nat)) (by have := Tm.size_gt hlt; omega) (by have := List.all_eq_true.1 hlo.2; exact this _ (gt_mem (by omega) (by omega)))) (by simp) (by simp) (by simp) (by simp [cbox]; rfl) fun _ => ?_
      simp [hlt, cbox, Tm.bx, wrap_nat (show (0:Int) ≤ i + 1 by omega) (by omega), all_take1 hlt, Bool.and_assoc]
    · obtain rfl : i = t.sub.length := by omega
      simp [cbox, Tm.bx, hB, Bool.and_assoc]
      exact ⟨[0, 1], by simp⟩
end Go.Proofs.YtbghfliffomfdaaGreatDoorV

/- Contracts: layer 8 of the program: effects. -/
namespace Go.Proofs.YtbghfliffomfdaaGreatDoorV
open Go
set_option maxRecDepth 100000
set_option maxHeartbeats 4000000

theorem Tm.formed_loads (n : Nat) : ∀ t : Tm, SizeOf.sizeOf t < n → t.formed = true → t.loadsOk = true := by
  induction n with
  | zero => intro t h; omega
  | succ n ih =>
  intro t hn h
  rw [Tm.formed_eq, Bool.and_eq_true, Tm.formedL_eq] at h
  rw [Tm.loadsOk_eq, Bool.and_eq_true]
  refine ⟨?_, List.all_eq_true.2 fun u hu => ?_⟩
  · by_cases h24 : t.op = 24
    · have := h.2
      simp only [Tm.okNode, h24, Bool.and_eq_true] at this
      simp at this
      simp [h24]
      intro hn; simp [hn] at this
    · simp [h24]
  · obtain ⟨i, hi, rfl⟩ := List.getElem_of_mem hu
    have h1 := Tm.size_gt hi
    rw [gt_nat hi] at h1
    exact ih _ (by omega) (List.all_eq_true.1 h.1 _ hu)
theorem Tm.check_loads {t : Tm} (h : t.check = 0) : t.loadsOk = true := by
  refine Tm.formed_loads _ t (Nat.lt_succ_self _) ?_
  rw [Tm.check_eq] at h
  split at h
  · omega
  · split at h
    · assumption
    · omega
def fitB (m : Mach) (V : NV) (t : Tm) : Bool := decide (t.check = 0) && leavesB m.address V t
theorem p_checker_fits (m : Mach) (V : NV) (ok : Bool) (l : List Tm) (hs : ∀ t ∈ l, t.nodes < 2 ^ 40 ∧ t.depth < 2 ^ 40) :
    ACall Tryz.prog glob (.func 97) 2 [.ptr 0 0, .mref 1, .pv (.lst 6 (l.map Tm.pv))] [(0, cbox m ok), (1, .mp (vmap V))] (.tup []) [(0, cbox m (ok && l.all (fitB m V))), (1, .mp (vmap V))] 2 := by
  refine k_machine_checker_fits.acall (by simp) (by simp) (by simp) (by simp [cbox]) (by simp) (by simp [cbox]) fun hwf => ?_
  have hb : l.length ≤ 9223372036854775807 := by have := hwf (.pv (.lst 6 (l.map Tm.pv))) (by simp); simp [maxLen] at this; exact this.1
  simp [c_machine_checker_fits, cbox]
  refine Loop.nat (fun i => { e := [(0, .ptr 0 0), (1, .mref 1), (8, .pv (.lst 6 (l.map Tm.pv))), (9, .pv (.int .i64 l.length)), (10, .pv (.int .i64 i))], h := [(0, cbox m (ok && (l.take i).all (fitB m V))), (1, .mp (vmap V))], nx := 2 }) l.length (fun _ => True) (by simp [cbox]) (by simp) (by simp [cbox]) fun i hi hinv => ?_
  by_cases hlt : i < l.length
  · have hm := gt_mem (l := l) (i := (i : Nat)) (by omega) (by omega)
    simp [cbox, hlt]
    refine CallNext.pure (p_term_Check _ (hs _ hm).1 (hs _ hm).2) fun _ => ?_
    simp
    refine CallNext.obs [0] (p_checker_must glob m _ [_]) (by simp) (by simp) (by simp [bools]; rfl) (by simp [cbox]; rfl) fun _ => ?_
    simp [cbox]
    refine ⟨fun hno => ?_, fun h1 h2 h3 => ?_⟩
    · refine ⟨[0, 1], ?_⟩
      simp
      rw [Bool.eq_iff_iff]
      simp only [Bool.and_eq_true, List.all_eq_true, decide_eq_true_eq]
      constructor
      · rintro ⟨⟨h1, h2⟩, h3⟩
        rcases hno with (h | ⟨x, hx, h⟩) | h
        · simp [h1] at h
        · rw [h2 x hx] at h; simp at h
        · exact absurd h3 h
      · rintro ⟨h1, h2⟩
        refine ⟨⟨h1, fun x hx => h2 x (List.mem_of_mem_take hx)⟩, ?_⟩
        have := h2 _ hm
        simp only [fitB, Bool.and_eq_true, decide_eq_true_eq] at this
        exact this.1
    · refine CallNext.obs [0, 1] (p_checker_leaves glob m V _ _ _ (Nat.lt_succ_self _) (Tm.check_loads h3)) (by simp) (by simp) (by simp) (by simp [cbox]; rfl) fun _ => ?_
      simp [hlt, cbox, wrap_nat (show (0:Int) ≤ i + 1 by omega) (by omega), all_take1 hlt, fitB, h1, h3]
  · obtain rfl : i = l.length := by omega
    simp [cbox]
    exact ⟨[0, 1], by simp⟩

/-- What an effect asks, the program's way. -/
def effB (m : Mach) (s : Ins_) (V : NV) (x : Eff) : Bool :=
  if x.kind = 1 then fitB m V x.value && ([x.addr, x.cond].all noneB) &&
    (if x.operand = -1 ∧ inR x.reg 0 (m.regs.length - 1) = true then decide (x.value.width = (gt m.regs x.reg).width)
     else if x.reg = 0 ∧ inR x.operand 0 (s.operands.length - 1) = true then decide ((gt s.operands x.operand).kind = 1) && decide (x.value.width = wideI m (gt s.operands x.operand))
     else false)
  else if x.kind = 2 then (decide (x.operand = 0) && decide (x.reg = 0)) && fitB m V x.value && fitB m V x.addr && noneB x.cond && decide (x.addr.width = m.address) && ([8, 16, 32, 64].any fun w => decide (x.value.width = w))
  else if x.kind = 3 then (decide (x.operand = 0) && decide (x.reg = 0)) && fitB m V x.value && noneB x.addr && decide (x.value.width = m.address) && (noneB x.cond || (fitB m V x.cond && decide (x.cond.width = 1)))
  else if x.kind = 4 then (decide (x.operand = 0) && decide (x.reg = 0)) && fitB m V x.value && ([x.addr, x.cond].all noneB)
  else false
theorem p_checker_effect (m : Mach) (V : NV) (ok : Bool) (s : Ins_) (x : Eff) (hs : ∀ t ∈ [x.addr, x.value, x.cond], t.nodes < 2 ^ 40 ∧ t.depth < 2 ^ 40) (hr : m.regs.length ≤ 500) (ho : s.operands.length ≤ 500) (hw : ∀ o ∈ s.operands, wideOk m o) :
    ACall Tryz.prog glob (.func 83) 2 [.ptr 0 0, .pv s.pv, .pv x.pv, .mref 1] [(0, cbox m ok), (1, .mp (vmap V))] (.tup []) [(0, cbox m (ok && effB m s V x)), (1, .mp (vmap V))] 2 := by
  refine k_machine_checker_effect.acall (by simp) (by simp) (by simp) (by simp [cbox]) (by simp) (by simp [cbox]) fun hwf => ?_
  have ha := hs x.addr (by simp)
  have hv := hs x.value (by simp)
  have hc := hs x.cond (by simp)
  by_cases h1 : x.kind = 1
  · simp [c_machine_checker_effect, cbox, h1]
    refine CallNext.obs [0, 1] (p_checker_fits m V _ [x.value] (by simpa using hv)) (by simp) (by simp) (by simp) (by simp [cbox]; rfl) fun _ => ?_
    simp [cbox]
    refine CallNext.pure (p_machine_none glob [x.addr, x.cond]) fun _ => ?_
    simp
    refine CallNext.obs [0] (p_checker_must glob m _ [_]) (by simp) (by simp) (by simp [bools]; rfl) (by simp [cbox]; rfl) fun _ => ?_
    simp [cbox]
    refine ⟨_, by intros; exact .of (p_machine_within glob _ _ _), by simp, ?_⟩
    rw [wrap_i64 (by omega) (by omega)]
    have hrne : inR x.reg 0 (m.regs.length - 1) = true → m.regs ≠ [] := by intro h hn; simp [hn, inR] at h; omega
    have hone : inR x.operand 0 (s.operands.length - 1) = true → s.operands ≠ [] := by intro h hn; simp [hn, inR] at h; omega
    simp
    refine ⟨fun h3 h4 => ?_, fun h3 => ?_⟩
    · have h4' : 0 ≤ x.reg ∧ x.reg ≤ (m.regs.length : Int) - 1 := by simpa [inR] using h4
      simp [hrne h4, show x.reg < (m.regs.length : Int) by omega, h4'.1]
      refine DCallNext.obs' [0] (p_checker_must glob m _ [_]) rfl (by simp) (by simp) (by simp [bools]; rfl) (by simp) (by simp [cbox]; rfl) ?_
      simp [cbox, effB, h1, h3, h4]
      refine ⟨[0, 1], ?_⟩
      simp
      ac_rfl
    · refine ⟨_, by intros; exact .of (p_machine_within glob _ _ _), by simp, ?_⟩
      rw [wrap_i64 (by omega) (by omega)]
      simp
      have h3' : ¬ (x.operand = -1 ∧ inR x.reg 0 (m.regs.length - 1) = true) := by rintro ⟨a, b⟩; simp [h3 a] at b
      refine ⟨fun h4 h5 => ?_, fun h4 => ?_⟩
      · have h5' : 0 ≤ x.operand ∧ x.operand ≤ (s.operands.length : Int) - 1 := by simpa [inR] using h5
        have hwo := hw _ (gt_mem (l := s.operands) (i := x.operand) (by omega) (by omega))
        simp [hone h5, show x.operand < (s.operands.length : Int) by omega, h5'.1]
        refine DCallNext.pure (p_machine_wide glob m _ hwo) ?_
        simp
        refine DCallNext.obs' [0] (p_checker_must glob m _ [_, _]) rfl (by simp) (by simp) (by simp [bools]; exact ⟨rfl, rfl⟩) (by simp) (by simp [cbox]; rfl) ?_
        have hE : effB m s V x = (fitB m V x.value && ([x.addr, x.cond].all noneB) && (decide ((gt s.operands x.operand).kind = 1) && decide (x.value.width = wideI m (gt s.operands x.operand)))) := by rw [effB, if_pos h1, if_neg h3', if_pos ⟨h4, h5⟩]
        simp [cbox, hE]
        refine ⟨[0, 1], ?_⟩
        simp
        ac_rfl
      · refine CallNext.obs [0] (p_checker_must glob m _ [_]) (by simp) (by simp) (by simp [bools]; rfl) (by simp [cbox]; rfl) fun _ => ?_
        have h4' : ¬ (x.reg = 0 ∧ inR x.operand 0 (s.operands.length - 1) = true) := by rintro ⟨a, b⟩; simp [h4 a] at b
        simp [cbox, effB, h1, h3', h4']
        exact ⟨[0, 1], by simp⟩
  by_cases h2 : x.kind = 2
  · simp [c_machine_checker_effect, cbox, h2]
    refine CallNext.obs [0] (p_checker_must glob m _ [_, _]) (by simp) (by simp) (by simp [bools]; exact ⟨rfl, rfl⟩) (by simp [cbox]; rfl) fun _ => ?_
    simp [cbox]
    refine CallNext.obs [0, 1] (p_checker_fits m V _ [x.value] (by simpa using hv)) (by simp) (by simp) (by simp) (by simp [cbox]; rfl) fun _ => ?_
    simp [cbox]
    refine CallNext.obs [0, 1] (p_checker_fits m V _ [x.addr] (by simpa using ha)) (by simp) (by simp) (by simp) (by simp [cbox]; rfl) fun _ => ?_
    simp [cbox]
    refine DCallNext.pure (p_machine_none glob [x.cond]) ?_
    simp
    refine DCallNext.pure (p_slices_Contains_int_int glob [8, 16, 32, 64] x.value.width) ?_
    simp
    refine DCallNext.obs' [0] (p_checker_must glob m _ [_, _, _]) rfl (by simp) (by simp) (by simp [bools]; exact ⟨rfl, rfl, rfl⟩) (by simp) (by simp [cbox]; rfl) ?_
    simp [cbox, effB, h2]
    refine ⟨[0, 1], ?_⟩
    simp
    ac_rfl
  by_cases h3 : x.kind = 3
  · simp [c_machine_checker_effect, cbox, h3]
    refine CallNext.obs [0] (p_checker_must glob m _ [_, _]) (by simp) (by simp) (by simp [bools]; exact ⟨rfl, rfl⟩) (by simp [cbox]; rfl) fun _ => ?_
    simp [cbox]
    refine CallNext.obs [0, 1] (p_checker_fits m V _ [x.value] (by simpa using hv)) (by simp) (by simp) (by simp) (by simp [cbox]; rfl) fun _ => ?_
    simp [cbox]
    refine DCallNext.pure (p_machine_none glob [x.addr]) ?_
    simp
    refine DCallNext.obs' [0] (p_checker_must glob m _ [_, _]) rfl (by simp) (by simp) (by simp [bools]; exact ⟨rfl, rfl⟩) (by simp) (by simp [cbox]; rfl) ?_
    simp [cbox]
    refine CallNext.pure (p_machine_none glob [x.cond]) fun _ => ?_
    simp
    refine ⟨fun h4 => ?_, fun h4 => ?_⟩
    · refine CallNext.obs [0, 1] (p_checker_fits m V _ [x.cond] (by simpa using hc)) (by simp) (by simp) (by simp) (by simp [cbox]; rfl) fun _ => ?_
      simp [cbox]
      refine CallNext.obs [0] (p_checker_must glob m _ [_]) (by simp) (by simp) (by simp [bools]; rfl) (by simp [cbox]; rfl) fun _ => ?_
      simp [cbox, effB, h3, h4]
      refine ⟨[0, 1], ?_⟩
      simp
      ac_rfl
    · simp [cbox, effB, h3, h4]
      refine ⟨[0, 1], ?_⟩
      simp
      ac_rfl
  by_cases h4 : x.kind = 4
  · simp [c_machine_checker_effect, cbox, h4]
    refine CallNext.obs [0] (p_checker_must glob m _ [_, _]) (by simp) (by simp) (by simp [bools]; exact ⟨rfl, rfl⟩) (by simp [cbox]; rfl) fun _ => ?_
    simp [cbox]
    refine CallNext.obs [0, 1] (p_checker_fits m V _ [x.value] (by simpa using hv)) (by simp) (by simp) (by simp) (by simp [cbox]; rfl) fun _ => ?_
    simp [cbox]
    refine CallNext.pure (p_machine_none glob [x.addr, x.cond]) fun _ => ?_
    simp
    refine CallNext.obs [0] (p_checker_must glob m _ [_]) (by simp) (by simp) (by simp [bools]; rfl) (by simp [cbox]; rfl) fun _ => ?_
    simp [cbox, effB, h4]
    refine ⟨[0, 1], ?_⟩
    simp
    ac_rfl
  · simp [c_machine_checker_effect, cbox, h1, h2, h3, h4]
    refine CallNext.obs [0] (p_checker_must glob m _ [_, _]) (by simp) (by simp) (by simp [bools]; exact ⟨rfl, rfl⟩) (by simp [cbox]; rfl) fun _ => ?_
    simp [cbox]
    refine CallNext.obs [0, 1] (p_checker_fits m V _ [x.value] (by simpa using hv)) (by simp) (by simp) (by simp) (by simp [cbox]; rfl) fun _ => ?_
    simp [cbox, h1, h2, h3, h4]
    refine CallNext.obs [0] (p_checker_must glob m _ [_]) (by simp) (by simp) (by simp [bools]; rfl) (by simp [cbox]; rfl) fun _ => ?_
    simp [cbox, effB, h1, h2, h3, h4]
    exact ⟨[0, 1], by simp⟩
end Go.Proofs.YtbghfliffomfdaaGreatDoorV

/- Contracts: layer 8 of the program: instructions. -/
namespace Go.Proofs.YtbghfliffomfdaaGreatDoorV
open Go
set_option maxRecDepth 100000
set_option maxHeartbeats 4000000

/-- Kinds and how many. -/
abbrev KV := List (Int × Int)
def lookK : KV → Int → Option Int
  | [], _ => none
  | (m, w) :: r, n => if n = m then some w else lookK r n
def putK : KV → Int → Int → KV
  | [], n, w => [(n, w)]
  | (m, v) :: r, n, w => if n = m then (n, w) :: r else (m, v) :: putK r n w
def kmap (s : KV) : List (PV × DV) := s.map fun x => (.int .u8 x.1, .pv (.int .i64 x.2))
@[simp] theorem mlook_kmap {n : Int} : ∀ {s : KV}, mlook (kmap s) (.int .u8 n) = (lookK s n).map fun w => .pv (.int .i64 w)
  | [] => rfl
  | (m, w) :: r => by
    have := mlook_kmap (n := n) (s := r)
    simp only [kmap, List.map_cons] at this ⊢
    rw [mlook_cons, lookK, this]; simp; split <;> rfl
@[simp] theorem mput_kmap {n w : Int} : ∀ {s : KV}, mput (kmap s) (.int .u8 n) (.pv (.int .i64 w)) = kmap (putK s n w)
  | [] => rfl
  | (m, v) :: r => by
    have := mput_kmap (n := n) (w := w) (s := r)
    simp only [kmap, List.map_cons] at this ⊢
    rw [mput_cons, putK, this]; simp; split <;> rfl
theorem keysOk_kmap {n : Int} {s : KV} : keysOk 1 (.int .u8 n) (kmap s) := by
  refine ⟨rfl, by omega, fun x hx => ?_⟩
  simp only [kmap, List.mem_map] at hx
  obtain ⟨y, -, rfl⟩ := hx
  rfl
theorem lookK_putK {n m w : Int} : ∀ {s : KV}, lookK (putK s n w) m = if m = n then some w else lookK s m
  | [] => by simp [putK, lookK]
  | (a, v) :: r => by
    rw [putK]
    by_cases h : n = a
    · subst h; simp only [if_true, lookK]; split <;> rfl
    · simp only [h, if_false, lookK, lookK_putK (s := r)]
      by_cases h1 : m = a
      · subst h1; simp [Ne.symm h]
      · simp [h1]
@[simp] theorem nm_kmap {s : KV} {p : Nat → Prop} : (∀ (a : PV) (b : DV), (a, b) ∈ kmap s → DV.nm p b) ↔ True := ⟨fun _ => trivial, fun _ a b h => by simp only [kmap, List.mem_map, Prod.mk.injEq] at h; obtain ⟨y, -, -, rfl⟩ := h; simp⟩
@[simp] theorem ren_kmap {s : KV} {f : Nat → Nat} : (kmap s).map (fun x => (x.fst, DV.ren f x.snd)) = kmap s := by simp [kmap, DV.ren]
def kindsN (s : Ins_) : Nat → KV
  | 0 => []
  | i + 1 => putK (kindsN s i) (gt s.effects (i : Nat)).kind ((lookK (kindsN s i) (gt s.effects (i : Nat)).kind).getD 0 + 1)
theorem kindsN_count (s : Ins_) (k : Int) : ∀ i, i ≤ s.effects.length → (lookK (kindsN s i) k).getD 0 = (((s.effects.take i).filter fun x => decide (x.kind = k)).length : Int)
  | 0, _ => by simp [kindsN, lookK]
  | i + 1, h => by
    have hi : i < s.effects.length := by omega
    have ih := kindsN_count s k i (by omega)
    rw [kindsN, lookK_putK, List.take_succ_eq_append_getElem hi, List.filter_append, List.length_append]
    rw [gt_nat hi]
    by_cases he : k = s.effects[i].kind
    · rw [if_pos he, Option.getD_some, ← he, ih]; simp [he]
    · rw [if_neg he, ih]; simp [Ne.symm he]
theorem kindsN_le (s : Ins_) (k : Int) (i : Nat) (h : i ≤ s.effects.length) : 0 ≤ (lookK (kindsN s i) k).getD 0 ∧ (lookK (kindsN s i) k).getD 0 ≤ i := by
  rw [kindsN_count s k i h]
  have h1 := List.length_filter_le (fun x : Eff => decide (x.kind = k)) (s.effects.take i)
  have h2 := List.length_take_le i s.effects
  omega

/-- An instruction's operands, one by one: all is well; the bits taken so far. -/
def insSt (m : Mach) (s : Ins_) (c : Bool) : Nat → Bool × Nat
  | 0 => (c, s.mask.toNat)
  | i + 1 =>
    let b := (insSt m s c i).1 && freshB (pc :: (s.operands.map (·.name)).take i) (gt s.operands (i : Nat)).name
    let f := opTaken m b s i
    (b && opOk m s i && decide ((insSt m s c i).2 &&& f = 0), (insSt m s c i).2 ||| f)
def insMasks (m : Mach) (s : Ins_) : Bool := decide (bandNotI .u64 s.mask (maskI (IntKind.i64.wrap (8 * m.word))) = 0) && decide (bandNotI .u64 s.mtch s.mask = 0)
def insTail (m : Mach) (s : Ins_) : Bool :=
  decide (countK s 3 ≤ 1) && (decide (countK s 4 = 0) || decide (s.effects.length = 1)) && inR s.unit 0 (m.units.length - 1) && inR s.busy 1 15 && inR s.latency 1 15 && inR s.slots 0 2 && (decide (s.slots = 0) || decide (countK s 3 = 1))
def insB (m : Mach) (s : Ins_) : Bool := (insSt m s (insMasks m s) s.operands.length).1 && s.effects.all (effB m s (insVars m s)) && insTail m s
theorem insSt_mono {m : Mach} {s : Ins_} {c : Bool} : ∀ {i : Nat}, (insSt m s c i).1 = true → c = true
  | 0, h => h
  | i + 1, h => by simp only [insSt, Bool.and_eq_true] at h; exact insSt_mono h.1.1.1
theorem insSt_ops {m : Mach} {s : Ins_} {c : Bool} : ∀ {i : Nat}, (insSt m s c i).1 = true → ∀ j, j < i → opOk m s j = true
  | 0, _, j, hj => by omega
  | i + 1, h, j, hj => by
    simp only [insSt, Bool.and_eq_true] at h
    rcases Nat.lt_or_eq_of_le (Nat.le_of_lt_succ hj) with hj | rfl
    · exact insSt_ops h.1.1.1 j hj
    · exact h.1.2
theorem insSt_lt {m : Mach} {s : Ins_} {c : Bool} (hw : c = true → 1 ≤ m.word ∧ m.word ≤ 4) (hm : s.mask ≤ 18446744073709551615) : ∀ i, (insSt m s c i).2 < 2 ^ 64
  | 0 => by simp only [insSt]; omega
  | i + 1 => by
    simp only [insSt]
    refine Nat.or_lt_two_pow (insSt_lt hw hm i) (Nat.lt_trans (opTaken_lt fun h => ?_) (by decide))
    simp only [Bool.and_eq_true] at h
    exact hw (insSt_mono h.1)
/-- What the banks give for an operand's width. -/
theorem wide_of {m : Mach} {s : Ins_} (hb : okBanks m = true) (h : ∀ j, j < s.operands.length → opOk m s j = true) : ∀ o ∈ s.operands, wideOk m o := by
  intro o ho hk
  obtain ⟨j, hj, rfl⟩ := List.getElem_of_mem ho
  have h1 := h j hj
  simp only [opOk, Bool.and_eq_true, kindOk] at h1
  rw [gt_nat hj] at h1
  have h2 := h1.2
  simp only [hk, if_true, Bool.and_eq_true] at h2
  have h3 : 0 ≤ s.operands[j].bank ∧ s.operands[j].bank ≤ (m.banks.length : Int) - 1 := by simpa [inR] using h2.1.1
  have h4 := allB_true.1 hb s.operands[j].bank.toNat (by omega)
  simp only [bankOk, Bool.and_eq_true] at h4
  rw [Int.toNat_of_nonneg h3.1] at h4
  have h5 := h4.1.1.2
  simp only [decide_eq_true_eq] at h5
  have h6 := allB_true.1 h4.2 0 h5
  simp only [Bool.and_eq_true] at h6
  have h7 : 0 ≤ gt (gt m.banks s.operands[j].bank).regs 0 ∧ gt (gt m.banks s.operands[j].bank).regs 0 ≤ (m.regs.length : Int) - 1 := by simpa [inR] using h6.1.1
  exact ⟨⟨h3.1, by omega⟩, by intro hn; simp [hn] at h5, h7.1, by omega⟩
theorem names_of {m : Mach} (hr : okRegs m = true) : ∀ r ∈ m.regs, r.name.size ≤ 1000 := by
  intro r hr'
  obtain ⟨j, hj, rfl⟩ := List.getElem_of_mem hr'
  simp only [okRegs, Bool.and_eq_true] at hr
  have h1 := allB_true.1 hr.1 j hj
  simp only [rgOk, Bool.and_eq_true] at h1
  have h2 := h1.1.1.1
  rw [gt_nat hj] at h2
  simp only [isName, Bool.and_eq_true, decide_eq_true_eq] at h2
  omega
/-- What bounds a machine of the statements. -/
def insBd (m : Mach) (s : Ins_) : Prop := m.regs.length ≤ 500 ∧ m.banks.length ≤ 500 ∧ m.units.length ≤ 500 ∧ s.operands.length ≤ 500 ∧ s.effects.length ≤ 500 ∧ (∀ o ∈ s.operands, o.pieces.length ≤ 500) ∧ ∀ x ∈ s.effects, ∀ t ∈ [x.addr, x.value, x.cond], t.nodes < 2 ^ 40 ∧ t.depth < 2 ^ 40
theorem p_checker_instr (m : Mach) (ok : Bool) (s : Ins_) (hok : ok = true → (1 ≤ m.word ∧ m.word ≤ 4) ∧ okRegs m = true ∧ okBanks m = true) (hbd : insBd m s) :
    ACall Tryz.prog glob (.func 66) 1 [.ptr 0 0, .pv s.pv] [(0, cbox m ok)] (.tup []) [(0, cbox m (ok && insB m s))] 1 := by
  obtain ⟨hb1, hb2, hb3, hb4, hb5, hb6, hb7⟩ := hbd
  refine k_machine_checker_instr.acall (by simp) (by simp) (by simp) (by simp [cbox]) (by simp) (by simp [cbox]) fun hwf => ?_
  have hmask : 0 ≤ s.mask ∧ s.mask ≤ 18446744073709551615 := by
    have := hwf (.pv s.pv) (by simp)
    simp only [DV.wf] at this; rw [Ins_.wf_pv] at this; simp [-Ins_.fold, maxLen, IntKind.min, IntKind.max, IntKind.signed, IntKind.bits] at this
    exact this.2.1
  have hc : ∀ i, (insSt m s (ok && insMasks m s) i).1 = (ok && (insSt m s (insMasks m s) i).1) := by
    intro i
    cases ok
    · simp only [Bool.false_and]
      rw [Bool.eq_false_iff]; intro h; exact absurd (insSt_mono h) (by simp)
    · simp
  simp [c_machine_checker_instr, cbox]
  refine DCallNext.pure (p_bits_Mask glob _) ?_
  simp
  refine DCallNext.obs' [0] (p_checker_must glob m _ [_, _]) rfl (by simp) (by simp) (by simp [bools]; exact ⟨rfl, rfl⟩) (by simp) (by simp [cbox]; rfl) ?_
  simp [cbox]
  have hu : ∀ i, (pc :: (s.operands.map (·.name)).take i).length ≤ i + 1 := fun i => by simp; omega
  generalize hcd : (ok && insMasks m s) = c at *
  have hw : c = true → 1 ≤ m.word ∧ m.word ≤ 4 := fun h => by rw [← hcd] at h; simp only [Bool.and_eq_true] at h; exact (hok h.1).1
  have htk := insSt_lt hw hmask.2
  have hi0 : (ok && (decide (bandNotI .u64 s.mask (maskI (IntKind.i64.wrap (8 * m.word))) = 0) && decide (bandNotI .u64 s.mtch s.mask = 0))) = c := hcd
  rw [hi0]
  refine Loop.nat (fun i => { e := [(0, .ptr 0 0), (3, .ptr 1 0), (4, .ptr 22 0), (5, .pv (.int .u64 ((insSt m s c i).2 : Nat))), (39, .pv (.lst 6 (s.operands.map Opnd.pv))), (40, .pv (.int .i64 s.operands.length)), (41, .pv (.int .i64 i))], h := [(0, cbox m (insSt m s c i).1), (1, s.bx), (22, nbox 23 (pc :: (s.operands.map (·.name)).take i)), (23, .tip 1 (i + 1))], nx := 24 }) s.operands.length (fun _ => True) (by simp [cbox]) (by simp) (by simp [cbox, nbox, strs, insSt, Ins_.bx, pc, Int.toNat_of_nonneg hmask.1]) fun i hi hinv => ?_
  by_cases hlt : i < s.operands.length
  · have hlen : (pc :: (s.operands.map (·.name)).take i).length = i + 1 := by simp; omega
    have hm := gt_mem (l := s.operands) (i := (i : Nat)) (by omega) (by omega)
    simp [hlt, cbox, Ins_.bx]
    refine CallNext.obs [22, 23] (p_names_fresh glob (pc :: (s.operands.map (·.name)).take i) (gt s.operands (i : Nat)).name (by rw [hlen]; omega)) (by simp) (by simp) (by simp) (by simp [nbox, hlen]) fun _ => ?_
    simp [nbox, cbox]
    refine CallNext.obs [0] (p_checker_must glob m _ [_]) (by simp) (by simp) (by simp [bools]; rfl) (by simp [cbox]; rfl) fun _ => ?_
    simp [cbox]
    let b := (insSt m s c i).1 && freshB (pc :: (s.operands.map (·.name)).take i) (gt s.operands (i : Nat)).name
    have hwb : b = true → 1 ≤ m.word ∧ m.word ≤ 4 := fun h => by simp only [b, Bool.and_eq_true] at h; exact hw (insSt_mono h.1)
    refine CallNext.obs [0] (p_checker_operand glob m b s i hlt hwb hb4 hb2 (hb6 _ hm)) (by simp) (by simp) (by simp) (by simp [cbox, b]) fun _ => ?_
    have hot := opTaken_lt (s := s) (i := i) hwb
    simp [cbox]
    rw [and_u64 (htk i) (by omega)]
    refine CallNext.obs [0] (p_checker_must glob m _ [_]) (by simp) (by simp) (by simp [bools]; rfl) (by simp [cbox]; rfl) fun _ => ?_
    simp [cbox, hlt, wrap_nat (show (0:Int) ≤ i + 1 by omega) (by omega)]
    rw [or_u64 (htk i) (by omega)]
    refine ⟨rfl, rfl, ?_, by omega⟩
    rw [take_names _ hlt]
  obtain rfl : i = s.operands.length := by omega
  simp [cbox, nbox, Ins_.bx]
  have hops : (insSt m s c s.operands.length).1 = true → ok = true ∧ (insSt m s (insMasks m s) s.operands.length).1 = true := fun h => by rw [hc] at h; simpa using h
  refine ⟨fun h => ?_, fun h => ?_⟩
  · refine ⟨[0], ?_⟩
    have h2 := hc s.operands.length
    rw [h] at h2
    simp [h]
    intro ho
    rw [ho, Bool.true_and] at h2
    rw [insB, ← h2]
    simp
  obtain ⟨hok1, hst⟩ := hops h
  obtain ⟨hww, hrg, hbk⟩ := hok hok1
  have hwide := wide_of hbk (insSt_ops h)
  refine CallNext.obs [0] (p_checker_variables glob m _ s hb1 (names_of hrg) hb4 hwide) (by simp) (by simp) (by simp) (by simp [cbox]; rfl) fun _ => ?_
  simp [cbox]
  refine Loop.nat (fun i => { e := [(0, .ptr 0 0), (3, .ptr 1 0), (9, .mref 25), (10, .mref 26), (77, .pv (.lst 21 (s.effects.map Eff.pv))), (78, .pv (.int .i64 s.effects.length)), (79, .pv (.int .i64 i))], h := [(0, cbox m ((s.effects.take i).all (effB m s (insVars m s)))), (1, s.bx), (22, nbox 23 (pc :: s.operands.map (·.name))), (23, .tip 1 (s.operands.length + 1)), (25, .mp (vmap (insVars m s))), (26, .mp (kmap (kindsN s i)))], nx := 27 }) s.effects.length (fun _ => True) (by simp [cbox]) (by simp) (by simp [cbox, nbox, Ins_.bx, h, kindsN, kmap, List.take_of_length_le (show (s.operands.map (·.name)).length ≤ s.operands.length by simp)]) fun i hi hinv => ?_
  by_cases hlt : i < s.effects.length
  · have hm := gt_mem (l := s.effects) (i := (i : Nat)) (by omega) (by omega)
    have hkl := kindsN_le s (gt s.effects (i : Nat)).kind i (by omega)
    have hkk : ∀ (n : Int) (s : KV), keysOk 1 (.int .u8 n) (kmap s) := fun n s => keysOk_kmap
    simp [hlt, cbox, Ins_.bx]
    refine CallNext.obs [0, 25] (p_checker_effect m (insVars m s) _ s (gt s.effects (i : Nat)) (hb7 _ hm) hb1 hb4 hwide) (by simp) (by simp) (by simp) (by simp [cbox]; rfl) fun _ => ?_
    simp [hlt, cbox, Eff.bx, hkk, wrap_nat (show (0:Int) ≤ i + 1 by omega) (by omega), all_take1 hlt, kindsN, wrap_nat (show (0:Int) ≤ (lookK (kindsN s i) (gt s.effects (i : Nat)).kind).getD 0 + 1 by omega) (by omega)]
    simp [nbox]
  obtain rfl : i = s.effects.length := by omega
  have hcnt : ∀ k : Int, (lookK (kindsN s s.effects.length) k).getD 0 = countK s k := fun k => by rw [kindsN_count s k _ (Nat.le_refl _), List.take_length]; rfl
  have hkk : ∀ (n : Int) (s : KV), keysOk 1 (.int .u8 n) (kmap s) := fun n s => keysOk_kmap
  simp [cbox, Ins_.bx, hkk, hcnt]
  refine DCallNext.pure (p_machine_within glob _ _ _) ?_
  simp
  refine DCallNext.pure (p_machine_within glob _ _ _) ?_
  simp
  refine DCallNext.pure (p_machine_within glob _ _ _) ?_
  simp
  refine DCallNext.pure (p_machine_within glob _ _ _) ?_
  simp
  rw [wrap_i64 (by omega) (by omega)]
  refine DCallNext.obs' [0] (p_checker_must glob m _ [_, _, _, _, _, _, _]) rfl (by simp) (by simp) (by simp [bools]; exact ⟨rfl, rfl, rfl, rfl, rfl, rfl, rfl⟩) (by simp) (by simp [cbox]; rfl) ?_
  simp [cbox]
  refine ⟨[0], ?_⟩
  simp [hok1, insB, hst, insTail]
  simp only [show ((s.effects.length : Int) = 1) = (s.effects.length = 1) from propext (by omega), Bool.and_assoc]
end Go.Proofs.YtbghfliffomfdaaGreatDoorV

/- Contracts: layer 8 of the program: Check. -/
namespace Go.Proofs.YtbghfliffomfdaaGreatDoorV
open Go
set_option maxRecDepth 100000
set_option maxHeartbeats 4000000

def chkBase (m : Mach) : Bool := isName m.name && inR m.word 1 4 && (decide (m.address = 16) || decide (m.address = 32)) && okRegs m && okBanks m && okUnits m
def chkSt (m : Mach) : Nat → Bool
  | 0 => chkBase m
  | i + 1 => chkSt m i && freshB ((m.instrs.map (·.name)).take i) (gt m.instrs (i : Nat)).name && insB m (gt m.instrs (i : Nat))
theorem chkSt_base {m : Mach} : ∀ {i : Nat}, chkSt m i = true → chkBase m = true
  | 0, h => h
  | i + 1, h => by simp only [chkSt, Bool.and_eq_true] at h; exact chkSt_base h.1.1
theorem chkSt_le {m : Mach} {i : Nat} : ∀ {n : Nat}, i ≤ n → chkSt m n = true → chkSt m i = true
  | 0, h, hn => by cases Nat.le_zero.1 h; exact hn
  | n + 1, h, hn => by
    rcases Nat.lt_or_eq_of_le h with h | rfl
    · simp only [chkSt, Bool.and_eq_true] at hn; exact chkSt_le (Nat.le_of_lt_succ h) hn.1.1
    · exact hn
def mchk (m : Mach) : Int := if inLimits m then if chkSt m m.instrs.length then 0 else 8 else 4
/-- The terms are of bounded size. -/
def mTerms (m : Mach) : Prop := ∀ s ∈ m.instrs, ∀ x ∈ s.effects, ∀ t ∈ [x.addr, x.value, x.cond], t.nodes < 2 ^ 40 ∧ t.depth < 2 ^ 40
theorem inLimits_iff {m : Mach} (h : inLimits m = true) : m.regs.length ≤ 64 ∧ m.banks.length ≤ 16 ∧ m.units.length ≤ 8 ∧ m.instrs.length ≤ 64 ∧ (∀ b ∈ m.banks, b.regs.length ≤ 64) ∧ ∀ s ∈ m.instrs, s.operands.length ≤ 4 ∧ s.effects.length ≤ 4 ∧ ∀ o ∈ s.operands, o.pieces.length ≤ 4 := by
  simp only [inLimits, Bool.and_eq_true, decide_eq_true_eq, List.all_eq_true] at h
  obtain ⟨⟨⟨⟨⟨h1, h2⟩, h3⟩, h4⟩, h5⟩, h6⟩ := h
  exact ⟨h1, h2, h3, h4, h5, fun s hs => ⟨(h6 s hs).1.1, (h6 s hs).1.2, (h6 s hs).2⟩⟩
theorem p_machine_Check (m : Mach) (ht : mTerms m) : PCall Tryz.prog glob 45 [.pv m.pv] (.pv (.int .i64 (mchk m))) := by
  refine k_machine_Check.pcall (by simp) (by simp) (by simp) fun hwf => ?_
  simp [c_machine_Check]
  refine CallNext.pure (p_machine_small glob m) fun _ => ?_
  simp
  refine ⟨fun hl => ?_, fun hl => ?_⟩
  · simp [mchk, hl]
  obtain ⟨hb1, hb2, hb3, hb4, hb5, hb6⟩ := inLimits_iff hl
  refine DCallNext.pure (p_bits_Name glob _) ?_
  simp
  refine DCallNext.pure (p_machine_within glob _ _ _) ?_
  simp
  refine DCallNext.obs' [1] (p_checker_must glob m true [_, _, _]) rfl (by simp) (by simp) (by simp [bools]; exact ⟨rfl, rfl, rfl⟩) (by simp) (by simp [cbox]) ?_
  simp [cbox]
  refine CallNext.obs [1] (p_checker_regs glob m _ (by omega)) (by simp) (by simp) (by simp) (by simp [cbox]; rfl) fun _ => ?_
  simp [cbox]
  refine CallNext.obs [1] (p_checker_banks glob m _ (by omega) (by omega) (fun b hb => by have := hb5 b hb; omega)) (by simp) (by simp) (by simp) (by simp [cbox]; rfl) fun _ => ?_
  simp [cbox]
  refine CallNext.obs [1] (p_checker_units glob m _ (by omega)) (by simp) (by simp) (by simp) (by simp [cbox]; rfl) fun _ => ?_
  simp [cbox]
  have hB0 : (isName m.name && (inR m.word 1 4 && (decide (m.address = 16) || decide (m.address = 32))) && okRegs m && okBanks m && okUnits m) = chkBase m := by unfold chkBase; ac_rfl
  refine Loop.nat (fun i => { e := [(3, .ptr 1 0), (4, .ptr 19 0), (37, .pv (.lst 9 (m.instrs.map Ins_.pv))), (38, .pv (.int .i64 m.instrs.length)), (39, .pv (.int .i64 i))], h := [(0, m.bx), (1, cbox m (chkSt m i)), (19, nbox 20 ((m.instrs.map (·.name)).take i)), (20, .tip 1 i)], nx := 21 }) m.instrs.length (fun _ => True) (by simp [cbox]) (by simp) (by simp [cbox, nbox, strs, Mach.bx, chkSt, ← hB0]) fun i hi hinv => ?_
  by_cases hlt : i < m.instrs.length
  · have hm := gt_mem (l := m.instrs) (i := (i : Nat)) (by omega) (by omega)
    have hlen : ((m.instrs.map (·.name)).take i).length = i := by simp; omega
    simp [hlt, cbox]
    refine ⟨fun hno => ?_, fun hyes => ?_⟩
    · refine ⟨fun _ => ?_, fun h => by rw [h] at hno; simp at hno⟩
      have hn : chkSt m m.instrs.length = false := by
        rw [Bool.eq_false_iff]; intro h
        rw [chkSt_le hi h] at hno; simp at hno
      simp [mchk, hl, hn]
    · refine CallNext.obs [19, 20] (p_names_fresh glob ((m.instrs.map (·.name)).take i) (gt m.instrs (i : Nat)).name (by rw [hlen]; omega)) (by simp) (by simp) (by simp) (by simp [nbox, hlen]) fun _ => ?_
      simp [nbox, cbox]
      refine CallNext.obs [1] (p_checker_must glob m _ [_]) (by simp) (by simp) (by simp [bools]; rfl) (by simp [cbox]; rfl) fun _ => ?_
      simp [cbox]
      have hbs := chkSt_base hyes
      simp only [chkBase, Bool.and_eq_true] at hbs
      obtain ⟨⟨⟨⟨⟨-, hw⟩, -⟩, hrg⟩, hbk⟩, -⟩ := hbs
      have hw' : 1 ≤ m.word ∧ m.word ≤ 4 := by simpa [inR] using hw
      obtain ⟨h61, h62, h63⟩ := hb6 _ hm
      refine CallNext.obs [1] (p_checker_instr m _ (gt m.instrs (i : Nat)) (fun _ => ⟨hw', hrg, hbk⟩) ⟨by omega, by omega, by omega, by omega, by omega, fun o ho => by have := h63 o ho; omega, ht _ hm⟩) (by simp) (by simp) (by simp) (by simp [cbox]; rfl) fun _ => ?_
      simp [hlt, cbox, Mach.bx, wrap_nat (show (0:Int) ≤ i + 1 by omega) (by omega), chkSt]
      rw [take_names _ hlt]
      exact ⟨rfl, by omega⟩
  · obtain rfl : i = m.instrs.length := by omega
    simp [cbox, mchk, hl]
end Go.Proofs.YtbghfliffomfdaaGreatDoorV

/- Plain laws: the bits that operands take. -/
namespace Go.Proofs.YtbghfliffomfdaaGreatDoorV
open Go
set_option maxHeartbeats 1000000

theorem and_zero_iff {a b : Nat} : a &&& b = 0 ↔ ∀ k, ¬ (a.testBit k = true ∧ b.testBit k = true) := by
  constructor
  · intro h k hk
    have := Nat.testBit_and a b k
    rw [h, Nat.zero_testBit, hk.1, hk.2] at this
    simp at this
  · intro h
    refine Nat.eq_of_testBit_eq fun k => ?_
    rw [Nat.testBit_and, Nat.zero_testBit]
    have := h k
    cases ha : a.testBit k <;> cases hb : b.testBit k <;> simp_all
theorem pmask_bit {word : Int} {ps : List Piece} {j : Nat} (h : rngOk word ps j = true) (b : Nat) : (pmask (gt ps (j : Nat))).testBit b = covers (gt ps (j : Nat)) b := by
  simp only [rngOk, Bool.and_eq_true] at h
  have h1 : 1 ≤ (gt ps (j : Nat)).len ∧ (gt ps (j : Nat)).len ≤ 8 * word := by simpa [inR] using h.1
  have h2 : 0 ≤ (gt ps (j : Nat)).at_ ∧ (gt ps (j : Nat)).at_ ≤ 8 * word - (gt ps (j : Nat)).len := by simpa [inR] using h.2
  generalize gt ps (j : Nat) = p at *
  rw [pmask, Nat.mul_comm, Nat.testBit_two_pow_mul, Nat.testBit_two_pow_sub_one]
  rw [Bool.eq_iff_iff]
  simp [covers, inR]
  omega
theorem coverP_nonneg (ps : List Piece) (b : Nat) : ∀ n, 0 ≤ coverP ps b n
  | 0 => by simp [coverP]
  | n + 1 => by have := coverP_nonneg ps b n; rw [coverP]; split <;> omega
theorem takenN_bit {word : Int} {ps : List Piece} (b : Nat) : ∀ n, (∀ j, j < n → rngOk word ps j = true) → ((takenN ps n).testBit b = true ↔ 1 ≤ coverP ps b n)
  | 0, _ => by simp [takenN, coverP]
  | n + 1, h => by
    have ih := takenN_bit b n fun j hj => h j (by omega)
    have h0 := coverP_nonneg ps b n
    rw [takenN, Nat.testBit_or, Bool.or_eq_true, ih, pmask_bit (h n (by omega)), coverP]
    split
    · rename_i hc; simp [hc]; omega
    · rename_i hc; simp [hc]
theorem pieces_apart {word : Int} {ps : List Piece} : ∀ n, (∀ j, j < n → rngOk word ps j = true) → ((∀ j, j < n → takenN ps j &&& pmask (gt ps (j : Nat)) = 0) ↔ ∀ b, coverP ps b n ≤ 1)
  | 0, _ => by simp [coverP]
  | n + 1, h => by
    have hn : ∀ j, j < n → rngOk word ps j = true := fun j hj => h j (by omega)
    have ih := pieces_apart n hn
    constructor
    · intro hd b
      have h1 := ih.1 (fun j hj => hd j (by omega)) b
      rw [coverP]
      split
      · rename_i hc
        have h2 := and_zero_iff.1 (hd n (by omega)) b
        rw [takenN_bit b n hn, pmask_bit (h n (by omega)), hc] at h2
        simp at h2; omega
      · omega
    · intro hc j hj
      rcases Nat.lt_or_eq_of_le (Nat.le_of_lt_succ hj) with hj | rfl
      · refine ih.2 (fun b => ?_) j hj
        have := hc b
        rw [coverP] at this
        split at this <;> omega
      · rw [and_zero_iff]
        rintro b ⟨h1, h2⟩
        rw [takenN_bit b _ hn] at h1
        rw [pmask_bit (h _ (by omega))] at h2
        have := hc b
        rw [coverP, if_pos h2] at this
        omega
/-- The bits that the mask and the operands below i take. -/
def tkT (s : Ins_) : Nat → Nat
  | 0 => s.mask.toNat
  | i + 1 => tkT s i ||| takenN (gt s.operands (i : Nat)).pieces (gt s.operands (i : Nat)).pieces.length
def rngs (m : Mach) (s : Ins_) (n : Nat) : Prop := ∀ i, i < n → ∀ j, j < (gt s.operands (i : Nat)).pieces.length → rngOk m.word (gt s.operands (i : Nat)).pieces j = true
theorem coverO_nonneg (s : Ins_) (b : Nat) : ∀ n, 0 ≤ coverO s b n
  | 0 => by simp [coverO]
  | n + 1 => by have := coverO_nonneg s b n; have := coverP_nonneg (gt s.operands (n : Nat)).pieces b (gt s.operands (n : Nat)).pieces.length; rw [coverO]; omega
theorem bitI_bit {w : Int} (h : 0 ≤ w) (b : Nat) : bitI w b = if w.toNat.testBit b then 1 else 0 := by
  have e : w = (w.toNat : Int) := (Int.toNat_of_nonneg h).symm
  generalize w.toNat = n at e
  subst e
  rw [bitI, Nat.testBit_eq_decide_div_mod_eq]
  have : ((n : Int) / 2 ^ b % 2) = ((n / 2 ^ b % 2 : Nat) : Int) := by push_cast; rfl
  rw [this]
  by_cases h1 : n / 2 ^ b % 2 = 1
  · simp [h1]
  · simp [h1]; omega
theorem tkT_bit {m : Mach} {s : Ins_} (hm : 0 ≤ s.mask) (b : Nat) : ∀ n, rngs m s n → ((tkT s n).testBit b = true ↔ 1 ≤ bitI s.mask b + coverO s b n)
  | 0, _ => by rw [tkT, coverO, bitI_bit hm]; split <;> simp_all
  | n + 1, h => by
    have ih := tkT_bit hm b n fun i hi => h i (by omega)
    have h0 := coverO_nonneg s b n
    have h1 : 0 ≤ bitI s.mask b := by rw [bitI_bit hm]; split <;> omega
    have h2 := coverP_nonneg (gt s.operands (n : Nat)).pieces b (gt s.operands (n : Nat)).pieces.length
    rw [tkT, Nat.testBit_or, Bool.or_eq_true, ih, takenN_bit b _ (h n (by omega)), coverO]
    omega
theorem ops_apart {m : Mach} {s : Ins_} (hm : 0 ≤ s.mask) : ∀ n, rngs m s n →
    ((∀ i, i < n → (∀ j, j < (gt s.operands (i : Nat)).pieces.length → takenN (gt s.operands (i : Nat)).pieces j &&& pmask (gt (gt s.operands (i : Nat)).pieces (j : Nat)) = 0) ∧ tkT s i &&& takenN (gt s.operands (i : Nat)).pieces (gt s.operands (i : Nat)).pieces.length = 0) ↔ ∀ b, bitI s.mask b + coverO s b n ≤ 1)
  | 0, _ => by
    simp only [coverO]
    refine ⟨fun _ b => ?_, fun _ i hi => by omega⟩
    rw [bitI_bit hm]; split <;> omega
  | n + 1, h => by
    have hn : rngs m s n := fun i hi => h i (by omega)
    have ih := ops_apart hm n hn
    have hp := pieces_apart (gt s.operands (n : Nat)).pieces.length (h n (by omega))
    have h1 : ∀ b, 0 ≤ bitI s.mask b := fun b => by rw [bitI_bit hm]; split <;> omega
    constructor
    · intro hd b
      have h2 := ih.1 (fun i hi => hd i (by omega)) b
      have h3 := hp.1 (hd n (by omega)).1 b
      have h4 := and_zero_iff.1 (hd n (by omega)).2 b
      rw [tkT_bit hm b n hn, takenN_bit b _ (h n (by omega))] at h4
      have h5 := coverO_nonneg s b n
      have h6 := coverP_nonneg (gt s.operands (n : Nat)).pieces b (gt s.operands (n : Nat)).pieces.length
      have h7 := h1 b
      rw [coverO]
      omega
    · intro hc i hi
      rcases Nat.lt_or_eq_of_le (Nat.le_of_lt_succ hi) with hi | rfl
      · refine ih.2 (fun b => ?_) i hi
        have := hc b
        rw [coverO] at this
        have h6 := coverP_nonneg (gt s.operands (n : Nat)).pieces b (gt s.operands (n : Nat)).pieces.length
        omega
      · refine ⟨hp.2 fun b => ?_, ?_⟩
        · have := hc b
          rw [coverO] at this
          have h5 := coverO_nonneg s b i
          have h7 := h1 b
          omega
        · rw [and_zero_iff]
          rintro b ⟨h2, h3⟩
          rw [tkT_bit hm b _ hn] at h2
          rw [takenN_bit b _ (h _ (by omega))] at h3
          have := hc b
          rw [coverO] at this
          omega
/-- Bits beyond the word are not taken. -/
theorem coverP_out {word : Int} {ps : List Piece} {b : Nat} (hb : 8 * word ≤ b) : ∀ n, (∀ j, j < n → rngOk word ps j = true) → coverP ps b n = 0
  | 0, _ => rfl
  | n + 1, h => by
    have h1 := h n (by omega)
    simp only [rngOk, Bool.and_eq_true] at h1
    have h2 : 0 ≤ (gt ps (n : Nat)).at_ ∧ (gt ps (n : Nat)).at_ ≤ 8 * word - (gt ps (n : Nat)).len := by simpa [inR] using h1.2
    rw [coverP, coverP_out hb n fun j hj => h j (by omega), if_neg]; rfl
    simp [covers, inR]; omega
theorem coverO_out {m : Mach} {s : Ins_} {b : Nat} (hb : 8 * m.word ≤ b) : ∀ n, rngs m s n → coverO s b n = 0
  | 0, _ => rfl
  | n + 1, h => by rw [coverO, coverO_out hb n fun i hi => h i (by omega), coverP_out hb _ (h n (by omega))]; rfl
theorem apart_iff {m : Mach} {s : Ins_} (hw : 1 ≤ m.word ∧ m.word ≤ 4) (hm : 0 ≤ s.mask) (hm2 : s.mask < 2 ^ (8 * m.word).toNat) (hr : rngs m s s.operands.length) : apart m s = true ↔ ∀ b, bitI s.mask b + coverO s b s.operands.length ≤ 1 := by
  rw [apart, allB_true]
  simp only [decide_eq_true_eq]
  refine ⟨fun h b => ?_, fun h b _ => h b⟩
  by_cases hb : b < (8 * m.word).toNat
  · exact h b hb
  · rw [coverO_out (by omega) _ hr, bitI_bit hm]; split <;> omega
end Go.Proofs.YtbghfliffomfdaaGreatDoorV

/- Plain laws: instructions and machines, the two ways. -/
namespace Go.Proofs.YtbghfliffomfdaaGreatDoorV
open Go
set_option maxHeartbeats 1000000

theorem insMasks_iff {m : Mach} {s : Ins_} (hw : 1 ≤ m.word ∧ m.word ≤ 4) (h1 : 0 ≤ s.mask ∧ s.mask ≤ 18446744073709551615) (h2 : 0 ≤ s.mtch ∧ s.mtch ≤ 18446744073709551615) : insMasks m s = (decide (s.mask < 2 ^ (8 * m.word).toNat) && allB 64 (fun b => decide (bitI s.mtch b ≤ bitI s.mask b))) := by
  obtain ⟨k, hk⟩ : ∃ k : Nat, s.mask = k := ⟨s.mask.toNat, by omega⟩
  obtain ⟨l, hl⟩ : ∃ l : Nat, s.mtch = l := ⟨s.mtch.toNat, by omega⟩
  have hk2 : k < 2 ^ 64 := by omega
  have hl2 : l < 2 ^ 64 := by omega
  have hp : 2 ^ (8 * m.word).toNat ≤ 2 ^ 32 := Nat.pow_le_pow_right (by omega) (by omega)
  have hp0 : 0 < 2 ^ (8 * m.word).toNat := Nat.pow_pos (by omega)
  rw [insMasks, wrap_i64 (by omega) (by omega), maskI_nat (by omega), hk, hl, andNot_u64 hk2 (by omega), andNot_u64 hl2 hk2]
  congr 1
  · rw [Bool.eq_iff_iff, decide_eq_true_eq, decide_eq_true_eq]
    rw [show ((k &&& (2 ^ 64 - 1 - (2 ^ (8 * m.word).toNat - 1)) : Nat) : Int) = 0 ↔ k &&& (2 ^ 64 - 1 - (2 ^ (8 * m.word).toNat - 1)) = 0 by omega]
    rw [and_zero_iff]
    have hx : ∀ i, (2 ^ 64 - 1 - (2 ^ (8 * m.word).toNat - 1)).testBit i = (decide (i < 64) && !decide (i < (8 * m.word).toNat)) := fun i => by
      rw [show 2 ^ 64 - 1 - (2 ^ (8 * m.word).toNat - 1) = 2 ^ 64 - ((2 ^ (8 * m.word).toNat - 1) + 1) by omega, Nat.testBit_two_pow_sub_succ (by omega), Nat.testBit_two_pow_sub_one]
    have hlt : ((k : Int) < 2 ^ (8 * m.word).toNat) ↔ k < 2 ^ (8 * m.word).toNat := by
      rw [show ((2 : Int) ^ (8 * m.word).toNat) = ((2 ^ (8 * m.word).toNat : Nat) : Int) by push_cast; rfl]; omega
    rw [hlt]
    constructor
    · intro h
      refine Nat.lt_pow_two_of_testBit _ fun i hi => ?_
      have := h i
      rw [hx] at this
      by_cases h64 : i < 64
      · have h3 : ¬ i < (8 * m.word).toNat := by omega
        simp [h64, h3] at this; exact this
      · exact Nat.testBit_lt_two_pow (Nat.lt_of_lt_of_le hk2 (Nat.pow_le_pow_right (by omega) (by omega)))
    · rintro h i ⟨h3, h4⟩
      rw [hx] at h4
      simp at h4
      rw [Nat.testBit_lt_two_pow (Nat.lt_of_lt_of_le h (Nat.pow_le_pow_right (by omega) (by omega)))] at h3
      simp at h3
  · rw [Bool.eq_iff_iff, decide_eq_true_eq, allB_true]
    rw [show ((l &&& (2 ^ 64 - 1 - k) : Nat) : Int) = 0 ↔ l &&& (2 ^ 64 - 1 - k) = 0 by omega, and_zero_iff]
    have hx : ∀ i, (2 ^ 64 - 1 - k).testBit i = (decide (i < 64) && !k.testBit i) := fun i => by
      rw [show 2 ^ 64 - 1 - k = 2 ^ 64 - (k + 1) by omega, Nat.testBit_two_pow_sub_succ hk2]
    simp only [decide_eq_true_eq]
    have hb : ∀ i, bitI (l : Int) i ≤ bitI (k : Int) i ↔ ¬ (l.testBit i = true ∧ k.testBit i = false) := fun i => by
      rw [bitI_bit (by omega), bitI_bit (by omega)]
      simp only [Int.toNat_natCast]
      by_cases hl : l.testBit i = true <;> by_cases hk : k.testBit i = true <;> simp [hl, hk]
    constructor
    · intro h i hi
      rw [hb]
      have := h i
      rw [hx] at this
      simpa [hi] using this
    · rintro h i ⟨h3, h4⟩
      rw [hx] at h4
      simp at h4
      exact (hb i).1 (h i h4.1) ⟨h3, h4.2⟩

theorem freshB_ops {s : Ins_} {i : Nat} (h : i < s.operands.length) : freshB (pc :: (s.operands.map (·.name)).take i) (gt s.operands (i : Nat)).name = (isName (gt s.operands (i : Nat)).name && !decide ((gt s.operands (i : Nat)).name = pc) && allB i fun k => !decide ((gt s.operands (k : Nat)).name = (gt s.operands (i : Nat)).name)) := by
  have := fresh_take (l := s.operands) (·.name) h
  rw [freshB] at this ⊢
  rw [List.any_cons, Bool.not_or]
  cases hn : isName (gt s.operands (i : Nat)).name
  · simp
  · rw [hn, Bool.true_and, Bool.true_and] at this
    rw [this]; simp [Bool.and_assoc]
theorem insSt_iff {m : Mach} {s : Ins_} {c : Bool} (hw : c = true → 1 ≤ m.word ∧ m.word ≤ 4) : ∀ n, ((insSt m s c n).1 = true ↔ c = true ∧ ∀ i, i < n → freshB (pc :: (s.operands.map (·.name)).take i) (gt s.operands (i : Nat)).name = true ∧ opOk m s i = true ∧ tkT s i &&& takenN (gt s.operands (i : Nat)).pieces (gt s.operands (i : Nat)).pieces.length = 0) ∧ ((insSt m s c n).1 = true → (insSt m s c n).2 = tkT s n)
  | 0 => ⟨by simp [insSt], fun _ => rfl⟩
  | n + 1 => by
    obtain ⟨ih1, ih2⟩ := insSt_iff hw n
    have key : (insSt m s c (n + 1)).1 = true ↔ (insSt m s c n).1 = true ∧ freshB (pc :: (s.operands.map (·.name)).take n) (gt s.operands (n : Nat)).name = true ∧ opOk m s n = true ∧ tkT s n &&& takenN (gt s.operands (n : Nat)).pieces (gt s.operands (n : Nat)).pieces.length = 0 := by
      simp only [insSt, Bool.and_eq_true, decide_eq_true_eq]
      constructor
      · rintro ⟨⟨⟨h1, h2⟩, h3⟩, h4⟩
        rw [ih2 h1, opTaken_eq (by simp [h1, h2, h3])] at h4
        exact ⟨h1, h2, h3, h4⟩
      · rintro ⟨h1, h2, h3, h4⟩
        rw [ih2 h1, opTaken_eq (by simp [h1, h2, h3])]
        exact ⟨⟨⟨h1, h2⟩, h3⟩, h4⟩
    constructor
    · rw [key, ih1]
      constructor
      · rintro ⟨⟨h1, h2⟩, h3⟩
        exact ⟨h1, fun i hi => by rcases Nat.lt_or_eq_of_le (Nat.le_of_lt_succ hi) with hi | rfl; exact h2 i hi; exact h3⟩
      · rintro ⟨h1, h2⟩
        exact ⟨⟨h1, fun i hi => h2 i (by omega)⟩, h2 n (by omega)⟩
    · intro h
      obtain ⟨h1, h2, h3, -⟩ := key.1 h
      simp only [insSt, tkT]
      rw [ih2 h1, opTaken_eq (by simp [h1, h2, h3])]
theorem okOperand_eq {m : Mach} {s : Ins_} {i : Nat} (h : i < s.operands.length) : okOperand m s i = (freshB (pc :: (s.operands.map (·.name)).take i) (gt s.operands (i : Nat)).name && (allB (gt s.operands (i : Nat)).pieces.length (rngOk m.word (gt s.operands (i : Nat)).pieces) && kindOk m s i)) := by
  rw [freshB_ops h]
  have : okPieces (gt s.operands (i : Nat)) m.word = allB (gt s.operands (i : Nat)).pieces.length (rngOk m.word (gt s.operands (i : Nat)).pieces) := rfl
  simp only [okOperand, this, kindOk]
  ac_rfl
theorem ins_ops {m : Mach} {s : Ins_} (hw : 1 ≤ m.word ∧ m.word ≤ 4) (h1 : 0 ≤ s.mask ∧ s.mask ≤ 18446744073709551615) (h2 : 0 ≤ s.mtch ∧ s.mtch ≤ 18446744073709551615) :
    (insSt m s (insMasks m s) s.operands.length).1 = (decide (s.mask < 2 ^ (8 * m.word).toNat) && allB 64 (fun b => decide (bitI s.mtch b ≤ bitI s.mask b)) && allB s.operands.length (okOperand m s) && apart m s) := by
  rw [Bool.eq_iff_iff, (insSt_iff (fun _ => hw) _).1, insMasks_iff hw h1 h2]
  simp only [Bool.and_eq_true, decide_eq_true_eq, allB_true]
  constructor
  · rintro ⟨⟨a, b⟩, c⟩
    have hr : rngs m s s.operands.length := fun i hi j hj => by
      have := (c i hi).2.1
      simp only [opOk, Bool.and_eq_true, allB_true, pcOk] at this
      exact (this.1 j hj).1
    refine ⟨⟨⟨a, b⟩, fun i hi => ?_⟩, ?_⟩
    · rw [okOperand_eq hi]
      simp only [Bool.and_eq_true, allB_true]
      have := (c i hi).2.1
      simp only [opOk, Bool.and_eq_true] at this
      exact ⟨(c i hi).1, hr i hi, this.2⟩
    · rw [apart_iff hw h1.1 a hr]
      refine (ops_apart h1.1 _ hr).1 fun i hi => ⟨fun j hj => ?_, (c i hi).2.2⟩
      have := (c i hi).2.1
      simp only [opOk, Bool.and_eq_true, allB_true, pcOk, decide_eq_true_eq] at this
      exact (this.1 j hj).2
  · rintro ⟨⟨⟨a, b⟩, c⟩, d⟩
    have hc : ∀ i, i < s.operands.length → freshB (pc :: (s.operands.map (·.name)).take i) (gt s.operands (i : Nat)).name = true ∧ (∀ j, j < (gt s.operands (i : Nat)).pieces.length → rngOk m.word (gt s.operands (i : Nat)).pieces j = true) ∧ kindOk m s i = true := fun i hi => by
      have := c i hi
      rw [okOperand_eq hi] at this
      simpa only [Bool.and_eq_true, allB_true] using this
    have hr : rngs m s s.operands.length := fun i hi => (hc i hi).2.1
    rw [apart_iff hw h1.1 a hr] at d
    have hd := (ops_apart h1.1 _ hr).2 d
    refine ⟨⟨a, b⟩, fun i hi => ⟨(hc i hi).1, ?_, (hd i hi).2⟩⟩
    simp only [opOk, Bool.and_eq_true, allB_true, pcOk, decide_eq_true_eq]
    exact ⟨fun j hj => ⟨(hc i hi).2.1 j hj, (hd i hi).1 j hj⟩, (hc i hi).2.2⟩
end Go.Proofs.YtbghfliffomfdaaGreatDoorV

/- Plain laws: effects; Check, the two ways. -/
namespace Go.Proofs.YtbghfliffomfdaaGreatDoorV
open Go
set_option maxHeartbeats 1000000

theorem look_fold {α : Type} (f : α → ByteArray) (g : α → Int) (n : ByteArray) : ∀ (l : List α) (a : NV), (∀ x ∈ l, ∀ y ∈ l, f x = f y → x = y) →
    lookV (l.foldl (fun a o => putV a (f o) (g o)) a) n = (l.find? (fun o => decide (f o = n))).elim (lookV a n) fun o => some (g o)
  | [], a, _ => rfl
  | x :: r, a, h => by
    rw [List.foldl_cons, look_fold f g n r _ fun y hy z hz => h y (.tail _ hy) z (.tail _ hz), List.find?_cons]
    by_cases hx : f x = n
    · simp only [hx, decide_true]
      cases hf : r.find? (fun o => decide (f o = n)) with
      | none => simp [lookV_putV]
      | some y =>
        have h1 := List.find?_some hf
        simp only [decide_eq_true_eq] at h1
        have h2 := h x (.head _) y (.tail _ (List.mem_of_find?_eq_some hf)) (by rw [hx, h1])
        simp [h2]
    · simp only [hx, decide_false]
      cases hf : r.find? (fun o => decide (f o = n)) with
      | none => simp [lookV_putV, Ne.symm hx]
      | some y => rfl
theorem inj_of {α : Type} [Inhabited α] {l : List α} {f : α → ByteArray} (h : ∀ i, i < l.length → ∀ k, k < i → f (gt l (k : Nat)) ≠ f (gt l (i : Nat))) : ∀ x ∈ l, ∀ y ∈ l, f x = f y → x = y := by
  intro x hx y hy he
  obtain ⟨i, hi, rfl⟩ := List.getElem_of_mem hx
  obtain ⟨k, hk, rfl⟩ := List.getElem_of_mem hy
  rcases Nat.lt_trichotomy i k with hik | rfl | hik
  · have := h k hk i hik
    rw [gt_nat hi, gt_nat hk] at this
    exact absurd he this
  · rfl
  · have := h i hi k hik
    rw [gt_nat hi, gt_nat hk] at this
    exact absurd he.symm this
theorem rname_pc (n : ByteArray) : rname n ≠ pc := by
  intro h
  have := congrArg ByteArray.data h
  rw [rname, rdot, pc, ByteArray.data_append] at this
  have := congrArg Array.toList this
  simp at this
theorem rname_inj {a b : ByteArray} (h : rname a = rname b) : a = b := by
  rw [rname, rname] at h
  have := congrArg ByteArray.data h
  rw [ByteArray.data_append, ByteArray.data_append] at this
  have := congrArg Array.toList this
  simp [rdot] at this
  exact ByteArray.ext this
/-- Names of operands and registers are as Check wants them. -/
def namesOk (m : Mach) (s : Ins_) : Prop := (∀ i, i < m.regs.length → ∀ k, k < i → (gt m.regs (k : Nat)).name ≠ (gt m.regs (i : Nat)).name) ∧ (∀ i, i < s.operands.length → ∀ k, k < i → (gt s.operands (k : Nat)).name ≠ (gt s.operands (i : Nat)).name) ∧ ∀ o ∈ s.operands, o.name ≠ pc
theorem var_eq {m : Mach} {s : Ins_} (h : namesOk m s) (n : ByteArray) {w : Int} (hw : 1 ≤ w) : decide ((lookV (insVars m s) n).getD 0 = w) = isVarOf m s n w := by
  obtain ⟨h1, h2, h3⟩ := h
  have e1 : lookV (insVars m s) n = (s.operands.find? (fun o => decide (o.name = n))).elim (lookV (regVars m m.regs.length) n) fun o => some (wideI m o) := by
    rw [insVars, insVarsN, List.take_length]; exact look_fold (fun o : Opnd => o.name) (wideI m) n s.operands (regVars m m.regs.length) (inj_of h2)
  have e2 : lookV (regVars m m.regs.length) n = (m.regs.find? (fun r => decide (rname r.name = n))).elim (lookV [(pc, m.address)] n) fun r => some r.width := by
    rw [regVars, List.take_length]; exact look_fold (fun r : Reg => rname r.name) (fun r : Reg => r.width) n m.regs [(pc, m.address)] (inj_of (f := fun r : Reg => rname r.name) fun i hi k hk he => h1 i hi k hk (rname_inj he))
  rw [e1, e2]
  unfold isVarOf
  by_cases hn : n = pc
  · subst hn
    have f1 : s.operands.find? (fun o => decide (o.name = pc)) = none := List.find?_eq_none.2 fun o ho => by simpa using h3 o ho
    have f2 : m.regs.find? (fun r => decide (rname r.name = pc)) = none := List.find?_eq_none.2 fun r _ => by simpa using rname_pc r.name
    rw [f1, f2]
    simp [lookV, eq_comm]
  · rw [if_neg hn]
    cases s.operands.find? (fun o => decide (o.name = n)) with
    | some o => simp [eq_comm]
    | none =>
      cases m.regs.find? (fun r => decide (rname r.name = n)) with
      | some r => simp [eq_comm]
      | none => simp [lookV, hn]; omega
theorem knownL_eq {m : Mach} {s : Ins_} : ∀ {l : List Tm}, knownL m s l = l.all (known m s)
  | [] => rfl
  | t :: r => by rw [knownL, knownL_eq, List.all_cons]
theorem known_eq {m : Mach} {s : Ins_} {t : Tm} : known m s t = ((!decide (t.op = 2) || isVarOf m s t.name t.width) && (!decide (t.op = 24) || decide ((gt t.sub 0).width = m.address)) && t.sub.all (known m s)) := by cases t; rw [known, knownL_eq]
theorem leaves_known {m : Mach} {s : Ins_} (h : namesOk m s) (n : Nat) : ∀ t : Tm, SizeOf.sizeOf t < n → t.formed = true → leavesB m.address (insVars m s) t = known m s t := by
  induction n with
  | zero => intro t h; omega
  | succ n ih =>
  intro t hn hf
  have hwd := (Tm.formed_width hf).1
  rw [Tm.formed_eq, Bool.and_eq_true, Tm.formedL_eq] at hf
  rw [leavesB_eq, known_eq]
  have hsub : t.sub.all (leavesB m.address (insVars m s)) = t.sub.all (known m s) := by
    rw [Bool.eq_iff_iff, List.all_eq_true, List.all_eq_true]
    have : ∀ u ∈ t.sub, leavesB m.address (insVars m s) u = known m s u := fun u hu => by
      obtain ⟨i, hi, rfl⟩ := List.getElem_of_mem hu
      have h1 := Tm.size_gt hi
      rw [gt_nat hi] at h1
      exact ih _ (by omega) (List.all_eq_true.1 hf.1 _ hu)
    exact ⟨fun h u hu => by rw [← this u hu]; exact h u hu, fun h u hu => by rw [this u hu]; exact h u hu⟩
  rw [hsub]
  congr 1
  unfold leafB
  by_cases h2 : t.op = 2
  · simp [h2, var_eq h _ hwd]
  · by_cases h24 : t.op = 24
    · simp [h24]
    · simp [h2, h24]
theorem fit_eq {m : Mach} {s : Ins_} (h : namesOk m s) (t : Tm) : fitB m (insVars m s) t = fitsB m s t := by
  unfold fitB fitsB
  by_cases hc : t.check = 0
  · have hf : t.formed = true := by
      rw [Tm.check_eq] at hc
      split at hc
      · omega
      · split at hc
        · assumption
        · omega
    rw [leaves_known h _ t (Nat.lt_succ_self _) hf]
  · simp [hc]
theorem eff_eq {m : Mach} {s : Ins_} (h : namesOk m s) (x : Eff) : effB m s (insVars m s) x = okEffect m s x := by
  unfold effB okEffect
  simp only [fit_eq h]
  by_cases h1 : x.kind = 1
  · simp only [h1, if_true]
    have hin : inR (-1) 0 ((s.operands.length : Int) - 1) = false := by simp [inR]
    by_cases ho : x.operand = -1
    · simp only [ho, true_and, if_true, hin]
      by_cases hr : inR x.reg 0 ((m.regs.length : Int) - 1) = true
      · simp [hr]; ac_rfl
      · simp [hr]
    · simp only [ho, false_and, if_false]
      by_cases hr : x.reg = 0 ∧ inR x.operand 0 ((s.operands.length : Int) - 1) = true
      · simp [hr]; ac_rfl
      · rw [if_neg hr]
        have : (decide (x.reg = 0) && inR x.operand 0 ((s.operands.length : Int) - 1)) = false := by
          rw [Bool.eq_false_iff]; intro hh; apply hr; simpa using hh
        simp [this]
  · by_cases h2 : x.kind = 2
    · simp [h2]; ac_rfl
    · by_cases h3 : x.kind = 3
      · simp [h3]; ac_rfl
      · by_cases h4 : x.kind = 4
        · simp [h4]; ac_rfl
        · simp [h1, h2, h3, h4]
theorem names_ok {m : Mach} {s : Ins_} (hr : okRegs m = true) (ho : allB s.operands.length (okOperand m s) = true) : namesOk m s := by
  refine ⟨fun i hi k hk => ?_, fun i hi k hk => ?_, fun o hm => ?_⟩
  · simp only [okRegs, Bool.and_eq_true] at hr
    have := allB_true.1 hr.1 i hi
    simp only [rgOk, Bool.and_eq_true] at this
    simpa using allB_true.1 this.1.2 k hk
  · have := allB_true.1 ho i hi
    rw [okOperand_eq hi, freshB_ops hi] at this
    simp only [Bool.and_eq_true] at this
    simpa using allB_true.1 this.1.2 k hk
  · obtain ⟨i, hi, rfl⟩ := List.getElem_of_mem hm
    have := allB_true.1 ho i hi
    rw [okOperand_eq hi, freshB_ops hi] at this
    simp only [Bool.and_eq_true] at this
    have := this.1.1.2
    rw [gt_nat hi] at this
    simpa using this
theorem ins_eq {m : Mach} {s : Ins_} (hw : 1 ≤ m.word ∧ m.word ≤ 4) (hr : okRegs m = true) (h1 : 0 ≤ s.mask ∧ s.mask ≤ 18446744073709551615) (h2 : 0 ≤ s.mtch ∧ s.mtch ≤ 18446744073709551615) : insB m s = okInstr m s := by
  rw [insB, ins_ops hw h1 h2]
  unfold okInstr
  by_cases ho : allB s.operands.length (okOperand m s) = true
  · have hn := names_ok hr ho
    have he : effB m s (insVars m s) = okEffect m s := funext fun x => eff_eq hn x
    have hl : (decide (countK s 4 = 0) || decide (s.effects.length = 1)) = (decide (countK s 4 = 0) || decide (s.effects.length ≤ 1)) := by
      by_cases h0 : countK s 4 = 0
      · simp [h0]
      · have : s.effects.length ≠ 0 := by
          intro hz; apply h0
          rw [List.length_eq_zero_iff] at hz
          simp [countK, hz]
        simp only [h0, decide_false, Bool.false_or]
        rw [Bool.eq_iff_iff]; simp; omega
    rw [he, insTail, hl]
    ac_rfl
  · simp [ho]
theorem mcheck_eq {m : Mach} (h : ∀ s ∈ m.instrs, (0 ≤ s.mask ∧ s.mask ≤ 18446744073709551615) ∧ 0 ≤ s.mtch ∧ s.mtch ≤ 18446744073709551615) : mchk m = mcheck m := by
  unfold mchk mcheck
  have hc : ∀ n, n ≤ m.instrs.length → chkSt m n = (chkBase m && allB n (instrOk m)) := by
    intro n
    induction n with
    | zero => simp [chkSt]
    | succ n ih =>
      intro hn
      have hlt : n < m.instrs.length := by omega
      rw [chkSt, ih (by omega), allB_succ, fresh_take (l := m.instrs) (·.name) hlt]
      by_cases hb : chkBase m = true
      · have hbs := hb
        simp only [chkBase, Bool.and_eq_true] at hbs
        obtain ⟨⟨⟨⟨⟨-, hw⟩, -⟩, hrg⟩, -⟩, -⟩ := hbs
        have hw' : 1 ≤ m.word ∧ m.word ≤ 4 := by simpa [inR] using hw
        obtain ⟨h1, h2⟩ := h _ (gt_mem (l := m.instrs) (i := (n : Nat)) (by omega) (by omega))
        rw [ins_eq hw' hrg h1 h2]
        simp only [instrOk]
        ac_rfl
      · simp [hb]
  rw [hc _ (Nat.le_refl _)]
  rfl
end Go.Proofs.YtbghfliffomfdaaGreatDoorV

/- Plain law: the parts of registers. -/
namespace Go.Proofs.YtbghfliffomfdaaGreatDoorV
open Go

/-- The roots below a number of registers. -/
def topsN (m : Mach) : Nat → List Int
  | 0 => []
  | i + 1 => topsN m i ++ if (gt m.regs (i : Nat)).of = -1 then [(i : Int)] else []
def tops (m : Mach) : List Int := topsN m m.regs.length
def topOf (m : Mach) (reg : Int) : Int := if (gt m.regs reg).of = -1 then reg else (gt m.regs reg).of
/-- The place of a number in a list. -/
def place (l : List Int) (x : Int) : Nat := l.idxOf x
def partI (m : Mach) (reg : Int) : Int × Int × Int := if inR reg 0 (m.regs.length - 1) then (((place (tops m) (topOf m reg) : Nat) : Int), (gt m.regs reg).low, (gt m.regs reg).width) else (0, 0, 0)
def partE (m : Mach) (reg : Int) : Int := if mcheck m = 0 then if inR reg 0 (m.regs.length - 1) then 0 else 2 else mcheck m
def overB (m : Mach) (a b : Int) : Bool :=
  decide ((partI m a).1 = (partI m b).1) && decide ((partI m a).2.1 < (partI m b).2.1 + (partI m b).2.2) && decide ((partI m b).2.1 < (partI m a).2.1 + (partI m a).2.2)
def overE (m : Mach) (a b : Int) : Int := if partE m a = 0 then partE m b else partE m a
def sumN (f : Nat → Nat) : Nat → Nat
  | 0 => 0
  | n + 1 => sumN f n + f n
def effNodes (x : Eff) : Nat := x.addr.nodes + x.value.nodes + x.cond.nodes
def insNodes (s : Ins_) (k : Nat) : Nat := sumN (fun k => effNodes (gt s.effects (k : Nat))) k
def machNodes (m : Mach) (i : Nat) : Nat := sumN (fun i => insNodes (gt m.instrs (i : Nat)) (gt m.instrs (i : Nat)).effects.length) i
def greatBk (b : Bank) : Bool := decide (74 < b.regs.length) || decide (100 < b.name.size)
def greatOp (o : Opnd) : Bool := decide (14 < o.pieces.length) || decide (100 < o.name.size)
def greatEf (x : Eff) : Bool := x.addr.great || x.value.great || x.cond.great
def greatIn (s : Ins_) : Bool := decide (14 < s.operands.length) || decide (14 < s.effects.length) || decide (100 < s.name.size) || s.operands.any greatOp || s.effects.any greatEf
def greatM (m : Mach) : Bool :=
  decide (100 < m.name.size) || decide (74 < m.regs.length) || decide (26 < m.banks.length) || decide (18 < m.units.length) || decide (74 < m.instrs.length) || m.banks.any greatBk || m.instrs.any greatIn || decide (1500 < machNodes m m.instrs.length)
theorem sumN_le {f : Nat → Nat} {c : Nat} : ∀ {n : Nat}, (∀ i, i < n → f i ≤ c) → sumN f n ≤ n * c
  | 0, _ => by simp [sumN]
  | n + 1, h => by
    have h1 := sumN_le (f := f) (c := c) (n := n) fun i hi => h i (by omega)
    have h2 := h n (by omega)
    rw [sumN, Nat.add_mul]; omega

def fndI {α : Type} (m : Mach) (l : List α) (p : α → Bool) : Int := if mcheck m = 0 then if fstI p l < 0 then 0 else fstI p l else 0
def fndE {α : Type} (m : Mach) (l : List α) (p : α → Bool) : Int := if mcheck m = 0 then if fstI p l < 0 then 6 else 0 else mcheck m
def rootsL (m : Mach) : List Int := if mcheck m = 0 then tops m else []
def partR (m : Mach) (reg : Int) : Int × Int × Int := if mcheck m = 0 then partI m reg else (0, 0, 0)
def overR (m : Mach) (a b : Int) : Bool := decide (overE m a b = 0) && overB m a b

theorem topsN_lt (m : Mach) : ∀ n, ∀ x ∈ topsN m n, 0 ≤ x ∧ x < n
  | 0, x, h => by simp [topsN] at h
  | n + 1, x, h => by
    rw [topsN, List.mem_append] at h
    rcases h with h | h
    · have := topsN_lt m n x h; omega
    · split at h
      · simp only [List.mem_singleton] at h; omega
      · simp at h
theorem topsN_sorted (m : Mach) : ∀ n, (topsN m n).Pairwise (· < ·)
  | 0 => by simp [topsN]
  | n + 1 => by
    rw [topsN, List.pairwise_append]
    refine ⟨topsN_sorted m n, by split <;> simp, fun a ha b hb => ?_⟩
    have h1 := topsN_lt m n a ha
    split at hb
    · simp only [List.mem_singleton] at hb; omega
    · simp at hb
theorem topsN_len (m : Mach) : ∀ n, (topsN m n).length ≤ n
  | 0 => by simp [topsN]
  | n + 1 => by
    have := topsN_len m n
    rw [topsN, List.length_append]
    split <;> simp <;> omega
theorem mem_topsN (m : Mach) {i : Nat} : ∀ n, i < n → (gt m.regs (i : Nat)).of = -1 → (i : Int) ∈ topsN m n
  | 0, h, _ => by omega
  | n + 1, h, ho => by
    rw [topsN, List.mem_append]
    rcases Nat.lt_or_eq_of_le (Nat.le_of_lt_succ h) with h | rfl
    · exact .inl (mem_topsN m n h ho)
    · right; rw [if_pos ho]; simp
theorem topOf_mem {m : Mach} (hr : okRegs m = true) {reg : Int} (h : inR reg 0 (m.regs.length - 1) = true) : topOf m reg ∈ tops m := by
  have h1 : 0 ≤ reg ∧ reg ≤ (m.regs.length : Int) - 1 := by simpa [inR] using h
  simp only [okRegs, Bool.and_eq_true] at hr
  have h2 := allB_true.1 hr.1 reg.toNat (by omega)
  simp only [rgOk, Bool.and_eq_true] at h2
  rw [Int.toNat_of_nonneg h1.1] at h2
  have h3 := h2.2
  unfold topOf
  split at h3
  · rename_i ho
    rw [if_pos ho]
    obtain ⟨i, rfl⟩ := Int.eq_ofNat_of_zero_le h1.1
    exact mem_topsN m _ (by omega) ho
  · rename_i ho
    rw [if_neg ho]
    simp only [Bool.and_eq_true, decide_eq_true_eq] at h3
    have h4 : 0 ≤ (gt m.regs reg).of ∧ (gt m.regs reg).of ≤ (m.regs.length : Int) - 1 := by simpa [inR] using h3.1
    obtain ⟨i, hi⟩ := Int.eq_ofNat_of_zero_le h4.1
    have h5 := h3.2.1.1.1
    rw [hi] at h5 h4 ⊢
    exact mem_topsN m _ (by omega) h5
theorem low_of {m : Mach} (hr : okRegs m = true) {reg : Int} (h : inR reg 0 (m.regs.length - 1) = true) : 0 ≤ (gt m.regs reg).low ∧ (gt m.regs reg).low ≤ 64 ∧ 1 ≤ (gt m.regs reg).width ∧ (gt m.regs reg).width ≤ 64 := by
  have h1 : 0 ≤ reg ∧ reg ≤ (m.regs.length : Int) - 1 := by simpa [inR] using h
  simp only [okRegs, Bool.and_eq_true] at hr
  have h2 := allB_true.1 hr.1 reg.toNat (by omega)
  simp only [rgOk, Bool.and_eq_true] at h2
  rw [Int.toNat_of_nonneg h1.1] at h2
  have h3 := h2.2
  have h4 : 1 ≤ (gt m.regs reg).width ∧ (gt m.regs reg).width ≤ 64 := by simpa [inR] using h2.1.1.2
  split at h3
  · simp only [decide_eq_true_eq] at h3; omega
  · simp only [Bool.and_eq_true, decide_eq_true_eq] at h3
    have h5 : 1 ≤ (gt m.regs (gt m.regs reg).of).width ∧ (gt m.regs (gt m.regs reg).of).width ≤ 64 := by simpa [inR] using h3.2.1.1.2
    have h6 : 0 ≤ (gt m.regs reg).low ∧ (gt m.regs reg).low ≤ (gt m.regs (gt m.regs reg).of).width - (gt m.regs reg).width := by simpa [inR] using h3.2.2
    omega
theorem first_place {l : List Int} {x : Int} {i : Nat} (hi : i < l.length) (he : gt l (i : Nat) = x) (hn : ∀ k, k < i → gt l (k : Nat) ≠ x) : place l x = i := by
  induction l generalizing i with
  | nil => simp at hi
  | cons a r ih =>
    unfold place
    cases i with
    | zero =>
      have : a = x := by simpa [gt] using he
      rw [List.idxOf_cons, this]; simp
    | succ i =>
      have h0 : a ≠ x := by have := hn 0 (by omega); simpa [gt] using this
      have hi' : i < r.length := by simpa using hi
      rw [gt_cons hi'] at he
      have := ih hi' he fun k hk => by have := hn (k + 1) (by omega); rwa [gt_cons (by omega)] at this
      rw [List.idxOf_cons, show (a == x) = false from by simp [h0]]
      unfold place at this
      simp [this]
theorem place_gt {l : List Int} {x : Int} (h : x ∈ l) : place l x < l.length ∧ gt l ((place l x : Nat) : Int) = x := by
  have h1 : l.idxOf x < l.length := List.idxOf_lt_length_iff.2 h
  refine ⟨h1, ?_⟩
  unfold place
  rw [gt_nat h1]; exact List.getElem_idxOf h1
theorem sorted_gt {l : List Int} (hs : l.Pairwise (· < ·)) {i k : Nat} (h : i < k) (hk : k < l.length) : gt l (i : Nat) < gt l (k : Nat) := by
  rw [gt_nat hk, gt_nat (by omega)]
  exact List.pairwise_iff_getElem.1 hs i k _ hk h
theorem sorted_place {l : List Int} (hs : l.Pairwise (· < ·)) {x : Int} (hx : x ∈ l) {i : Nat} (hi : i ≤ l.length) (h1 : ∀ k, k < i → gt l (k : Nat) < x) (h2 : ∀ k, i ≤ k → k < l.length → x ≤ gt l (k : Nat)) : place l x = i := by
  obtain ⟨hp, he⟩ := place_gt hx
  rcases Nat.lt_trichotomy (place l x) i with h | h | h
  · have := h1 _ h; omega
  · exact h
  · have h3 := h2 i (Nat.le_refl _) (by omega)
    have h4 := sorted_gt hs h hp
    omega
theorem fstI_le {α : Type} {l : List α} {p : α → Bool} : -1 ≤ fstI p l ∧ fstI p l < l.length ∨ l = [] ∧ fstI p l = -1 := by
  unfold fstI
  split
  · rename_i i h
    rw [List.findIdx?_eq_some_iff_getElem] at h
    obtain ⟨h1, -⟩ := h
    left; omega
  · by_cases h : l = []
    · exact .inr ⟨h, rfl⟩
    · have := List.length_pos_iff.2 h; left; omega
/-- What the program asks of two parts that overlap. -/
theorem over_eq {m : Mach} (hr : okRegs m = true) {a b : Int} (ha : inR a 0 (m.regs.length - 1) = true) (hb : inR b 0 (m.regs.length - 1) = true) :
    overB m a b = (decide ((partI m a).1 = (partI m b).1) && decide (max (partI m a).2.1 (partI m b).2.1 < min ((partI m a).2.1 + (partI m a).2.2) ((partI m b).2.1 + (partI m b).2.2))) := by
  have h1 := low_of hr ha
  have h2 := low_of hr hb
  rw [overB, Bool.and_assoc]
  congr 1
  rw [← Bool.decide_and, decide_eq_decide]
  simp only [partI, ha, hb, if_true]
  omega
theorem mcheck_regs {m : Mach} (h : mcheck m = 0) : okRegs m = true ∧ inLimits m = true := by
  unfold mcheck at h
  split at h
  · rename_i hl
    split at h
    · rename_i hb
      simp only [Bool.and_eq_true] at hb
      exact ⟨hb.1.1.1.2, hl⟩
    · omega
  · omega
theorem mach_bd {m : Mach} (h : m.pv.wf) : m.regs.length ≤ 9223372036854775807 ∧ m.banks.length ≤ 9223372036854775807 ∧ m.units.length ≤ 9223372036854775807 ∧ m.instrs.length ≤ 9223372036854775807 ∧ (∀ b ∈ m.banks, b.regs.length ≤ 9223372036854775807) ∧ ∀ s ∈ m.instrs, s.operands.length ≤ 9223372036854775807 := by
  rw [Mach.wf_pv] at h; simp [-Mach.fold, maxLen] at h
  obtain ⟨-, -, -, ⟨h1, -⟩, ⟨h2, h5⟩, ⟨h3, -⟩, ⟨h4, h6⟩⟩ := h
  refine ⟨h1, h2, h3, h4, fun b hb => ?_, fun s hs => ?_⟩
  · have := h5 b hb; rw [Bank.wf_pv] at this; simp [-Bank.fold, maxLen, ints] at this; exact this.2.1
  · have := h6 s hs; rw [Ins_.wf_pv] at this; simp [-Ins_.fold, maxLen] at this; exact this.2.2.2.1.1
end Go.Proofs.YtbghfliffomfdaaGreatDoorV

/- Contracts: the reference of layer 8: small functions. -/
namespace Go.Proofs.YtbghfliffomfdaaGreatDoorV
open Go
set_option maxRecDepth 100000
set_option maxHeartbeats 4000000

theorem p_r8_In (gl : Glob) (n a b : Int) : PCall Tryz.prog gl 29 [.pv (.int .i64 n), .pv (.int .i64 a), .pv (.int .i64 b)] (.pv (.bool (inR n a b))) := by
  refine k_retargetref08_In.pcall (by simp) (by simp) (by simp) fun hwf => ?_
  simp [c_retargetref08_In, inR]
theorem two_i64 : ∀ n : Nat, n < 63 → IntKind.i64.wrap (2 ^ n) = 2 ^ n := by decide
theorem p_r8_Power (gl : Glob) (n : Nat) (hn : n < 63) : PCall Tryz.prog gl 40 [.pv (.int .i64 n)] (.pv (.int .i64 (2 ^ n))) := by
  refine k_retargetref08_Power.pcall (by simp) (by simp) (by simp) fun hwf => ?_
  simp [c_retargetref08_Power]
  refine Loop.nat (fun i => { e := [(0, .pv (.int .i64 n)), (3, .pv (.int .i64 (2 ^ i))), (4, .pv (.int .i64 i))], h := [], nx := 0 }) n (fun _ => True) (by simp) (by simp) (by simp) fun i hi hinv => ?_
  simp
  refine ⟨fun hlt => ⟨hlt, ?_, wrap_nat (by omega) (by omega)⟩, fun hge => ?_⟩
  · rw [← two_i64 (i + 1) (by omega)]; congr 1; omega
  · obtain rfl : i = n := by omega
    rfl
theorem half {x : Int} {i : Nat} (h : 0 ≤ x) : (x / 2 ^ i).tdiv 2 = x / 2 ^ (i + 1) := by
  have h0 : (0 : Int) ≤ 2 ^ i := Int.pow_nonneg (by omega)
  rw [Int.tdiv_eq_ediv_of_nonneg (Int.ediv_nonneg h h0), Int.ediv_ediv, if_neg (by omega), Int.pow_succ, Int.sub_zero]
theorem half_le {x : Int} {i : Nat} (h : 0 ≤ x) : 0 ≤ x / 2 ^ i ∧ x / 2 ^ i ≤ x := by
  refine ⟨Int.ediv_nonneg h (Int.pow_nonneg (by omega)), Int.ediv_le_self _ h⟩
theorem p_r8_Below (gl : Glob) (x w : Int) : PCall Tryz.prog gl 30 [.pv (.int .u64 x), .pv (.int .i64 w)] (.pv (.bool (decide (x < 2 ^ w.toNat)))) := by
  refine k_retargetref08_Below.pcall (by simp) (by simp) (by simp) fun hwf => ?_
  simp [IntKind.min, IntKind.max, IntKind.signed, IntKind.bits] at hwf
  obtain ⟨hx, hw⟩ := hwf
  simp [c_retargetref08_Below]
  refine Loop.nat (fun i => { e := [(0, .pv (.int .u64 (x / 2 ^ i))), (1, .pv (.int .i64 w)), (5, .pv (.int .i64 i))], h := [], nx := 0 }) w.toNat (fun _ => True) (by simp) (by simp) (by simp) fun i hi hinv => ?_
  have hh := half_le (i := i + 1) hx.1
  simp
  refine ⟨fun hlt => ⟨by omega, ?_, wrap_nat (by omega) (by omega)⟩, fun hge => ?_⟩
  · rw [half hx.1]; exact wrap_u64 (by omega) (by omega)
  · obtain rfl : i = w.toNat := by omega
    obtain ⟨k, rfl⟩ := Int.eq_ofNat_of_zero_le hx.1
    have e : ((k : Int) / 2 ^ w.toNat) = ((k / 2 ^ w.toNat : Nat) : Int) := by push_cast; rfl
    have e2 : ((2 : Int) ^ w.toNat) = ((2 ^ w.toNat : Nat) : Int) := by push_cast; rfl
    rw [e, e2]
    have := Nat.div_eq_zero_iff_lt (x := k) (Nat.pow_pos (n := w.toNat) (show 0 < 2 by omega))
    omega
theorem p_r8_Bit (gl : Glob) (w : Int) (n : Nat) (hn : n < 2 ^ 62) : PCall Tryz.prog gl 54 [.pv (.int .u64 w), .pv (.int .i64 n)] (.pv (.int .i64 (bitI w n))) := by
  refine k_retargetref08_Bit.pcall (by simp) (by simp) (by simp) fun hwf => ?_
  simp [IntKind.min, IntKind.max, IntKind.signed, IntKind.bits] at hwf
  simp [c_retargetref08_Bit]
  refine Loop.nat (fun i => { e := [(0, .pv (.int .u64 (w / 2 ^ i))), (1, .pv (.int .i64 n)), (5, .pv (.int .i64 i))], h := [], nx := 0 }) n (fun _ => True) (by simp) (by simp) (by simp) fun i hi hinv => ?_
  have hh := half_le (i := i + 1) hwf.1.1
  have hh2 := half_le (i := i) hwf.1.1
  simp
  refine ⟨fun hlt => ⟨hlt, ?_, wrap_nat (by omega) (by omega)⟩, fun hge => ?_⟩
  · rw [half hwf.1.1]; exact wrap_u64 (by omega) (by omega)
  · obtain rfl : i = n := by omega
    rw [Int.tmod_eq_emod_of_nonneg hh2.1]
    exact wrap_nat (by omega) (by omega)
theorem p_r8_Field (gl : Glob) (o : Opnd) : PCall Tryz.prog gl 41 [.pv o.pv] (.pv (.int .i64 (fieldI o))) := by
  refine k_retargetref08_Field.pcall (by simp) (by simp) (by simp) fun hwf => ?_
  have hb : o.pieces.length ≤ 9223372036854775807 := by have := hwf (.pv o.pv) (by simp); simp only [DV.wf] at this; rw [Opnd.wf_pv] at this; simp [-Opnd.fold, maxLen] at this; exact this.2.2.2.2.1.1
  simp [c_retargetref08_Field]
  refine Loop.nat (fun i => { e := [(1, .ptr 0 0), (3, .pv (.int .i64 (fieldN o.pieces i))), (4, .pv (.int .i64 i))], h := [(0, o.bx)], nx := 1 }) o.pieces.length (fun _ => True) (by simp [Opnd.bx]) (by simp) (by simp [Opnd.bx, fieldN]) fun i hi hinv => ?_
  by_cases hlt : i < o.pieces.length
  · simp [hlt, Opnd.bx, fieldN, wrap_nat (show (0:Int) ≤ i + 1 by omega) (by omega)]
  · obtain rfl : i = o.pieces.length := by omega
    simp [fieldI, Opnd.bx]
theorem p_r8_okPieces (gl : Glob) (o : Opnd) (word : Int) (hw : 1 ≤ word ∧ word ≤ 4) : PCall Tryz.prog gl 88 [.pv o.pv, .pv (.int .i64 word)] (.pv (.bool (okPieces o word))) := by
  refine k_retargetref08_okPieces.pcall (by simp) (by simp) (by simp) fun hwf => ?_
  have hb : o.pieces.length ≤ 9223372036854775807 := by have := hwf (.pv o.pv) (by simp); simp only [DV.wf] at this; rw [Opnd.wf_pv] at this; simp [-Opnd.fold, maxLen] at this; exact this.2.2.2.2.1.1
  simp [c_retargetref08_okPieces]
  refine Loop.nat (fun i => { e := [(1, .pv (.int .i64 word)), (2, .ptr 0 0), (5, .pv (.int .i64 i))], h := [(0, o.bx)], nx := 1 }) o.pieces.length (fun i => allB i (rngOk word o.pieces) = true) (by simp [Opnd.bx]) (by simp) (by simp [Opnd.bx]) fun i hi hinv => ?_
  by_cases hlt : i < o.pieces.length
  · simp [hlt, Opnd.bx]
    refine CallNext.pure (p_r8_In gl _ _ _) fun _ => ?_
    simp
    refine ⟨_, by intros; exact .of (p_r8_In gl _ _ _), by simp, ?_⟩
    simp [hlt, Opnd.bx, wrap_nat (show (0:Int) ≤ i + 1 by omega) (by omega)]
    have hL : ∀ j, okPieces o word = true → j < o.pieces.length → rngOk word o.pieces j = true := fun j h hj => allB_true.1 h j hj
    rw [wrap_i64 (n := 8 * word) (by omega) (by omega)]
    by_cases h1 : inR (gt o.pieces (i : Nat)).len 1 (8 * word) = true
    · have h1' : 1 ≤ (gt o.pieces (i : Nat)).len ∧ (gt o.pieces (i : Nat)).len ≤ 8 * word := by simpa [inR] using h1
      rw [wrap_i64 (by omega) (by omega)]
      refine ⟨fun h => ?_, fun _ h2 => ?_⟩
      · rw [Bool.eq_false_iff]; intro hok
        have := hL i hok hlt
        simp only [rngOk, Bool.and_eq_true] at this
        rcases h with h | h
        · simp [h1] at h
        · simp [this.2] at h
      · rw [allB_succ, hinv]; simp [rngOk, h1, h2]
    · refine ⟨fun _ => ?_, fun h => absurd h h1⟩
      rw [Bool.eq_false_iff]; intro hok
      have := hL i hok hlt
      simp only [rngOk, Bool.and_eq_true] at this
      exact h1 this.1
  · obtain rfl : i = o.pieces.length := by omega
    simp [Opnd.bx]
    exact hinv
theorem p_r8_none (gl : Glob) (t : Tm) : PCall Tryz.prog gl 89 [.pv t.pv] (.pv (.bool (noneB t))) := by
  refine k_retargetref08_none.pcall (by simp) (by simp) (by simp) fun hwf => ?_
  simp [c_retargetref08_none, noneB, Tm.bx]
end Go.Proofs.YtbghfliffomfdaaGreatDoorV

/- Contracts: the reference of layer 8: limits, registers, units. -/
namespace Go.Proofs.YtbghfliffomfdaaGreatDoorV
open Go
set_option maxRecDepth 100000
set_option maxHeartbeats 4000000

theorem p_r8_within (gl : Glob) (m : Mach) : PCall Tryz.prog gl 48 [.pv m.pv] (.pv (.bool (inLimits m))) := by
  refine k_retargetref08_within.pcall (by simp) (by simp) (by simp) fun hwf => ?_
  obtain ⟨hb1, hb2, hb3, hb4, hb5, hb6⟩ := mach_bd (hwf (.pv m.pv) (by simp))
  simp [c_retargetref08_within]
  refine ⟨fun h => ?_, fun g1 g2 g3 g4 => ?_⟩
  · rw [Bool.eq_false_iff]; intro hl
    have := inLimits_iff hl
    omega
  refine Loop.nat (fun i => { e := [(1, .ptr 0 0), (3, .pv (.int .i64 i))], h := [(0, m.bx)], nx := 1 }) m.banks.length (fun i => ∀ k, k < i → (gt m.banks (k : Nat)).regs.length ≤ 64) (by simp [Mach.bx]) (by simp) (by simp [Mach.bx]) fun i hi hinv => ?_
  by_cases hlt : i < m.banks.length
  · have hm := gt_mem (l := m.banks) (i := (i : Nat)) (by omega) (by omega)
    simp [hlt, Mach.bx, wrap_nat (show (0:Int) ≤ i + 1 by omega) (by omega)]
    refine ⟨fun h => ?_, fun h k hk => ?_⟩
    · rw [Bool.eq_false_iff]; intro hl
      have := (inLimits_iff hl).2.2.2.2.1 _ hm
      omega
    · rcases Nat.lt_or_eq_of_le (Nat.le_of_lt_succ hk) with hk | rfl
      · exact hinv k hk
      · omega
  obtain rfl : i = m.banks.length := by omega
  have hB := hinv
  simp [Mach.bx]
  refine Loop.nat (fun i => { e := [(1, .ptr 0 0), (4, .pv (.int .i64 i))], h := [(0, m.bx)], nx := 1 }) m.instrs.length (fun i => ∀ k, k < i → insSmall (gt m.instrs (k : Nat)) = true) (by simp [Mach.bx]) (by simp) (by simp [Mach.bx]) fun i hi hinv => ?_
  by_cases hlt : i < m.instrs.length
  · have hm := gt_mem (l := m.instrs) (i := (i : Nat)) (by omega) (by omega)
    have hb7 := hb6 _ hm
    have hw1 : IntKind.i64.wrap ((i : Int) + 1) = (i : Int) + 1 := wrap_nat (by omega) (by omega)
    have hout : ¬ insSmall (gt m.instrs (i : Nat)) = true → inLimits m = false := fun h => by
      rw [Bool.eq_false_iff]; intro hl
      have h7 := (inLimits_iff hl).2.2.2.2.2 _ hm
      apply h
      simp only [insSmall, Bool.and_eq_true, decide_eq_true_eq, List.all_eq_true]
      exact ⟨⟨h7.1, h7.2.1⟩, h7.2.2⟩
    have hne : m.instrs ≠ [] := by intro h; simp [h] at hlt
    simp [hlt, Mach.bx]
    refine ⟨fun h => hout ?_, fun g5 g6 => ?_⟩
    · simp only [insSmall, Bool.and_eq_true, decide_eq_true_eq]; omega
    generalize hs : gt m.instrs (i : Nat) = s at *
    refine Loop.nat (fun k => { e := [(1, .ptr 0 0), (4, .pv (.int .i64 i)), (5, .pv (.int .i64 k))], h := [(0, m.bx)], nx := 1 }) s.operands.length (fun k => ∀ j, j < k → (gt s.operands (j : Nat)).pieces.length ≤ 4) (by simp [Mach.bx]) (by simp) (by simp [Mach.bx]) fun k hk hinv2 => ?_
    by_cases hkt : k < s.operands.length
    · have hmk := gt_mem (l := s.operands) (i := (k : Nat)) (by omega) (by omega)
      simp [hlt, hs, hkt, Mach.bx, wrap_nat (show (0:Int) ≤ k + 1 by omega) (by omega)]
      refine ⟨fun h => hout ?_, fun h j hj => ?_⟩
      · simp only [insSmall, Bool.and_eq_true, decide_eq_true_eq, List.all_eq_true]
        intro hh; have := hh.2 _ hmk; omega
      · rcases Nat.lt_or_eq_of_le (Nat.le_of_lt_succ hj) with hj | rfl
        · exact hinv2 j hj
        · omega
    · obtain rfl : k = s.operands.length := by omega
      simp [hlt, hs, hw1, Mach.bx]
      intro j hj
      rcases Nat.lt_or_eq_of_le (Nat.le_of_lt_succ hj) with hj | rfl
      · exact hinv j hj
      · rw [hs]
        simp only [insSmall, Bool.and_eq_true, decide_eq_true_eq, List.all_eq_true]
        refine ⟨⟨by omega, by omega⟩, fun o ho => ?_⟩
        obtain ⟨q, hq, rfl⟩ := List.getElem_of_mem ho
        have := hinv2 q hq
        rwa [gt_nat hq] at this
  · obtain rfl : i = m.instrs.length := by omega
    simp [Mach.bx, inLimits]
    refine ⟨⟨⟨⟨⟨by omega, by omega⟩, by omega⟩, by omega⟩, fun b hb => ?_⟩, fun s hs => ?_⟩
    · obtain ⟨q, hq, rfl⟩ := List.getElem_of_mem hb
      have := hB q hq
      rwa [gt_nat hq] at this
    · obtain ⟨q, hq, rfl⟩ := List.getElem_of_mem hs
      have := hinv q hq
      rw [gt_nat hq] at this
      simpa only [insSmall, Bool.and_eq_true, decide_eq_true_eq, List.all_eq_true] using this
theorem p_r8_okUnits (gl : Glob) (m : Mach) : PCall Tryz.prog gl 52 [.pv m.pv] (.pv (.bool (okUnits m))) := by
  refine k_retargetref08_okUnits.pcall (by simp) (by simp) (by simp) fun hwf => ?_
  obtain ⟨hb1, hb2, hb3, hb4, hb5, hb6⟩ := mach_bd (hwf (.pv m.pv) (by simp))
  simp [c_retargetref08_okUnits]
  refine Loop.nat (fun i => { e := [(1, .ptr 0 0), (3, .pv (.int .i64 i))], h := [(0, m.bx)], nx := 1 }) m.units.length (fun i => allB i (unitOk m) = true) (by simp [Mach.bx]) (by simp) (by simp [Mach.bx]) fun i hi hinv => ?_
  by_cases hlt : i < m.units.length
  · have hw1 : IntKind.i64.wrap ((i : Int) + 1) = (i : Int) + 1 := wrap_nat (by omega) (by omega)
    have hne : m.units ≠ [] := by intro h; simp [h] at hlt
    have hout : unitOk m i = false → okUnits m = false := fun h => by simp [okUnits, allB_false hlt h]
    simp [hlt, hne, Mach.bx]
    refine CallNext.pure (p_retargetref01_Name gl _) fun _ => ?_
    simp [hne, hlt]
    refine ⟨_, by intros; exact .of (p_r8_In gl _ _ _), by simp, ?_⟩
    simp
    refine ⟨fun h => ?_, fun g1 g2 => ?_⟩
    · refine hout ?_
      rcases h with h | h <;> simp [unitOk, h]
    refine Loop.nat (fun k => { e := [(1, .ptr 0 0), (3, .pv (.int .i64 i)), (4, .pv (.int .i64 k))], h := [(0, m.bx)], nx := 1 }) i (fun k => (allB k fun j => !decide ((gt m.units (j : Nat)).name = (gt m.units (i : Nat)).name)) = true) (by simp [Mach.bx]) (by simp) (by simp [Mach.bx]) fun k hk hinv2 => ?_
    by_cases hkt : k < i
    · simp [hkt, hlt, hne, show k < m.units.length by omega, Mach.bx, wrap_nat (show (0:Int) ≤ k + 1 by omega) (by omega)]
      refine ⟨fun h => hout ?_, fun h => ?_⟩
      · simp only [unitOk]; rw [allB_false hkt (by simp [h])]; simp
      · rw [allB_succ, hinv2]; simpa using h
    · obtain rfl : k = i := by omega
      simp [hlt, hw1, Mach.bx]
      rw [allB_succ, hinv]; simp [unitOk, g1, g2, hinv2]
  · obtain rfl : i = m.units.length := by omega
    simp [Mach.bx, okUnits, hinv]
theorem p_r8_okRegs (gl : Glob) (m : Mach) (hbd : m.regs.length ≤ 500) : PCall Tryz.prog gl 50 [.pv m.pv] (.pv (.bool (okRegs m))) := by
  refine k_retargetref08_okRegs.pcall (by simp) (by simp) (by simp) fun hwf => ?_
  simp [c_retargetref08_okRegs]
  refine Loop.nat (fun i => { e := [(1, .ptr 0 0), (3, .pv (.int .i64 i))], h := [(0, m.bx)], nx := 1 }) m.regs.length (fun i => allB i (rgOk m) = true) (by simp [Mach.bx]) (by simp) (by simp [Mach.bx]) fun i hi hinv => ?_
  by_cases hlt : i < m.regs.length
  · have hw1 : IntKind.i64.wrap ((i : Int) + 1) = (i : Int) + 1 := wrap_nat (by omega) (by omega)
    have hne : m.regs ≠ [] := by intro h; simp [h] at hlt
    have hout : rgOk m i = false → okRegs m = false := fun h => by simp [okRegs, allB_false hlt h]
    simp [hlt, Mach.bx]
    generalize hr : gt m.regs (i : Nat) = r at *
    refine CallNext.pure (p_retargetref01_Name gl _) fun _ => ?_
    simp
    refine ⟨_, by intros; exact .of (p_r8_In gl _ _ _), by simp, ?_⟩
    simp
    refine ⟨fun h => ?_, fun g1 g2 => ?_⟩
    · refine hout ?_
      rcases h with h | h <;> simp [rgOk, hr, h]
    refine Loop.nat (fun k => { e := [(1, .ptr 0 0), (3, .pv (.int .i64 i)), (4, .ptr 1 0), (5, .pv (.int .i64 k))], h := [(0, m.bx), (1, r.bx)], nx := 2 }) i (fun k => (allB k fun j => !decide ((gt m.regs (j : Nat)).name = r.name)) = true) (by simp [Mach.bx, Reg.bx]) (by simp) (by simp [Mach.bx, Reg.bx]) fun k hk hinv2 => ?_
    by_cases hkt : k < i
    · simp [hkt, hlt, hne, show k < m.regs.length by omega, Mach.bx, Reg.bx, wrap_nat (show (0:Int) ≤ k + 1 by omega) (by omega)]
      refine ⟨fun h => hout ?_, fun h => ?_⟩
      · simp only [rgOk, hr]; rw [allB_false hkt (by simp [h])]; simp
      · rw [allB_succ, hinv2]; simpa using h
    obtain rfl : k = i := by omega
    simp [hlt, hw1, Mach.bx, Reg.bx]
    refine ⟨fun ho => ⟨fun hl => hout (by simp [rgOk, hr, ho, hl]), fun hl => ?_⟩, fun ho => ?_⟩
    · rw [allB_succ, hinv]; simp [rgOk, hr, g1, g2, ho, hl, hinv2]
    refine CallNext.pure (p_r8_In gl _ _ _) fun _ => ?_
    simp
    rw [wrap_i64 (by omega) (by omega)]
    refine ⟨fun hno => hout (by simp [rgOk, hr, ho, hno]), fun hin => ?_⟩
    have hin' : 0 ≤ r.of ∧ r.of ≤ (m.regs.length : Int) - 1 := by simpa [inR] using hin
    simp [hne]
    refine ⟨by omega, ?_⟩
    refine ⟨_, by intros; exact .of (p_r8_In gl _ _ _), by simp, ?_⟩
    simp
    refine ⟨_, by intros; exact .of (p_r8_In gl _ _ _), by simp, ?_⟩
    simp [hlt, hw1, Mach.bx]
    generalize hrt : gt m.regs r.of = rt at *
    have hX : rgOk m k = (decide (rt.of = -1) && inR rt.width 1 64 && decide (r.width < rt.width) && inR r.low 0 (rt.width - r.width)) := by
      rw [rgOk]; simp only [hr, hrt, g1, g2, hinv2, ho, hin, if_false, Bool.true_and]
    by_cases hw : inR rt.width 1 64 = true
    · have e1 : 1 ≤ rt.width ∧ rt.width ≤ 64 := by simpa [inR] using hw
      have e2 : 1 ≤ r.width ∧ r.width ≤ 64 := by simpa [inR] using g2
      rw [wrap_i64 (by omega) (by omega)]
      refine ⟨fun h => hout ?_, fun a b c d => ?_⟩
      · rw [hX]
        rcases h with ((h | h) | h) | h
        · simp [h]
        · simp [h]
        · simp [show ¬ r.width < rt.width by omega]
        · simp [h]
      · rw [allB_succ, hinv, hX]; simp [a, b, c, d]
    · exact ⟨fun _ => hout (by rw [hX]; simp [hw]), fun _ b => absurd b hw⟩
  · obtain rfl : i = m.regs.length := by omega
    simp [Mach.bx, okRegs, hinv]
end Go.Proofs.YtbghfliffomfdaaGreatDoorV

/- Contracts: the reference of layer 8: banks, operands. -/
namespace Go.Proofs.YtbghfliffomfdaaGreatDoorV
open Go
set_option maxRecDepth 100000
set_option maxHeartbeats 4000000

theorem p_r8_okBanks (gl : Glob) (m : Mach) (hbd : m.regs.length ≤ 500) : PCall Tryz.prog gl 51 [.pv m.pv] (.pv (.bool (okBanks m))) := by
  refine k_retargetref08_okBanks.pcall (by simp) (by simp) (by simp) fun hwf => ?_
  obtain ⟨hb1, hb2, hb3, hb4, hb5, hb6⟩ := mach_bd (hwf (.pv m.pv) (by simp))
  simp [c_retargetref08_okBanks]
  refine Loop.nat (fun i => { e := [(1, .ptr 0 0), (3, .pv (.int .i64 i))], h := [(0, m.bx)], nx := 1 }) m.banks.length (fun i => allB i (bankOk m) = true) (by simp [Mach.bx]) (by simp) (by simp [Mach.bx]) fun i hi hinv => ?_
  by_cases hlt : i < m.banks.length
  · have hw1 : IntKind.i64.wrap ((i : Int) + 1) = (i : Int) + 1 := wrap_nat (by omega) (by omega)
    have hne : m.banks ≠ [] := by intro h; simp [h] at hlt
    have hout : bankOk m i = false → okBanks m = false := fun h => by simp [okBanks, allB_false hlt h]
    have hb7 := hb5 _ (gt_mem (l := m.banks) (i := (i : Nat)) (by omega) (by omega))
    simp [hlt, Mach.bx]
    generalize hb : gt m.banks (i : Nat) = b at *
    refine CallNext.pure (p_retargetref01_Name gl _) fun _ => ?_
    simp
    refine ⟨fun h => ?_, fun g1 g2 => ?_⟩
    · refine hout ?_
      rcases h with h | h <;> simp [bankOk, hb, h]
    have g2' : 0 < b.regs.length := List.length_pos_iff.2 g2
    refine Loop.nat (fun k => { e := [(1, .ptr 0 0), (3, .pv (.int .i64 i)), (4, .ptr 1 0), (5, .pv (.int .i64 k))], h := [(0, m.bx), (1, b.bx)], nx := 2 }) i (fun k => (allB k fun j => !decide ((gt m.banks (j : Nat)).name = b.name)) = true) (by simp [Mach.bx, Bank.bx]) (by simp) (by simp [Mach.bx, Bank.bx]) fun k hk hinv2 => ?_
    by_cases hkt : k < i
    · simp [hkt, hlt, hne, show k < m.banks.length by omega, Mach.bx, Bank.bx, wrap_nat (show (0:Int) ≤ k + 1 by omega) (by omega)]
      refine ⟨fun h => hout ?_, fun h => ?_⟩
      · simp only [bankOk, hb]; rw [allB_false hkt (by simp [h])]; simp
      · rw [allB_succ, hinv2]; simpa using h
    obtain rfl : k = i := by omega
    simp [Mach.bx, Bank.bx]
    let q : Nat → Bool := fun j => inR (gt b.regs (j : Nat)) 0 (m.regs.length - 1) && allB j (fun l => !decide (gt b.regs (l : Nat) = gt b.regs (j : Nat))) && decide ((gt m.regs (gt b.regs (j : Nat))).width = (gt m.regs (gt b.regs 0)).width)
    have hq : bankOk m k = allB b.regs.length q := by
      rw [bankOk]; simp only [hb, g1, hinv2, g2', decide_true, Bool.true_and]; rfl
    refine Loop.nat (fun j => { e := [(1, .ptr 0 0), (3, .pv (.int .i64 k)), (4, .ptr 1 0), (6, .pv (.int .i64 j))], h := [(0, m.bx), (1, b.bx)], nx := 2 }) b.regs.length (fun j => allB j q = true) (by simp [Mach.bx, Bank.bx]) (by simp) (by simp [Mach.bx, Bank.bx]) fun j hj hinv3 => ?_
    by_cases hjt : j < b.regs.length
    · have hw3 : IntKind.i64.wrap ((j : Int) + 1) = (j : Int) + 1 := wrap_nat (by omega) (by omega)
      have hout2 : q j = false → okBanks m = false := fun h => hout (by rw [hq, allB_false hjt h])
      simp [hjt, g2, Mach.bx, Bank.bx]
      refine DCallNext.pure (p_r8_In gl _ _ _) ?_
      simp
      rw [wrap_i64 (by omega) (by omega)]
      refine ⟨fun h => hout2 (by simp [q, h]), fun h1 => ?_⟩
      have h1' : 0 ≤ gt b.regs (j : Nat) ∧ gt b.regs (j : Nat) ≤ (m.regs.length : Int) - 1 := by simpa [inR] using h1
      refine Loop.nat (fun l => { e := [(1, .ptr 0 0), (3, .pv (.int .i64 k)), (4, .ptr 1 0), (6, .pv (.int .i64 j)), (7, .pv (.int .i64 l))], h := [(0, m.bx), (1, b.bx)], nx := 13 }) j (fun n => (allB n fun l => !decide (gt b.regs (l : Nat) = gt b.regs (j : Nat))) = true) (by simp [Mach.bx, Bank.bx]) (by simp) (by simp [Mach.bx, Bank.bx]) fun l hl hinv4 => ?_
      by_cases hlt2 : l < j
      · simp [hlt2, hjt, g2, show l < b.regs.length by omega, Mach.bx, Bank.bx, wrap_nat (show (0:Int) ≤ l + 1 by omega) (by omega)]
        refine ⟨fun h => hout2 ?_, fun h => ?_⟩
        · simp only [q]; rw [allB_false hlt2 (by simp [h])]; simp
        · rw [allB_succ, hinv4]; simpa using h
      obtain rfl : l = j := by omega
      have hmne : m.regs ≠ [] := by intro h; simp [h] at h1'; omega
      have h0' : 0 ≤ gt b.regs 0 ∧ gt b.regs 0 ≤ (m.regs.length : Int) - 1 := by
        rcases Nat.eq_zero_or_pos l with rfl | hk0
        · simpa using h1'
        · have := allB_true.1 hinv3 0 hk0
          simp only [q, Bool.and_eq_true] at this
          simpa [inR] using this.1.1
      simp [hjt, g2, hmne, hw3, Mach.bx, Bank.bx]
      refine ⟨by omega, by omega, by omega, ?_⟩
      refine ⟨fun h => hout2 (by simp [q, h]), fun h => ?_⟩
      rw [allB_succ, hinv3]; simp [q, h1, hinv4, h]
    · obtain rfl : j = b.regs.length := by omega
      simp [hlt, hw1, Mach.bx, Bank.bx]
      rw [allB_succ, hinv, hq, hinv3]; rfl
  · obtain rfl : i = m.banks.length := by omega
    simp [Mach.bx, okBanks, hinv]
theorem p_r8_okOperand (gl : Glob) (m : Mach) (s : Ins_) (i : Nat) (hi : i < s.operands.length) (hw : 1 ≤ m.word ∧ m.word ≤ 4) (hil : s.operands.length ≤ 500) (hb : m.banks.length ≤ 500) (hp : (gt s.operands (i : Nat)).pieces.length ≤ 500) : PCall Tryz.prog gl 71 [.pv m.pv, .pv s.pv, .pv (.int .i64 i)] (.pv (.bool (okOperand m s i))) := by
  refine k_retargetref08_okOperand.pcall (by simp) (by simp) (by simp) fun hwf => ?_
  have hone : s.operands ≠ [] := by intro h; simp [h] at hi
  simp [c_retargetref08_okOperand, hi]
  generalize ho : gt s.operands (i : Nat) = o at *
  refine CallNext.pure (p_retargetref01_Name gl _) fun _ => ?_
  simp
  refine ⟨_, by intros; exact .of (p_r8_okPieces gl o m.word hw), by simp, ?_⟩
  simp
  have hname : isName o.name = false ∨ o.name = pc ∨ okPieces o m.word = false → okOperand m s i = false := fun h => by
    simp only [okOperand, ho]
    rcases h with h | h | h <;> simp [h]
  refine ⟨fun h => hname (by rcases h with (h | h) | h; exact .inl h; exact .inr (.inl h); exact .inr (.inr h)), fun g1 g2 g3 => ?_⟩
  refine Loop.nat (fun k => { e := [(2, .pv (.int .i64 i)), (3, .ptr 0 0), (4, .ptr 1 0), (7, .ptr 2 0), (8, .pv (.int .i64 k))], h := [(0, m.bx), (1, s.bx), (2, o.bx)], nx := 3 }) i (fun k => (allB k fun j => !decide ((gt s.operands (j : Nat)).name = o.name)) = true) (by simp [Mach.bx, Ins_.bx, Opnd.bx]) (by simp) (by simp [Mach.bx, Ins_.bx, Opnd.bx]) fun k hk hinv => ?_
  by_cases hkt : k < i
  · simp [hkt, hone, show k < s.operands.length by omega, Mach.bx, Ins_.bx, Opnd.bx, wrap_nat (show (0:Int) ≤ k + 1 by omega) (by omega)]
    refine ⟨fun h => ?_, fun h => ?_⟩
    · simp only [okOperand, ho]; rw [allB_false hkt (by simp [h])]; simp
    · rw [allB_succ, hinv]; simpa using h
  obtain rfl : k = i := by omega
  have g2' : ¬ o.name = pc := g2
  have hok : okOperand m s k = kindOk m s k := by
    rw [okOperand, kindOk]; simp only [ho, g1, g2', g3, hinv, decide_false, Bool.not_false, Bool.true_and]
  have hfld : 0 ≤ fieldI o ∧ fieldI o ≤ 16000 := by
    have := fieldN_le hw o.pieces.length hp fun j hj => allB_true.1 g3 j hj
    unfold fieldI; omega
  by_cases hk1 : o.kind = 1
  · have hkd : kindOk m s k = (inR o.bank 0 (m.banks.length - 1) && decide (o.scale = 0) &&
        if o.tied = -1 then decide (0 < fieldI o) && (decide (6 < fieldI o) || decide (((gt m.banks o.bank).regs.length : Int) ≤ 2 ^ (fieldI o).toNat))
        else inR o.tied 0 (k - 1) && decide (o.pieces.length = 0) && (let t := gt s.operands o.tied; decide (t.kind = 1) && decide (t.bank = o.bank) && decide (t.tied = -1))) := by simp only [kindOk, ho, hk1, if_true]
    simp [Mach.bx, Opnd.bx, hk1]
    refine CallNext.pure (p_r8_In gl _ _ _) fun _ => ?_
    simp
    rw [wrap_i64 (by omega) (by omega)]
    refine ⟨fun h => ?_, fun a3 a4 => ⟨fun htd => ?_, fun htd => ?_⟩⟩
    · rw [hok, hkd]; rcases h with h | h <;> simp [h]
    · have a3' : 0 ≤ o.bank ∧ o.bank ≤ (m.banks.length : Int) - 1 := by simpa [inR] using a3
      have hbne : m.banks ≠ [] := by intro h; simp [h] at a3'; omega
      refine CallNext.pure (by have := p_r8_Field gl o; rw [Opnd.pv_eq, hk1] at this; exact this) fun _ => ?_
      have hpw : ¬ 6 < fieldI o → PCall Tryz.prog gl 40 [.pv (.int .i64 (fieldI o))] (.pv (.int .i64 (2 ^ (fieldI o).toNat))) := fun h => by
        have := p_r8_Power gl (fieldI o).toNat (by omega)
        rwa [Int.toNat_of_nonneg (by omega)] at this
      simp [hbne]
      refine ⟨⟨fun _ _ => by omega, fun _ _ => by omega⟩, _, fun _ h => .of (hpw (by omega)), by simp, ?_⟩
      simp
      rw [hok, hkd]
      simp [htd, a3, a4]
    · have hkd2 := hkd
      rw [if_neg htd] at hkd2
      refine CallNext.pure (p_r8_In gl _ _ _) fun _ => ?_
      simp
      rw [wrap_i64 (by omega) (by omega)]
      refine ⟨fun h => ?_, fun b1 b2 => ?_⟩
      · rw [hok, hkd2]; rcases h with h | h
        · simp [h]
        · simp [show o.pieces ≠ [] from by first | exact h | (intro hh; simp [hh] at h)]
      · have b1' : 0 ≤ o.tied ∧ o.tied ≤ (k : Int) - 1 := by simpa [inR] using b1
        simp [Ins_.bx, hone, show 0 ≤ o.tied by omega, show o.tied < (s.operands.length : Int) by omega]
        rw [hok, hkd2]; simp [a3, a4, b1, b2]
  · by_cases hk2 : o.kind = 2 ∨ o.kind = 3 ∨ o.kind = 4
    · have hkd : kindOk m s k = (decide (o.bank = 0) && decide (o.tied = -1) && inR o.scale 0 3 && decide (0 < fieldI o) && decide (fieldI o + o.scale ≤ m.address)) := by simp only [kindOk, ho, hk1, if_false, hk2, if_true]
      rcases hk2 with hk2 | hk2 | hk2
      all_goals
        simp [Mach.bx, Opnd.bx, hk2]
        refine ⟨_, by intros; exact .of (p_r8_In gl _ _ _), by simp, ?_⟩
        simp
        refine ⟨_, by intros; exact .of (by have := p_r8_Field gl o; rw [Opnd.pv_eq, hk2] at this; exact this), by simp, ?_⟩
        simp
        refine ⟨_, by intros; exact .of (by have := p_r8_Field gl o; rw [Opnd.pv_eq, hk2] at this; exact this), by simp, ?_⟩
        simp
        rw [hok, hkd]
        by_cases hsc : inR o.scale 0 3 = true
        · have : 0 ≤ o.scale ∧ o.scale ≤ 3 := by simpa [inR] using hsc
          rw [wrap_i64 (by omega) (by omega)]
        · simp [hsc]
    · have hk : o.kind ≠ 2 ∧ o.kind ≠ 3 ∧ o.kind ≠ 4 := by omega
      have hkd : kindOk m s k = false := by simp only [kindOk, ho, hk1, if_false, hk2]
      simp [Mach.bx, Opnd.bx, hk1, hk, hok, hkd]
end Go.Proofs.YtbghfliffomfdaaGreatDoorV

/- Contracts: layer 2, the reference's Formed. -/
namespace Go.Proofs.YtbghfliffomfdaaGreatDoorV
open Go
set_option maxRecDepth 100000
set_option maxHeartbeats 4000000

theorem p_retargetref02_Formed (gl : Glob) (n : Nat) : ∀ t : Tm, SizeOf.sizeOf t < n → PCall Tryz.prog gl 104 [.pv t.pv] (.pv (.bool t.formed)) := by
  induction n with
  | zero => intro t h; omega
  | succ n ih =>
  intro t hn
  refine k_retargetref02_Formed.pcall (by simp) (by simp) (by simp) fun hwf => ?_
  have hb := Tm.wf_sub (by simpa using hwf)
  simp [c_retargetref02_Formed]
  refine Loop.nat (fun i => { e := [(1, .ptr 0 0), (3, .pv (.int .i64 i))], h := [(0, t.bx)], nx := 1 }) t.sub.length (fun i => ∀ j, j < i → (gt t.sub (j : Nat)).formed = true) (by simp) (by simp) (by simp [Tm.bx]) fun i hi hinv => ?_
  by_cases hlt : i < t.sub.length
  · simp [Tm.bx, hlt]
    refine CallNext.pure (ih (gt t.sub i) (by have := Tm.size_gt hlt; omega)) fun _ => ?_
    simp [hlt, wrap_nat (show (0:Int) ≤ i + 1 by omega) (by omega)]
    refine ⟨fun h => ?_, fun h j hj => ?_⟩
    · rw [t.formed_eq, Tm.formedL_eq]
      simp; intro h'; have := h' _ (gt_mem (l := t.sub) (i := i) (by omega) (by omega)); simp [h] at this
    · rcases Nat.lt_or_eq_of_le (Nat.le_of_lt_succ hj) with hj | rfl
      · exact hinv j hj
      · exact h
  · obtain rfl : i = t.sub.length := by omega
    have hall : Tm.formedL t.sub = true := by
      rw [Tm.formedL_eq, List.all_eq_true]
      intro x hx
      obtain ⟨j, hj, rfl⟩ := List.getElem_of_mem hx
      have := hinv j hj
      rwa [gt_nat hj] at this
    have hf : t.formed = t.okNode := by rw [t.formed_eq, hall]; simp
    have hw : ∀ j : Nat, j < t.sub.length → 1 ≤ (gt t.sub (j : Nat)).width ∧ (gt t.sub (j : Nat)).width ≤ 64 := fun j hj => Tm.formed_width (hinv j hj)
    simp [Tm.bx]
    have hne0 : ¬ t.sub = [] → 0 < t.sub.length := fun h => by cases hs : t.sub <;> simp_all
    refine CallNext.pure (p_retargetref01_Wide gl _) fun _ => ?_
    rw [hf]
    by_cases hwd : wideB t.width = true
    · by_cases h1 : t.op = 1
      · simp [hwd, h1]
        refine ⟨_, fun _ _ _ => .of (p_retargetref01_Ok gl _ _ (Tm.wf_val (by simpa using hwf)).2), by simp, ?_⟩
        simp [Tm.okNode, hwd, h1]
      · by_cases h2 : t.op = 2
        · simp [hwd, h2]
          refine ⟨_, fun _ _ _ => .of (p_retargetref02_Variable gl _), by simp, ?_⟩
          simp [Tm.okNode, hwd, h2]
        · by_cases hne : t.sub = []
          · simp [hwd, h1, h2, hne, Tm.okNode]
          · have hx : 1 ≤ (gt t.sub 0).width ∧ (gt t.sub 0).width ≤ 64 := by simpa using hw 0 (by cases h : t.sub <;> simp_all)
            have hc : t.op = 3 ∨ t.op = 4 ∨ t.op = 16 ∨ t.op = 17 ∨ t.op = 18 ∨ t.op = 19 ∨ t.op = 20 ∨ t.op = 21 ∨ t.op = 22 ∨ t.op = 23 ∨ t.op = 24 ∨ (t.op ≠ 3 ∧ t.op ≠ 4 ∧ t.op ≠ 16 ∧ t.op ≠ 17 ∧ t.op ≠ 18 ∧ t.op ≠ 19 ∧ t.op ≠ 20 ∧ t.op ≠ 21 ∧ t.op ≠ 22 ∧ t.op ≠ 23 ∧ t.op ≠ 24) := by omega
            rcases hc with h | h | h | h | h | h | h | h | h | h | h | ⟨g3, g4, g16, g17, g18, g19, g20, g21, g22, g23, g24⟩
            · simp [hwd, h, hne, Tm.okNode]
              clear ih hwf hn hb hi hinv hall hf hw
              grind
            · simp [hwd, h, hne, Tm.okNode]
              clear ih hwf hn hb hi hinv hall hf hw
              grind
            · simp [hwd, h, hne, Tm.okNode]
              clear ih hwf hn hb hi hinv hall hf hw
              grind
            · simp [hwd, h, hne, Tm.okNode]
              clear ih hwf hn hb hi hinv hall hf hw
              grind
            · simp [hwd, h, hne, Tm.okNode]
              clear ih hwf hn hb hi hinv hall hf hw
              grind
            · simp [hwd, h, hne, Tm.okNode]
              clear ih hwf hn hb hi hinv hall hf hw
              grind
            · simp [hwd, h, hne, Tm.okNode]
              by_cases hl : t.sub.length = 2
              · have hy : 1 ≤ (gt t.sub 1).width ∧ (gt t.sub 1).width ≤ 64 := by simpa using hw 1 (by omega)
                rw [wrap_i64 (by omega) (by omega)]
                clear ih hwf hn hb hi hinv hall hf hw
                grind
              · clear ih hwf hn hb hi hinv hall hf hw
                grind
            · simp [hwd, h, hne, Tm.okNode]
              by_cases hl : 0 ≤ t.low ∧ t.low ≤ (gt t.sub 0).width
              · have hy : 1 ≤ t.width ∧ t.width ≤ 64 := by simpa [wideB, inR] using hwd
                rw [wrap_i64 (by omega) (by omega)]
                clear ih hwf hn hb hi hinv hall hf hw
                grind
              · clear ih hwf hn hb hi hinv hall hf hw
                grind
            · simp [hwd, h, hne, Tm.okNode]
              clear ih hwf hn hb hi hinv hall hf hw
              grind
            · simp [hwd, h, hne, Tm.okNode]
              clear ih hwf hn hb hi hinv hall hf hw
              grind
            · simp [hwd, h, hne]
              refine ⟨fun hh => by simp [Tm.okNode, h, hne]; grind, fun e1 e2 e3 => ⟨hne0 hne, _, fun _ => .of (p_retargetref02_loads gl _), by simp, ?_⟩⟩
              simp [Tm.okNode, hwd, h, hne, e1, e2, e3]
              grind
            · simp [hwd, h1, h2, hne, Tm.okNode, g3, g4, g16, g17, g18, g19, g20, g21, g22, g23, g24]
              clear ih hwf hn hb hi hinv hall hf hw
              grind
    · simp [hwd, Tm.okNode]
end Go.Proofs.YtbghfliffomfdaaGreatDoorV

/- Contracts: layer 2, the reference's Check and Great. -/
namespace Go.Proofs.YtbghfliffomfdaaGreatDoorV
open Go
set_option maxRecDepth 100000
set_option maxHeartbeats 4000000

theorem p_retargetref02_Check (gl : Glob) (t : Tm) (hs : t.nodes < 2 ^ 40) (hd : t.depth < 2 ^ 40) : PCall Tryz.prog gl 99 [.pv t.pv] (.pv (.int .i64 t.check)) := by
  refine k_retargetref02_Check.pcall (by simp) (by simp) (by simp) fun hwf => ?_
  simp [c_retargetref02_Check]
  refine CallNext.pure (p_retargetref02_Size gl _ t (Nat.lt_succ_self _) hs) fun _ => ?_
  simp
  refine ⟨_, fun _ => .of (p_retargetref02_Depth gl _ t (Nat.lt_succ_self _) hd), by simp, ?_⟩
  simp
  refine ⟨fun h => ?_, fun h1 h2 => CallNext.pure (p_retargetref02_Formed gl _ t (Nat.lt_succ_self _)) fun _ => ?_⟩
  · rw [t.check_eq, if_pos (by omega)]
  have hck : t.check = if t.formed then (if agree t.vars then 0 else 14) else 8 := by rw [t.check_eq, if_neg (by omega)]
  simp
  refine ⟨fun h => by simp [hck, h], fun hf => CallNext.pure (p_retargetref02_list gl _ t (Nat.lt_succ_self _) hs) fun hwl => ?_⟩
  have hlen : (bnds t.vars).length ≤ 9223372036854775807 := by simp [maxLen] at hwl; exact hwl.1
  simp
  generalize hL : bnds t.vars = L at *
  have hg : ∀ i : Nat, i < L.length → gt L i = ⟨(gt t.vars i).1, (gt t.vars i).2, 0⟩ := fun i hi => by
    have hi' : i < t.vars.length := by rw [← hL] at hi; simpa [bnds] using hi
    rw [gt_nat hi, gt_nat hi']; simp [← hL, bnds]
  have hLl : L.length = t.vars.length := by rw [← hL]; simp [bnds]
  let p : Nat → Nat → Bool := fun i k => !decide ((gt t.vars (k : Nat)).1 = (gt t.vars (i : Nat)).1) || decide ((gt t.vars (k : Nat)).2 = (gt t.vars (i : Nat)).2)
  have hag : agree t.vars = allB t.vars.length fun i => allB i (p i) := rfl
  refine Loop.nat (fun i => { e := [(3, .pv (.lst 3 (L.map Bnd.pv))), (4, .pv (.int .i64 i))], h := [(0, t.bx)], nx := 1 }) L.length (fun i => ∀ j, j < i → allB j (p j) = true) (by simp [Tm.bx]) (by simp) (by simp [Tm.bx]) fun i hi hinv => ?_
  by_cases hlt : i < L.length
  · simp [hlt]
    refine Loop.nat (fun k => { e := [(3, .pv (.lst 3 (L.map Bnd.pv))), (4, .pv (.int .i64 i)), (5, .pv (.int .i64 k))], h := [(0, t.bx)], nx := 1 }) i (fun k => ∀ j, j < k → p i j = true) (by simp [Tm.bx]) (by simp) (by simp [Tm.bx]) fun k hk hinv2 => ?_
    by_cases hkt : k < i
    · have hkl : k < L.length := by omega
      simp [hlt, hkt, hkl, hg, Tm.bx]
      refine ⟨fun e1 e2 => ?_, fun e => ⟨fun j hj => ?_, wrap_nat (by omega) (by omega)⟩⟩
      · have hf1 : p i k = false := by simp [p, e1, e2]
        have hf2 : agree t.vars = false := by rw [hag]; exact allB_false (i := i) (by omega) (allB_false hkt hf1)
        simp [hck, hf, hf2]
      · rcases Nat.lt_or_eq_of_le (Nat.le_of_lt_succ hj) with hj | rfl
        · exact hinv2 j hj
        · simp only [p, Bool.or_eq_true, Bool.not_eq_true', decide_eq_false_iff_not, decide_eq_true_eq]
          by_cases h : (gt t.vars (j : Nat)).1 = (gt t.vars (i : Nat)).1
          · right; exact e h
          · left; exact h
    · obtain rfl : k = i := by omega
      simp [hlt, Tm.bx, wrap_nat (show (0:Int) ≤ k + 1 by omega) (by omega)]
      intro j hj
      rcases Nat.lt_or_eq_of_le (Nat.le_of_lt_succ hj) with hj | rfl
      · exact hinv j hj
      · exact allB_true.2 hinv2
  · obtain rfl : i = L.length := by omega
    simp [hck, hf, hag, ← hLl, allB_true]
    exact fun j hj => allB_true.1 (hinv j hj)
theorem p_retargetref02_Great (gl : Glob) (t : Tm) : PCall Tryz.prog gl 22 [.pv t.pv] (.pv (.bool t.great)) := by
  refine k_retargetref02_Great.pcall (by simp) (by simp) (by simp) fun hwf => ?_
  simp [c_retargetref02_Great]
  refine CallNext.pure (p_retargetref02_count gl _ t 500 80 (Nat.lt_succ_self _) (by omega) (by omega) (by omega)) fun _ => ?_
  simp
  refine ⟨_, fun _ _ => .of (p_retargetref02_long gl _ t (Nat.lt_succ_self _)), by simp, ?_⟩
  simp [Tm.great]
end Go.Proofs.YtbghfliffomfdaaGreatDoorV

/- Contracts: the reference of layer 8: bits apart, variables, terms. -/
namespace Go.Proofs.YtbghfliffomfdaaGreatDoorV
open Go
set_option maxRecDepth 100000
set_option maxHeartbeats 4000000

theorem find_some {α : Type} [Inhabited α] {l : List α} {p : α → Bool} : ∀ {i : Nat}, i < l.length → p (gt l (i : Nat)) = true → (∀ j, j < i → p (gt l (j : Nat)) = false) → l.find? p = some (gt l (i : Nat)) := by
  induction l with
  | nil => intro i h; simp at h
  | cons a r ih =>
    intro i h hp hn
    cases i with
    | zero => rw [List.find?_cons_of_pos]; rfl; exact hp
    | succ i =>
      have h0 : p a = false := hn 0 (by omega)
      have hi : i < r.length := by simpa using h
      rw [List.find?_cons_of_neg (by simp [h0]), gt_cons hi]
      rw [gt_cons hi] at hp
      exact ih hi hp fun j hj => by have := hn (j + 1) (by omega); rwa [gt_cons (by omega)] at this
theorem find_none {α : Type} [Inhabited α] {l : List α} {p : α → Bool} (h : ∀ j, j < l.length → p (gt l (j : Nat)) = false) : l.find? p = none := by
  rw [List.find?_eq_none]
  intro x hx
  obtain ⟨i, hi, rfl⟩ := List.getElem_of_mem hx
  have := h i hi
  rw [gt_nat hi] at this
  simp [this]
theorem coverP_le (ps : List Piece) (b : Nat) : ∀ n, coverP ps b n ≤ n
  | 0 => by simp [coverP]
  | n + 1 => by have := coverP_le ps b n; rw [coverP]; split <;> omega
theorem coverO_le {s : Ins_} (h : ∀ o ∈ s.operands, o.pieces.length ≤ 500) (b : Nat) : ∀ n, n ≤ s.operands.length → coverO s b n ≤ 500 * n
  | 0, _ => by simp [coverO]
  | n + 1, hn => by
    have := coverO_le h b n (by omega)
    have h1 := h _ (gt_mem (l := s.operands) (i := (n : Nat)) (by omega) (by omega))
    have h2 := coverP_le (gt s.operands (n : Nat)).pieces b (gt s.operands (n : Nat)).pieces.length
    rw [coverO]; omega
theorem p_r8_Wide (gl : Glob) (m : Mach) (o : Opnd) (h : wideOk m o) : PCall Tryz.prog gl 91 [.pv m.pv, .pv o.pv] (.pv (.int .i64 (wideI m o))) := by
  refine k_retargetref08_Wide.pcall (by simp) (by simp) (by simp) fun hwf => ?_
  by_cases hk : o.kind = 1
  · obtain ⟨h1, h2, h3⟩ := h hk
    have hb : m.banks ≠ [] := by intro hh; simp [hh] at h1; omega
    have hr : m.regs ≠ [] := by intro hh; simp [hh] at h3; omega
    have : 0 < (gt m.banks o.bank).regs.length := by cases hh : (gt m.banks o.bank).regs <;> simp_all
    simp [c_retargetref08_Wide, hk, hb, hr, h2, wideI]
    omega
  · simp [c_retargetref08_Wide, hk, wideI]
theorem p_r8_variable (gl : Glob) (m : Mach) (s : Ins_) (n : ByteArray) (w : Int) (hl : m.regs.length ≤ 500) (hs : s.operands.length ≤ 500) (hn : ∀ r ∈ m.regs, r.name.size ≤ 1000) (hw : ∀ o ∈ s.operands, wideOk m o) :
    PCall Tryz.prog gl 106 [.pv m.pv, .pv s.pv, .pv (.str n), .pv (.int .i64 w)] (.pv (.bool (isVarOf m s n w))) := by
  refine k_retargetref08_variable.pcall (by simp) (by simp) (by simp) fun hwf => ?_
  simp [c_retargetref08_variable]
  refine ⟨fun h => ?_, fun h => ?_⟩
  · have h' : n = pc := h
    simp [isVarOf, h']
  have h' : ¬ n = pc := h
  refine Loop.nat (fun i => { e := [(2, .pv (.str n)), (3, .pv (.int .i64 w)), (4, .ptr 0 0), (5, .ptr 1 0), (9, .pv (.int .i64 i))], h := [(0, m.bx), (1, s.bx)], nx := 2 }) s.operands.length (fun i => ∀ j, j < i → decide ((gt s.operands (j : Nat)).name = n) = false) (by simp [Mach.bx, Ins_.bx]) (by simp) (by simp [Mach.bx, Ins_.bx]) fun i hi hinv => ?_
  by_cases hlt : i < s.operands.length
  · simp [hlt, Mach.bx, Ins_.bx]
    refine ⟨fun he => ?_, fun hne => ⟨fun j hj => ?_, wrap_nat (by omega) (by omega)⟩⟩
    · refine DCallNext.pure (p_r8_Wide gl m _ (hw _ (gt_mem (by omega) (by omega)))) ?_
      simp [isVarOf, h', find_some (p := fun o : Opnd => decide (o.name = n)) hlt (by simp [he]) hinv]
    · rcases Nat.lt_or_eq_of_le (Nat.le_of_lt_succ hj) with hj | rfl
      · simpa using hinv j hj
      · exact hne
  obtain rfl : i = s.operands.length := by omega
  have hf := find_none (p := fun o : Opnd => decide (o.name = n)) hinv
  simp [Mach.bx, Ins_.bx]
  refine Loop.nat (fun i => { e := [(2, .pv (.str n)), (3, .pv (.int .i64 w)), (4, .ptr 0 0), (10, .pv (.int .i64 i))], h := [(0, m.bx), (1, s.bx)], nx := 2 }) m.regs.length (fun i => ∀ j, j < i → decide (rname (gt m.regs (j : Nat)).name = n) = false) (by simp [Mach.bx, Ins_.bx]) (by simp) (by simp [Mach.bx, Ins_.bx]) fun i hi hinv => ?_
  by_cases hlt : i < m.regs.length
  · have h1 := hn _ (gt_mem (l := m.regs) (i := (i : Nat)) (by omega) (by omega))
    have h2 : (⟨#[114, 46]⟩ : ByteArray).size = 2 := rfl
    have h3 : ∀ x, (⟨#[114, 46]⟩ : ByteArray) ++ x = rname x := fun _ => rfl
    simp only [Mach.bx, Ins_.bx]
    simp [hlt, h2, h3]
    refine ⟨by unfold maxLen; omega, fun he => ?_, fun hne => ⟨fun j hj => ?_, wrap_nat (by omega) (by omega)⟩⟩
    · simp [isVarOf, h', hf, find_some (p := fun r : Reg => decide (rname r.name = n)) hlt (by simp [he]) hinv]
    · rcases Nat.lt_or_eq_of_le (Nat.le_of_lt_succ hj) with hj | rfl
      · simpa using hinv j hj
      · exact hne
  · obtain rfl : i = m.regs.length := by omega
    have hf2 := find_none (p := fun r : Reg => decide (rname r.name = n)) hinv
    simp [Mach.bx, Ins_.bx, isVarOf, h', hf, hf2]
theorem p_r8_apart (gl : Glob) (m : Mach) (s : Ins_) (hw : 1 ≤ m.word ∧ m.word ≤ 4) (hs : s.operands.length ≤ 500) (hp : ∀ o ∈ s.operands, o.pieces.length ≤ 500) (hr : rngs m s s.operands.length) :
    PCall Tryz.prog gl 72 [.pv m.pv, .pv s.pv] (.pv (.bool (apart m s))) := by
  refine k_retargetref08_apart.pcall (by simp) (by simp) (by simp) fun hwf => ?_
  have hmask : 0 ≤ s.mask := by
    have := hwf (.pv s.pv) (by simp)
    simp only [DV.wf] at this; rw [Ins_.wf_pv] at this; simp [-Ins_.fold, maxLen, IntKind.min, IntKind.max, IntKind.signed, IntKind.bits] at this
    exact this.2.1.1
  obtain ⟨N, hN⟩ : ∃ N : Nat, 8 * m.word = N := ⟨(8 * m.word).toNat, by omega⟩
  have hA : apart m s = allB N fun b => decide (bitI s.mask b + coverO s b s.operands.length ≤ 1) := by rw [apart, hN]; rfl
  have e8 : IntKind.i64.wrap (8 * m.word) = N := by rw [wrap_i64 (by omega) (by omega), hN]
  simp [c_retargetref08_apart]
  refine Loop.nat (fun b => { e := [(2, .ptr 0 0), (3, .ptr 1 0), (5, .pv (.int .i64 b))], h := [(0, m.bx), (1, s.bx)], nx := 2 }) N (fun b => (allB b fun b => decide (bitI s.mask b + coverO s b s.operands.length ≤ 1)) = true) (by simp [Mach.bx, Ins_.bx]) (by simp) (by simp [Mach.bx, Ins_.bx]) fun b hb hinv => ?_
  by_cases hlt : b < N
  · have hbit : 0 ≤ bitI s.mask b ∧ bitI s.mask b ≤ 1 := by rw [bitI_bit hmask]; split <;> omega
    simp [e8, Mach.bx, Ins_.bx, hlt]
    refine CallNext.pure (p_r8_Bit gl s.mask b (by omega)) fun _ => ?_
    simp
    refine Loop.nat (fun i => { e := [(2, .ptr 0 0), (3, .ptr 1 0), (5, .pv (.int .i64 b)), (6, .pv (.int .i64 (bitI s.mask b + coverO s b i))), (7, .pv (.int .i64 i))], h := [(0, m.bx), (1, s.bx)], nx := 2 }) s.operands.length (fun _ => True) (by simp [Mach.bx, Ins_.bx]) (by simp) (by simp [Mach.bx, Ins_.bx, coverO]) fun i hi hinv2 => ?_
    by_cases hlt2 : i < s.operands.length
    · have hone : s.operands ≠ [] := by intro h; simp [h] at hlt2
      have hpi := hp _ (gt_mem (l := s.operands) (i := (i : Nat)) (by omega) (by omega))
      have hc0 := coverO_nonneg s b i
      have hc1 := coverO_le hp b i hi
      simp [hlt2, Mach.bx, Ins_.bx]
      refine Loop.nat (fun k => { e := [(2, .ptr 0 0), (3, .ptr 1 0), (5, .pv (.int .i64 b)), (6, .pv (.int .i64 (bitI s.mask b + coverO s b i + coverP (gt s.operands (i : Nat)).pieces b k))), (7, .pv (.int .i64 i)), (8, .pv (.int .i64 k))], h := [(0, m.bx), (1, s.bx)], nx := 2 }) (gt s.operands (i : Nat)).pieces.length (fun _ => True) (by simp [Mach.bx, Ins_.bx]) (by simp) (by simp [Mach.bx, Ins_.bx, coverP]) fun k hk hinv3 => ?_
      by_cases hlt3 : k < (gt s.operands (i : Nat)).pieces.length
      · have hrg := hr i hlt2 k hlt3
        simp only [rngOk, Bool.and_eq_true] at hrg
        have r1 : 1 ≤ (gt (gt s.operands (i : Nat)).pieces (k : Nat)).len ∧ (gt (gt s.operands (i : Nat)).pieces (k : Nat)).len ≤ 8 * m.word := by simpa [inR] using hrg.1
        have r2 : 0 ≤ (gt (gt s.operands (i : Nat)).pieces (k : Nat)).at_ ∧ (gt (gt s.operands (i : Nat)).pieces (k : Nat)).at_ ≤ 8 * m.word - (gt (gt s.operands (i : Nat)).pieces (k : Nat)).len := by simpa [inR] using hrg.2
        have hq0 := coverP_nonneg (gt s.operands (i : Nat)).pieces b k
        have hq1 := coverP_le (gt s.operands (i : Nat)).pieces b k
        simp [hlt2, hlt3, Mach.bx, Ins_.bx]
        refine CallNext.pure (p_r8_In gl _ _ _) fun _ => ?_
        rw [wrap_i64 (n := (gt (gt s.operands (i : Nat)).pieces (k : Nat)).at_ + (gt (gt s.operands (i : Nat)).pieces (k : Nat)).len) (by omega) (by omega), wrap_i64 (n := (gt (gt s.operands (i : Nat)).pieces (k : Nat)).at_ + (gt (gt s.operands (i : Nat)).pieces (k : Nat)).len - 1) (by omega) (by omega)]
        rw [show inR (b : Int) (gt (gt s.operands (i : Nat)).pieces (k : Nat)).at_ ((gt (gt s.operands (i : Nat)).pieces (k : Nat)).at_ + (gt (gt s.operands (i : Nat)).pieces (k : Nat)).len - 1) = covers (gt (gt s.operands (i : Nat)).pieces (k : Nat)) b from rfl]
        simp [wrap_nat (show (0:Int) ≤ k + 1 by omega) (by omega), coverP]
        refine ⟨fun h => ⟨hlt3, ?_⟩, fun h => ⟨hlt3, by simp [h]⟩⟩
        rw [wrap_i64 (by omega) (by omega), if_pos h]; omega
      · obtain rfl : k = (gt s.operands (i : Nat)).pieces.length := by omega
        simp [hlt2, Mach.bx, Ins_.bx, wrap_nat (show (0:Int) ≤ i + 1 by omega) (by omega), coverO, Int.add_assoc]
    · obtain rfl : i = s.operands.length := by omega
      simp [Mach.bx, Ins_.bx, wrap_nat (show (0:Int) ≤ b + 1 by omega) (by omega)]
      refine ⟨fun h => ?_, fun h => ⟨hlt, ?_⟩⟩
      · rw [hA, allB_false hlt]; simpa using h
      · rw [allB_succ, hinv]; simpa using h
  · obtain rfl : b = N := by omega
    simp [e8, Mach.bx, Ins_.bx]
    rw [hA]; exact hinv

theorem p_r8_known (gl : Glob) (m : Mach) (s : Ins_) (hl : m.regs.length ≤ 500) (hs : s.operands.length ≤ 500) (hn : ∀ r ∈ m.regs, r.name.size ≤ 1000) (hw : ∀ o ∈ s.operands, wideOk m o) (n : Nat) : ∀ t : Tm, SizeOf.sizeOf t < n → t.loadsOk = true →
    PCall Tryz.prog gl 100 [.pv m.pv, .pv s.pv, .pv t.pv] (.pv (.bool (known m s t))) := by
  induction n with
  | zero => intro t h; omega
  | succ n ih =>
  intro t hn2 hlo
  refine k_retargetref08_known.pcall (by simp) (by simp) (by simp) fun hwf => ?_
  have hb := Tm.wf_sub (t := t) (hwf (.pv t.pv) (by simp))
  rw [Tm.loadsOk_eq] at hlo
  simp only [Bool.and_eq_true, Bool.or_eq_true, Bool.not_eq_true', decide_eq_false_iff_not, List.length_eq_zero_iff] at hlo
  have hK := @known_eq m s t
  simp [c_retargetref08_known]
  refine ⟨_, by intros; exact .of (p_r8_variable gl m s t.name t.width hl hs hn hw), by simp, ?_⟩
  simp
  refine ⟨fun h2 hv => by rw [hK]; simp [h2, hv], fun hv => ?_⟩
  have hv' : (!decide (t.op = 2) || isVarOf m s t.name t.width) = true := by
    by_cases h2 : t.op = 2
    · simp [hv h2]
    · simp [h2]
  have hout : ∀ {i : Nat}, i < t.sub.length → known m s (gt t.sub (i : Nat)) = false → known m s t = false := fun {i} hi h => by
    rw [hK, Bool.and_eq_false_iff]; right
    rw [List.all_eq_false]
    exact ⟨_, gt_mem (i := (i : Nat)) (by omega) (by omega), by simp [h]⟩
  by_cases h24 : t.op = 24
  have hne : t.sub ≠ [] := by rcases hlo.1 with h1 | h1; exact absurd h24 h1; exact h1
  simp [h24, hne, List.length_pos_iff, Tm.bx]
  refine ⟨fun h => by rw [hK]; simp [h24, h], fun hwd => ?_⟩
  have hwd' : (!decide (t.op = 24) || decide ((gt t.sub 0).width = m.address)) = true := by simp [hwd]
  rotate_left
  have hwd' : (!decide (t.op = 24) || decide ((gt t.sub 0).width = m.address)) = true := by simp [h24]
  by_cases hne : t.sub = []
  simp [h24, Tm.bx, hne, nth]
  rotate_left
  simp [h24, Tm.bx, hne]
  rotate_left
  rotate_left
  all_goals
    refine Loop.nat (fun i => { e := [(3, .ptr 0 0), (4, .ptr 1 0), (5, .ptr 2 0), (7, .pv (.int .i64 i))], h := [(0, m.bx), (1, s.bx), (2, t.bx)], nx := 16 }) t.sub.length (fun i => (t.sub.take i).all (known m s) = true) (by simp) (by simp) (by simp [Mach.bx, Ins_.bx, Tm.bx, *]) fun i hi hinv => ?_
    by_cases hlt : i < t.sub.length
    · simp [hlt, Mach.bx, Ins_.bx, Tm.bx]
      refine DCallNext.pure (ih (gt t.sub (i : Nat)) (by have := Tm.size_gt hlt; omega) (List.all_eq_true.1 hlo.2 _ (gt_mem (by omega) (by omega)))) ?_
      simp [hlt, wrap_nat (show (0:Int) ≤ i + 1 by omega) (by omega)]
      refine ⟨hout hlt, fun h => ?_⟩
      rw [← List.all_eq_true, all_take1 hlt, hinv, h]; rfl
    · obtain rfl : i = t.sub.length := by omega
      simp [Mach.bx, Ins_.bx, Tm.bx]
      rw [List.take_length] at hinv
      rw [hK, hv', hwd', hinv]; rfl

theorem p_r8_Fits (gl : Glob) (m : Mach) (s : Ins_) (t : Tm) (hl : m.regs.length ≤ 500) (hs : s.operands.length ≤ 500) (hn : ∀ r ∈ m.regs, r.name.size ≤ 1000) (hw : ∀ o ∈ s.operands, wideOk m o) (ht : t.nodes < 2 ^ 40 ∧ t.depth < 2 ^ 40) :
    PCall Tryz.prog gl 90 [.pv m.pv, .pv s.pv, .pv t.pv] (.pv (.bool (fitsB m s t))) := by
  refine k_retargetref08_Fits.pcall (by simp) (by simp) (by simp) fun hwf => ?_
  simp [c_retargetref08_Fits]
  refine CallNext.pure (p_retargetref02_Check gl t ht.1 ht.2) fun _ => ?_
  simp
  refine ⟨_, fun h => .of (p_r8_known gl m s hl hs hn hw _ t (Nat.lt_succ_self _) (Tm.check_loads h)), by simp, ?_⟩
  simp [fitsB]
end Go.Proofs.YtbghfliffomfdaaGreatDoorV

/- Contracts: the reference of layer 8: effects. -/
namespace Go.Proofs.YtbghfliffomfdaaGreatDoorV
open Go
set_option maxRecDepth 100000
set_option maxHeartbeats 4000000

theorem p_r8_okEffect (gl : Glob) (m : Mach) (s : Ins_) (x : Eff) (hr0 : m.regs ≠ []) (hl : m.regs.length ≤ 500) (hs : s.operands.length ≤ 500) (hn : ∀ r ∈ m.regs, r.name.size ≤ 1000) (hw : ∀ o ∈ s.operands, wideOk m o) (ht : ∀ t ∈ [x.addr, x.value, x.cond], t.nodes < 2 ^ 40 ∧ t.depth < 2 ^ 40) :
    PCall Tryz.prog gl 73 [.pv m.pv, .pv s.pv, .pv x.pv] (.pv (.bool (okEffect m s x))) := by
  refine k_retargetref08_okEffect.pcall (by simp) (by simp) (by simp) fun hwf => ?_
  have fa := p_r8_Fits gl m s x.addr hl hs hn hw (ht _ (by simp))
  have fv := p_r8_Fits gl m s x.value hl hs hn hw (ht _ (by simp))
  have fc := p_r8_Fits gl m s x.cond hl hs hn hw (ht _ (by simp))
  by_cases h4 : x.kind = 4
  · simp [c_retargetref08_okEffect, h4]
    refine ⟨_, by intros; exact .of (p_r8_none gl x.addr), by simp, ?_⟩
    simp
    refine ⟨_, by intros; exact .of (p_r8_none gl x.cond), by simp, ?_⟩
    simp
    refine ⟨_, by intros; exact .of fv, by simp, ?_⟩
    simp [okEffect, h4]
  by_cases h3 : x.kind = 3
  · simp [c_retargetref08_okEffect, h3]
    refine ⟨_, by intros; exact .of (p_r8_none gl x.addr), by simp, ?_⟩
    simp
    refine ⟨_, by intros; exact .of fv, by simp, ?_⟩
    simp
    refine ⟨_, by intros; exact .of (p_r8_none gl x.cond), by simp, ?_⟩
    simp
    refine ⟨_, by intros; exact .of fc, by simp, ?_⟩
    simp [okEffect, h3]
  by_cases h2 : x.kind = 2
  · simp [c_retargetref08_okEffect, h2]
    refine ⟨_, by intros; exact .of (p_r8_none gl x.cond), by simp, ?_⟩
    simp
    refine ⟨_, by intros; exact .of fa, by simp, ?_⟩
    simp
    refine ⟨_, by intros; exact .of fv, by simp, ?_⟩
    simp [okEffect, h2]
  by_cases h1 : x.kind = 1
  · simp [c_retargetref08_okEffect, h1]
    refine CallNext.pure (p_r8_none gl x.addr) fun _ => ?_
    simp
    refine ⟨_, by intros; exact .of (p_r8_none gl x.cond), by simp, ?_⟩
    simp
    refine ⟨_, by intros; exact .of fv, by simp, ?_⟩
    simp
    have hin : inR (-1) 0 ((s.operands.length : Int) - 1) = false := by simp [inR]
    refine ⟨fun h => ?_, fun g1 g2 g3 => ⟨fun ho => ?_, fun ho => ?_⟩⟩
    · rcases h with (h | h) | h <;> simp [okEffect, h1, h]
    · have hE : okEffect m s x = (inR x.reg 0 (m.regs.length - 1) && decide (x.value.width = (gt m.regs x.reg).width)) := by
        rw [okEffect, if_pos h1, g1, g2, g3, if_pos ho]; rfl
      refine DCallNext.pure (p_r8_In gl _ _ _) ?_
      rw [wrap_i64 (by omega) (by omega)]
      by_cases hr : inR x.reg 0 ((m.regs.length : Int) - 1) = true
      · have hr' : 0 ≤ x.reg ∧ x.reg ≤ (m.regs.length : Int) - 1 := by simpa [inR] using hr
        simp [hr, hr0, hE]
        omega
      · simp [hr, hr0, hE]
    · have hE : okEffect m s x = (decide (x.reg = 0) && inR x.operand 0 (s.operands.length - 1) && decide ((gt s.operands x.operand).kind = 1) && decide (x.value.width = wideI m (gt s.operands x.operand))) := by
        rw [okEffect, if_pos h1, g1, g2, g3, if_neg ho]; rfl
      refine ⟨_, by intros; exact .of (p_r8_In gl _ _ _), by simp, ?_⟩
      rw [wrap_i64 (by omega) (by omega)]
      by_cases hr : x.reg = 0 ∧ inR x.operand 0 ((s.operands.length : Int) - 1) = true
      · have hr' : 0 ≤ x.operand ∧ x.operand ≤ (s.operands.length : Int) - 1 := by simpa [inR] using hr.2
        have hone : s.operands ≠ [] := by intro h; simp [h] at hr'; omega
        have hwo := hw _ (gt_mem (l := s.operands) (i := x.operand) (by omega) (by omega))
        simp [hr, hone, hE]
        refine ⟨⟨by omega, by omega⟩, ⟨fun _ => by omega, fun _ => by omega⟩, _, fun _ => .of (p_r8_Wide gl m _ hwo), by simp, ?_⟩
        simp
      · have hE2 : okEffect m s x = false := by
          rw [hE]
          have : (decide (x.reg = 0) && inR x.operand 0 ((s.operands.length : Int) - 1)) = false := by
            rw [Bool.eq_false_iff]; intro hh; apply hr; simpa using hh
          rw [this]; rfl
        by_cases hx : x.reg = 0
        · have hi : inR x.operand 0 ((s.operands.length : Int) - 1) = false := by
            rw [Bool.eq_false_iff]; intro hh; exact hr ⟨hx, hh⟩
          by_cases hone : s.operands = []
          · have hi2 : inR x.operand 0 (-1) = false := by simpa [hone] using hi
            simp [hx, hi2, hone, hE2, nth]
            refine ⟨.pv (.bool false), by simp, ?_⟩
            simp
          · simp [hx, hi, hone, hE2]
            refine ⟨.pv (.bool false), by simp, ?_⟩
            simp
        · by_cases hone : s.operands = []
          · simp [hx, hone, hE2, nth]
            refine ⟨.pv (.bool false), by simp, ?_⟩
            simp
          · simp [hx, hone, hE2]
            refine ⟨.pv (.bool false), by simp, ?_⟩
            simp
  · simp [c_retargetref08_okEffect, h1, h2, h3, h4, okEffect]
end Go.Proofs.YtbghfliffomfdaaGreatDoorV

/- Contracts: the reference of layer 8: instructions. -/
namespace Go.Proofs.YtbghfliffomfdaaGreatDoorV
open Go
set_option maxRecDepth 100000
set_option maxHeartbeats 4000000

def kindsC (s : Ins_) (k : Int) (i : Nat) : Int := (((s.effects.take i).filter fun x => decide (x.kind = k)).length : Int)
theorem kindsC_succ {s : Ins_} {k : Int} {i : Nat} (h : i < s.effects.length) : kindsC s k (i + 1) = kindsC s k i + if (gt s.effects (i : Nat)).kind = k then 1 else 0 := by
  unfold kindsC
  rw [List.take_succ_eq_append_getElem h, List.filter_append, List.length_append, gt_nat h]
  by_cases he : s.effects[i].kind = k <;> simp [he]
theorem kindsC_le (s : Ins_) (k : Int) (i : Nat) : 0 ≤ kindsC s k i ∧ kindsC s k i ≤ i := by
  unfold kindsC
  have h1 := List.length_filter_le (fun x : Eff => decide (x.kind = k)) (s.effects.take i)
  have h2 := List.length_take_le i s.effects
  omega
theorem kindsC_all (s : Ins_) (k : Int) : kindsC s k s.effects.length = countK s k := by rw [kindsC, List.take_length]; rfl
/-- What valid operands give. -/
theorem ops_wide {m : Mach} {s : Ins_} (hb : okBanks m = true) (h : allB s.operands.length (okOperand m s) = true) : (∀ o ∈ s.operands, wideOk m o) ∧ rngs m s s.operands.length := by
  have h1 : ∀ j, j < s.operands.length → (allB (gt s.operands (j : Nat)).pieces.length (rngOk m.word (gt s.operands (j : Nat)).pieces) && kindOk m s j) = true := fun j hj => by
    have := allB_true.1 h j hj
    rw [okOperand_eq hj, Bool.and_eq_true] at this
    exact this.2
  refine ⟨?_, ?_⟩
  · intro o ho hk
    obtain ⟨j, hj, rfl⟩ := List.getElem_of_mem ho
    have h2 := h1 j hj
    simp only [Bool.and_eq_true, kindOk] at h2
    rw [gt_nat hj] at h2
    have h3 := h2.2
    simp only [hk, if_true, Bool.and_eq_true] at h3
    have h4 : 0 ≤ s.operands[j].bank ∧ s.operands[j].bank ≤ (m.banks.length : Int) - 1 := by simpa [inR] using h3.1.1
    have h5 := allB_true.1 hb s.operands[j].bank.toNat (by omega)
    simp only [bankOk, Bool.and_eq_true] at h5
    rw [Int.toNat_of_nonneg h4.1] at h5
    have h6 := h5.1.1.2
    simp only [decide_eq_true_eq] at h6
    have h7 := allB_true.1 h5.2 0 h6
    simp only [Bool.and_eq_true] at h7
    have h8 : 0 ≤ gt (gt m.banks s.operands[j].bank).regs 0 ∧ gt (gt m.banks s.operands[j].bank).regs 0 ≤ (m.regs.length : Int) - 1 := by simpa [inR] using h7.1.1
    exact ⟨⟨h4.1, by omega⟩, by intro hn; simp [hn] at h6, h8.1, by omega⟩
  · intro j hj k hk
    have h2 := h1 j hj
    rw [Bool.and_eq_true] at h2
    exact allB_true.1 h2.1 k hk
def opsF (m : Mach) (s : Ins_) : Bool := allB s.operands.length (okOperand m s)
theorem p_r8_okInstr (gl : Glob) (m : Mach) (s : Ins_) (hw : 1 ≤ m.word ∧ m.word ≤ 4) (hr : okRegs m = true) (hb : okBanks m = true) (hbd : insBd m s) :
    PCall Tryz.prog gl 53 [.pv m.pv, .pv s.pv] (.pv (.bool (okInstr m s))) := by
  obtain ⟨hb1, hb2, hb3, hb4, hb5, hb6, hb7⟩ := hbd
  have hreg : m.regs ≠ [] := by intro h; simp [okRegs, h] at hr
  refine k_retargetref08_okInstr.pcall (by simp) (by simp) (by simp) fun hwf => ?_
  have h8 : IntKind.i64.wrap (8 * m.word) = 8 * m.word := wrap_i64 (by omega) (by omega)
  simp [c_retargetref08_okInstr]
  refine CallNext.pure (p_r8_Below gl _ _) fun _ => ?_
  simp [h8]
  refine ⟨fun h => ?_, fun h1 => ?_⟩
  rotate_left
  have h1' : decide (s.mask < 2 ^ (8 * m.word).toNat) = true := by simpa using h1
  rotate_left
  · rw [okInstr, show decide (s.mask < 2 ^ (8 * m.word).toNat) = false from by simpa using h]; rfl
  refine Loop.nat (fun b => { e := [(2, .ptr 0 0), (3, .ptr 1 0), (5, .pv (.int .i64 b))], h := [(0, m.bx), (1, s.bx)], nx := 2 }) 64 (fun b => (allB b fun b => decide (bitI s.mtch b ≤ bitI s.mask b)) = true) (by simp [Mach.bx, Ins_.bx]) (by simp) (by simp [Mach.bx, Ins_.bx]) fun b hbl hinv => ?_
  by_cases hlt : b < 64
  · simp [show (b : Int) < 64 by omega, Mach.bx, Ins_.bx]
    refine DCallNext.pure (p_r8_Bit gl s.mtch b (by omega)) ?_
    simp
    refine DCallNext.pure (p_r8_Bit gl s.mask b (by omega)) ?_
    simp [hlt, wrap_nat (show (0:Int) ≤ b + 1 by omega) (by omega)]
    refine ⟨fun h => ?_, fun h => ?_⟩
    · rw [okInstr, h1', allB_false hlt (by simpa using h)]; rfl
    · rw [allB_succ, hinv]; simpa using h
  obtain rfl : b = 64 := by omega
  simp [Mach.bx, Ins_.bx]
  refine Loop.nat (fun i => { e := [(2, .ptr 0 0), (3, .ptr 1 0), (6, .pv (.int .i64 i))], h := [(0, m.bx), (1, s.bx)], nx := 2 }) s.operands.length (fun i => (allB i (okOperand m s)) = true) (by simp [Mach.bx, Ins_.bx]) (by simp) (by simp [Mach.bx, Ins_.bx]) fun i hi hinv2 => ?_
  by_cases hlt : i < s.operands.length
  · have hm := gt_mem (l := s.operands) (i := (i : Nat)) (by omega) (by omega)
    simp [hlt, Mach.bx, Ins_.bx]
    refine CallNext.pure (p_r8_okOperand gl m s i hlt hw hb4 hb2 (hb6 _ hm)) fun _ => ?_
    simp [wrap_nat (show (0:Int) ≤ i + 1 by omega) (by omega)]
    refine ⟨fun h => ?_, fun h => ⟨hlt, ?_⟩⟩
    · rw [okInstr, h1', hinv, allB_false hlt h]; rfl
    · rw [allB_succ, hinv2, h]; rfl
  obtain rfl : i = s.operands.length := by omega
  obtain ⟨hwide, hrng⟩ := ops_wide hb hinv2
  simp [Mach.bx, Ins_.bx]
  refine CallNext.pure (p_r8_apart gl m s hw hb4 hb6 hrng) fun _ => ?_
  simp
  refine ⟨fun h => ?_, fun hap => ?_⟩
  · rw [okInstr, h1', hinv, hinv2, h]; rfl
  refine Loop.nat (fun i => { e := [(2, .ptr 0 0), (3, .ptr 1 0), (7, .pv (.int .i64 (kindsC s 3 i))), (8, .pv (.int .i64 (kindsC s 4 i))), (9, .pv (.int .i64 i))], h := [(0, m.bx), (1, s.bx)], nx := 2 }) s.effects.length (fun i => (s.effects.take i).all (okEffect m s) = true) (by simp [Mach.bx, Ins_.bx]) (by simp) (by simp [Mach.bx, Ins_.bx, kindsC]) fun i hi hinv3 => ?_
  have hk3 := kindsC_le s 3 i
  have hk4 := kindsC_le s 4 i
  by_cases hlt : i < s.effects.length
  · have hm := gt_mem (l := s.effects) (i := (i : Nat)) (by omega) (by omega)
    simp [hlt, Mach.bx, Ins_.bx]
    refine DCallNext.pure (p_r8_okEffect gl m s _ hreg hb1 hb4 (names_of hr) hwide (hb7 _ hm)) ?_
    simp [hlt, wrap_nat (show (0:Int) ≤ i + 1 by omega) (by omega), kindsC_succ hlt]
    refine ⟨fun h => ?_, fun h => ?_⟩
    · have hf : s.effects.all (okEffect m s) = false := List.all_eq_false.2 ⟨_, hm, by simp [h]⟩
      rw [okInstr, h1', hinv, hinv2, hap, hf]; rfl
    have hA : ∀ x ∈ s.effects.take (i + 1), okEffect m s x = true := by rw [← List.all_eq_true, all_take1 hlt, hinv3, h]; rfl
    refine ⟨fun h3 => ⟨fun h4 => ?_, fun h4 => ?_⟩, fun h3 => ⟨fun h4 => ?_, fun h4 => ?_⟩⟩
    all_goals
      refine ⟨hA, ?_, ?_⟩ <;> first | (rw [if_pos h3]; exact wrap_nat (by omega) (by omega)) | (rw [if_neg h3]; omega) | (rw [if_pos h4]; exact wrap_nat (by omega) (by omega)) | (rw [if_neg h4]; omega)
  obtain rfl : i = s.effects.length := by omega
  have hE : s.effects.all (okEffect m s) = true := by rwa [List.take_length] at hinv3
  have hO : okInstr m s = (decide (countK s 3 ≤ 1) && (decide (countK s 4 = 0) || decide (s.effects.length ≤ 1)) &&
      inR s.unit 0 (m.units.length - 1) && inR s.busy 1 15 && inR s.latency 1 15 && inR s.slots 0 2 && (decide (s.slots = 0) || decide (countK s 3 = 1))) := by
    rw [okInstr, h1', hinv, hinv2, hap, hE]; simp only [Bool.true_and]
  rw [kindsC_all] at hk3 hk4
  simp [Mach.bx, Ins_.bx, kindsC_all]
  refine ⟨fun h => ?_, fun g1 g2 => ?_⟩
  · rw [hO]
    rcases h with h | h
    · rw [show decide (countK s 3 ≤ 1) = false from decide_eq_false (by omega)]; rfl
    · rw [show decide (countK s 4 = 0) = false from decide_eq_false (by omega), show decide (s.effects.length ≤ 1) = false from decide_eq_false (by omega)]; simp
  have hO2 : okInstr m s = (inR s.unit 0 (m.units.length - 1) && inR s.busy 1 15 && inR s.latency 1 15 && inR s.slots 0 2 && (decide (s.slots = 0) || decide (countK s 3 = 1))) := by
    have e : (decide (countK s 4 = 0) || decide (s.effects.length ≤ 1)) = true := by
      by_cases h4 : countK s 4 = 0
      · simp [h4]
      · have := g2 (by omega); simp; right; omega
    rw [hO, e, show decide (countK s 3 ≤ 1) = true from decide_eq_true g1]; simp only [Bool.true_and]
  rw [wrap_i64 (by omega) (by omega)]
  refine CallNext.pure (p_r8_In gl _ _ _) fun _ => ?_
  simp
  refine ⟨_, by intros; exact .of (p_r8_In gl _ _ _), by simp, ?_⟩
  simp
  refine ⟨_, by intros; exact .of (p_r8_In gl _ _ _), by simp, ?_⟩
  simp
  refine ⟨_, by intros; exact .of (p_r8_In gl _ _ _), by simp, ?_⟩
  simp
  rw [hO2]
end Go.Proofs.YtbghfliffomfdaaGreatDoorV

/- Contracts: the reference of layer 8: Check. -/
namespace Go.Proofs.YtbghfliffomfdaaGreatDoorV
open Go
set_option maxRecDepth 100000
set_option maxHeartbeats 4000000

theorem mcheck_bad {m : Mach} {i : Nat} (hl : inLimits m = true) (hi : i < m.instrs.length) (h : instrOk m i = false) : mcheck m = 8 := by
  rw [mcheck, if_pos hl, if_neg]
  rw [allB_false hi h]; simp
theorem p_r8_Check (gl : Glob) (m : Mach) (ht : mTerms m) : PCall Tryz.prog gl 28 [.pv m.pv] (.pv (.int .i64 (mcheck m))) := by
  refine k_retargetref08_Check.pcall (by simp) (by simp) (by simp) fun hwf => ?_
  simp [c_retargetref08_Check]
  refine CallNext.pure (p_r8_within gl m) fun _ => ?_
  simp
  refine ⟨fun hl => ?_, fun hl => ?_⟩
  · simp [mcheck, hl]
  obtain ⟨hb1, hb2, hb3, hb4, hb5, hb6⟩ := inLimits_iff hl
  refine CallNext.pure (p_retargetref01_Name gl _) fun _ => ?_
  simp
  refine ⟨_, by intros; exact .of (p_r8_In gl _ _ _), by simp, ?_⟩
  simp
  refine ⟨_, by intros; exact .of (p_r8_okRegs gl m (by omega)), by simp, ?_⟩
  simp
  refine ⟨_, by intros; exact .of (p_r8_okBanks gl m (by omega)), by simp, ?_⟩
  simp
  refine ⟨_, by intros; exact .of (p_r8_okUnits gl m), by simp, ?_⟩
  simp
  refine ⟨fun h => ?_, fun g1 g2 g3 g4 g5 g6 => ?_⟩
  · symm
    rw [mcheck, if_pos hl, if_neg]
    intro hh
    simp only [Bool.and_eq_true, Bool.or_eq_true, decide_eq_true_eq] at hh
    obtain ⟨⟨⟨⟨⟨⟨x1, x2⟩, x3⟩, x4⟩, x5⟩, x6⟩, -⟩ := hh
    simp [x1, x2, x4, x5, x6] at h
    omega
  have hw : 1 ≤ m.word ∧ m.word ≤ 4 := by simpa [inR] using g2
  have hmc : mcheck m = if allB m.instrs.length (instrOk m) = true then 0 else 8 := by
    have g3' : (decide (m.address = 16) || decide (m.address = 32)) = true := by
      by_cases h : m.address = 16 <;> simp [h, g3]
    rw [mcheck, if_pos hl, g1, g2, g3', g4, g5, g6]; simp only [Bool.true_and]
  have hout : ∀ {i : Nat}, i < m.instrs.length → instrOk m i = false → 8 = mcheck m := fun {i} hi h => by
    rw [hmc, if_neg]; rw [allB_false hi h]; simp
  refine Loop.nat (fun i => { e := [(1, .ptr 0 0), (3, .pv (.int .i64 i))], h := [(0, m.bx)], nx := 1 }) m.instrs.length (fun i => allB i (instrOk m) = true) (by simp [Mach.bx]) (by simp) (by simp [Mach.bx]) fun i hi hinv => ?_
  by_cases hlt : i < m.instrs.length
  · have hm := gt_mem (l := m.instrs) (i := (i : Nat)) (by omega) (by omega)
    have hne : m.instrs ≠ [] := by intro h; simp [h] at hlt
    obtain ⟨h61, h62, h63⟩ := hb6 _ hm
    have hbd : insBd m (gt m.instrs (i : Nat)) := ⟨by omega, by omega, by omega, by omega, by omega, fun o ho => by have := h63 o ho; omega, ht _ hm⟩
    simp [hlt, Mach.bx]
    generalize hs : gt m.instrs (i : Nat) = s at *
    refine CallNext.pure (p_retargetref01_Name gl _) fun _ => ?_
    simp
    refine ⟨_, by intros; exact .of (p_r8_okInstr gl m s hw g4 g5 hbd), by simp, ?_⟩
    simp
    refine ⟨fun h => hout hlt ?_, fun a1 a2 => ?_⟩
    · simp only [instrOk, hs]
      rcases h with h | h <;> simp [h]
    refine Loop.nat (fun k => { e := [(1, .ptr 0 0), (3, .pv (.int .i64 i)), (4, .ptr 1 0), (5, .pv (.int .i64 k))], h := [(0, m.bx), (1, s.bx)], nx := 2 }) i (fun k => (allB k fun j => !decide ((gt m.instrs (j : Nat)).name = s.name)) = true) (by simp [Mach.bx, Ins_.bx]) (by simp) (by simp [Mach.bx, Ins_.bx]) fun k hk hinv2 => ?_
    by_cases hkt : k < i
    · simp [hkt, hlt, hne, show k < m.instrs.length by omega, Mach.bx, Ins_.bx, wrap_nat (show (0:Int) ≤ k + 1 by omega) (by omega)]
      refine ⟨fun h => hout hlt ?_, fun h => ?_⟩
      · simp only [instrOk, hs]; rw [allB_false hkt (by simp [h])]; simp
      · rw [allB_succ, hinv2]; simpa using h
    obtain rfl : k = i := by omega
    simp [hlt, Mach.bx, Ins_.bx, wrap_nat (show (0:Int) ≤ k + 1 by omega) (by omega)]
    rw [allB_succ, hinv]; simp only [instrOk, hs, a1, a2, hinv2]; rfl
  · obtain rfl : i = m.instrs.length := by omega
    simp [Mach.bx]
    rw [hmc, if_pos hinv]
end Go.Proofs.YtbghfliffomfdaaGreatDoorV
