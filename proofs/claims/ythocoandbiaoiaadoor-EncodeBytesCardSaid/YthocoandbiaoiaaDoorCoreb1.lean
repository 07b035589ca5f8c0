/- Packed: Va Vb Vc Vd Ve Vf Vg Vh Vi Vj Vk Vl Vm Vn Vo -/
import Derived.Orders
import Derived.WalkKit
import Derived.KernelRfl
import Derived.Deep.MidRow
import Derived.Laws.AppendOwn
set_option linter.all false
namespace Go.Proofs.YthocoandbiaoiaaDoorV
open Go
inductive PV where
  | int (k : IntKind) (n : Int)
  | bool (b : Bool)
  | str (s : ByteArray)
  | lst (sz : Nat) (xs : List PV)
  | agg (cs : List PV)
namespace PV
def cells : PV → List PV
  | .agg cs => cs
  | p => [p]
def one : PV → Bool
  | .agg _ => false
  | _ => true
end PV
def flat (xs : List PV) : List PV := xs.flatMap PV.cells
abbrev Mem := Nat → Nat → Option Value
inductive PRep (m : Mem) : PV → Value → Prop
  | int {k : IntKind} {n : Int} (h0 : k.min ≤ n) (h1 : n ≤ k.max) : PRep m (.int k n) (.int k n)
  | bool {b : Bool} : PRep m (.bool b) (.bool b)
  | str {s : ByteArray} (h : s.size ≤ maxLen) : PRep m (.str s) (.string s)
  | agg {cs : List PV} {vs : Array Value} (hl : cs.length = vs.size) (ho : ∀ c ∈ cs, c.one = true)
      (hc : ∀ (j : Nat) (c : PV) (v : Value), cs[j]? = some c → vs[j]? = some v → PRep m c v) : PRep m (.agg cs) (.agg vs)
  | lst {sz : Nat} {xs : List PV} {A : Option Addr} {n c : Nat} (vs : List Value) (hn : xs.length = n) (hnc : n ≤ c) (hm : c ≤ maxLen)
      (hz : 0 < sz) (hs : ∀ x ∈ xs, x.cells.length = sz) (ho : ∀ c ∈ flat xs, c.one = true) (hl : vs.length = (flat xs).length)
      (hc : ∀ (j : Nat) (u : PV) (v : Value), (flat xs)[j]? = some u → vs[j]? = some v → PRep m u v)
      (ha : xs = [] ∨ ∃ B o, A = some ⟨B, o, none⟩ ∧ ∀ (j : Nat) (v : Value), vs[j]? = some v → m B (o + j) = some v) :
      PRep m (.lst sz xs) (.slice A n c)
def MemLe (m m' : Mem) : Prop := ∀ b o v, m b o = some v → m' b o = some v
theorem MemLe.refl (m : Mem) : MemLe m m := fun _ _ _ h => h
theorem MemLe.trans {a b c : Mem} (h : MemLe a b) (k : MemLe b c) : MemLe a c := fun _ _ _ x => k _ _ _ (h _ _ _ x)
theorem PRep.mono {m m' : Mem} (hm : MemLe m m') {p : PV} {v : Value} (h : PRep m p v) : PRep m' p v := by
  induction h with
  | int h0 h1 => exact .int h0 h1
  | bool => exact .bool
  | str h => exact .str h
  | agg hl ho _ ih => exact .agg hl ho ih
  | lst vs hn hnc hmx hz hs ho hl _ ha ih =>
    refine .lst vs hn hnc hmx hz hs ho hl ih ?_
    rcases ha with ha | ⟨B, o, hA, hc⟩
    · exact .inl ha
    · exact .inr ⟨B, o, hA, fun j v hv => hm _ _ _ (hc j v hv)⟩
theorem PRep.oneCell' {m : Mem} {p : PV} {v : Value} (h : PRep m p v) (ho : p.one = true) : v.oneCell' = true := by
  cases h <;> simp_all [PV.one, Value.oneCell']
theorem PRep.agg_inv {m : Mem} {cs : List PV} {v : Value} (h : PRep m (.agg cs) v) :
    ∃ vs : Array Value, v = .agg vs ∧ cs.length = vs.size ∧ (∀ c ∈ cs, c.one = true) ∧
      ∀ (j : Nat) (c : PV) (v : Value), cs[j]? = some c → vs[j]? = some v → PRep m c v := by
  cases h with
  | agg hl ho hc => exact ⟨_, rfl, hl, ho, hc⟩
theorem PRep.cells {m : Mem} {p : PV} {v : Value} (h : PRep m p v) : p.cells.length = v.cells.size ∧ (∀ c ∈ p.cells, c.one = true) ∧
    ∀ (j : Nat) (c : PV) (u : Value), p.cells[j]? = some c → v.cells[j]? = some u → PRep m c u := by
  cases h with
  | agg hl ho hc => exact ⟨hl, ho, hc⟩
  | int h0 h1 =>
    refine ⟨rfl, by simp [PV.cells, PV.one], fun j c u hc hu => ?_⟩
    rcases j with _ | j <;> simp [PV.cells, Value.cells] at hc hu
    subst hc; subst hu; exact .int h0 h1
  | bool =>
    refine ⟨rfl, by simp [PV.cells, PV.one], fun j c u hc hu => ?_⟩
    rcases j with _ | j <;> simp [PV.cells, Value.cells] at hc hu
    subst hc; subst hu; exact .bool
  | str hs =>
    refine ⟨rfl, by simp [PV.cells, PV.one], fun j c u hc hu => ?_⟩
    rcases j with _ | j <;> simp [PV.cells, Value.cells] at hc hu
    subst hc; subst hu; exact .str hs
  | lst vs hn hnc hm hz hs ho hl hc ha =>
    refine ⟨rfl, by simp [PV.cells, PV.one], fun j c u hc' hu => ?_⟩
    rcases j with _ | j <;> simp [PV.cells, Value.cells] at hc' hu
    subst hc'; subst hu; exact .lst vs hn hnc hm hz hs ho hl hc ha
inductive DV where
  | pv (p : PV)
  | agg (cs : List DV)
  | tup (vs : List DV)
  | nilS (sz : Nat)
  | flit (sz : Nat) (xs : List PV)
  | own (id sz : Nat) (xs : List PV)
  | mrow (id off len sz : Nat)
  | ptr (id off : Nat)
  | eptr (cs : List PV)
  | nilP
  | fn (f : Fn) (first captured : List DV)
  | nilF
  | mref (id : Nat)
  | stmp (id i : Nat)
  | nilM
  | ifc (t : TypeId) (v : DV)
  | nilI
  | gd (b : Bool) (d : DV)
  | junk
structure Gh where
  m : Mem
  μ : Nat → Option Nat
  τ : Nat → Nat → Option Value
inductive DRep (g : Gh) : DV → Value → Prop
  | pv {p : PV} {v : Value} (h : PRep g.m p v) : DRep g (.pv p) v
  | agg {cs : List DV} {vs : Array Value} (hl : cs.length = vs.size) (ho : ∀ v ∈ vs.toList, v.oneCell' = true)
      (hc : ∀ (j : Nat) (c : DV) (v : Value), cs[j]? = some c → vs[j]? = some v → DRep g c v) : DRep g (.agg cs) (.agg vs)
  | tup {cs : List DV} {vs : Array Value} (hl : cs.length = vs.size)
      (hc : ∀ (j : Nat) (c : DV) (v : Value), cs[j]? = some c → vs[j]? = some v → DRep g c v) : DRep g (.tup cs) (.tuple vs)
  | nilS {sz : Nat} : DRep g (.nilS sz) (.slice none 0 0)
  | flit {sz : Nat} {xs : List PV} {B n : Nat} (h : PRep g.m (.lst sz xs) (.slice (some ⟨B, 0, none⟩) n n)) :
      DRep g (.flit sz xs) (.slice (some ⟨B, 0, none⟩) n n)
  | own {id sz : Nat} {xs : List PV} {v : Value} (h : PRep g.m (.lst sz xs) v) (ht : g.τ id xs.length = some v) : DRep g (.own id sz xs) v
  | mrow {id off len cap sz B : Nat} (h : g.μ id = some B) (hc : len ≤ cap) (hm : cap ≤ maxLen) : DRep g (.mrow id off len sz) (.slice (some ⟨B, off, none⟩) len cap)
  | ptr {id off B : Nat} (h : g.μ id = some B) : DRep g (.ptr id off) (.pointer (some ⟨B, off, none⟩))
  | eptr {cs : List PV} {B o : Nat} (h : ∀ (j : Nat) (c : PV), cs[j]? = some c → c.one = true ∧ ∃ v, g.m B (o + j) = some v ∧ PRep g.m c v) :
      DRep g (.eptr cs) (.pointer (some ⟨B, o, none⟩))
  | nilP : DRep g .nilP (.pointer none)
  | fn {f : Fn} {a c : List DV} {va vc : Array Value} (ha : a.length = va.size) (hc : c.length = vc.size)
      (ha' : ∀ (j : Nat) (d : DV) (v : Value), a[j]? = some d → va[j]? = some v → DRep g d v)
      (hc' : ∀ (j : Nat) (d : DV) (v : Value), c[j]? = some d → vc[j]? = some v → DRep g d v) : DRep g (.fn f a c) (.func f va vc)
  | nilF : DRep g .nilF .nilFunc
  | mref {id B : Nat} (h : g.μ id = some B) : DRep g (.mref id) (.map (some B))
  | stmp {id i : Nat} {v : Value} (h : g.τ id i = some v) : DRep g (.stmp id i) v
  | nilM : DRep g .nilM (.map none)
  | ifc {t : TypeId} {d : DV} {v : Value} (h : DRep g d v) : DRep g (.ifc t d) (.iface t v)
  | nilI : DRep g .nilI .nilIface
  | gd {b : Bool} {d : DV} {v : Value} (h : b = true → DRep g d v) (hu : b = false → v = undef) : DRep g (.gd b d) v
  | junk {v : Value} : DRep g .junk v
structure GLe (K p : Nat → Prop) (g g' : Gh) : Prop where
  m : MemLe g.m g'.m
  fix : ∀ b, K b → ∀ o, g'.m b o = g.m b o
  μ : ∀ id, p id → g'.μ id = g.μ id
  τ : ∀ id, p id → ∀ k v, g.τ id k = some v → g'.τ id k = some v
theorem GLe.refl (K p : Nat → Prop) (g : Gh) : GLe K p g g := ⟨.refl _, fun _ _ _ => rfl, fun _ _ => rfl, fun _ _ _ _ h => h⟩
theorem GLe.trans {K p : Nat → Prop} {a b c : Gh} (h : GLe K p a b) (k : GLe K p b c) : GLe K p a c :=
  ⟨h.m.trans k.m, fun x hx o => (k.fix x hx o).trans (h.fix x hx o), fun i hi => (k.μ i hi).trans (h.μ i hi), fun i hi j v x => k.τ i hi j v (h.τ i hi j v x)⟩
theorem GLe.le {K p p' : Nat → Prop} {a b : Gh} (h : GLe K p a b) (hn : ∀ i, p' i → p i) : GLe K p' a b :=
  ⟨h.m, h.fix, fun i hi => h.μ i (hn i hi), fun i hi => h.τ i (hn i hi)⟩
def DV.nm (p : Nat → Prop) : DV → Prop
  | .own id _ _ | .mrow id _ _ _ | .ptr id _ | .mref id | .stmp id _ => p id
  | .agg cs | .tup cs => ∀ x ∈ cs.attach, DV.nm p x.1
  | .fn _ a c => (∀ x ∈ a.attach, DV.nm p x.1) ∧ (∀ x ∈ c.attach, DV.nm p x.1)
  | .ifc _ d | .gd _ d => DV.nm p d
  | _ => True
termination_by d => SizeOf.sizeOf d
decreasing_by all_goals (first | (have := List.sizeOf_lt_of_mem x.2; simp_wf; omega) | (simp_wf; omega) | simp_wf)
theorem DV.nm_agg {p : Nat → Prop} {cs : List DV} : (DV.agg cs).nm p ↔ ∀ c ∈ cs, c.nm p := by
  rw [DV.nm]; exact ⟨fun h c hc => h ⟨c, hc⟩ (List.mem_attach _ _), fun h x _ => h x.1 x.2⟩
theorem DV.nm_tup {p : Nat → Prop} {cs : List DV} : (DV.tup cs).nm p ↔ ∀ c ∈ cs, c.nm p := by
  rw [DV.nm]; exact ⟨fun h c hc => h ⟨c, hc⟩ (List.mem_attach _ _), fun h x _ => h x.1 x.2⟩
theorem DV.nm_fn {p : Nat → Prop} {f : Fn} {a c : List DV} : (DV.fn f a c).nm p ↔ (∀ d ∈ a, d.nm p) ∧ ∀ d ∈ c, d.nm p := by
  rw [DV.nm]; exact ⟨fun h => ⟨fun d hd => h.1 ⟨d, hd⟩ (List.mem_attach _ _), fun d hd => h.2 ⟨d, hd⟩ (List.mem_attach _ _)⟩, fun h => ⟨fun x _ => h.1 x.1 x.2, fun x _ => h.2 x.1 x.2⟩⟩
theorem DV.nm_mono {p q : Nat → Prop} (hpq : ∀ i, p i → q i) : ∀ (d : DV), d.nm p → d.nm q
  | .own id _ _, h | .mrow id _ _ _, h | .ptr id _, h | .mref id, h | .stmp id _, h => by rw [DV.nm] at h ⊢; exact hpq _ h
  | .agg cs, h => by rw [DV.nm_agg] at h ⊢; exact fun c hc => DV.nm_mono hpq c (h c hc)
  | .tup cs, h => by rw [DV.nm_tup] at h ⊢; exact fun c hc => DV.nm_mono hpq c (h c hc)
  | .fn f a c, h => by
    rw [DV.nm_fn] at h ⊢
    exact ⟨fun d hd => DV.nm_mono hpq d (h.1 d hd), fun d hd => DV.nm_mono hpq d (h.2 d hd)⟩
  | .ifc t d, h => by rw [DV.nm] at h ⊢; exact DV.nm_mono hpq d h
  | .gd b d, h => by rw [DV.nm] at h ⊢; exact DV.nm_mono hpq d h
  | .pv _, _ | .nilS _, _ | .flit _ _, _ | .eptr _, _ | .nilP, _ | .nilF, _ | .nilM, _ | .nilI, _ | .junk, _ => by simp only [DV.nm]
termination_by d => SizeOf.sizeOf d
decreasing_by all_goals (first | (have := List.sizeOf_lt_of_mem hc; simp_wf; omega) | (have := List.sizeOf_lt_of_mem hd; simp_wf; omega) | (simp_wf; omega) | simp_wf)
theorem DRep.mono {K p : Nat → Prop} {g g' : Gh} (hg : GLe K p g g') {d : DV} {v : Value} (h : DRep g d v) (hb : d.nm p) : DRep g' d v := by
  induction h with
  | pv h => exact .pv (h.mono hg.m)
  | agg hl ho _ ih => exact .agg hl ho fun j c v hc hv => ih j c v hc hv (DV.nm_agg.1 hb c (List.mem_of_getElem? hc))
  | tup hl _ ih => exact .tup hl fun j c v hc hv => ih j c v hc hv (DV.nm_tup.1 hb c (List.mem_of_getElem? hc))
  | nilS => exact .nilS
  | flit h => exact .flit (h.mono hg.m)
  | own h ht => rw [DV.nm] at hb; exact .own (h.mono hg.m) (hg.τ _ hb _ _ ht)
  | mrow h hc hm => rw [DV.nm] at hb; exact .mrow ((hg.μ _ hb).trans h) hc hm
  | ptr h => rw [DV.nm] at hb; exact .ptr ((hg.μ _ hb).trans h)
  | eptr h => exact .eptr fun j c hc => let ⟨h0, v, h1, h2⟩ := h j c hc; ⟨h0, v, hg.m _ _ _ h1, h2.mono hg.m⟩
  | nilP => exact .nilP
  | fn ha hc _ _ iha ihc =>
    rw [DV.nm_fn] at hb
    exact .fn ha hc (fun j d v hd hv => iha j d v hd hv (hb.1 d (List.mem_of_getElem? hd))) (fun j d v hd hv => ihc j d v hd hv (hb.2 d (List.mem_of_getElem? hd)))
  | nilF => exact .nilF
  | mref h => rw [DV.nm] at hb; exact .mref ((hg.μ _ hb).trans h)
  | stmp h => rw [DV.nm] at hb; exact .stmp (hg.τ _ hb _ _ h)
  | nilM => exact .nilM
  | ifc _ ih => rw [DV.nm] at hb; exact .ifc (ih hb)
  | nilI => exact .nilI
  | gd _ hu ih => rw [DV.nm] at hb; exact .gd (fun hb' => ih hb' hb) hu
  | junk => exact .junk
abbrev Env := List (Nat × DV)
structure LRec where
  fn : FuncId
  tn : Nat
  ps : Array Tmp
  asg : Code
  body : Code
  D : Nat
inductive Ob where
  | box (cs : List DV)
  | tip (sz n : Nat)
  | mp (es : List (PV × DV))
  | lrec (l : Nat) (r : LRec) (st : Option Code) (e : Env)
def eget : Env → Nat → Option DV
  | [], _ => none
  | (j, d) :: r, i => if i = j then some d else eget r i
theorem eget_map (f : DV → DV) : ∀ (e : Env) (i : Nat), eget (e.map fun x => (x.1, f x.2)) i = (eget e i).map f
  | [], _ => rfl
  | (j, d) :: r, i => by
    simp only [List.map_cons, eget]
    split
    · rfl
    · exact eget_map f r i
abbrev Heap := List (Nat × Ob)
def hget : Heap → Nat → Option Ob
  | [], _ => none
  | (j, d) :: r, i => if i = j then some d else hget r i
def hset : Heap → Nat → Ob → Heap
  | [], i, o => [(i, o)]
  | (j, d) :: r, i, o => if i = j then (j, o) :: r else (j, d) :: hset r i o
theorem hget_hset (H : Heap) (i j : Nat) (o : Ob) : hget (hset H i o) j = if j = i then some o else hget H j := by
  induction H with
  | nil => simp [hset, hget]
  | cons x r ih =>
    obtain ⟨k, d⟩ := x
    simp only [hset]
    by_cases h : i = k
    · subst h
      simp only [if_true, hget]
      split <;> simp_all
    · simp only [h, if_false, hget, ih]
      by_cases hj : j = k
      · subst hj; simp [Ne.symm h]
      · simp [hj]
structure St where
  e : Env
  h : Heap
  nx : Nat
def St.put (s : St) (d : Option Nat) (v : DV) : St :=
  match d with
  | some d => { s with e := (d, v) :: s.e }
  | none => s
def Owns (g : Gh) (id B : Nat) : Ob → Prop
  | .tip _ n => ∃ c, g.τ id n = some (.slice (some ⟨B, 0, none⟩) n c) ∧ n < c
  | _ => g.μ id = some B
def ORep (g : Gh) (w : World) (id : Nat) : Ob → Prop
  | .box cs => ∃ (B : Nat) (vs : Array Value) (e : TypeId), g.μ id = some B ∧ w.heap[B]? = some (.cells vs e (0, 0)) ∧ cs.length ≤ vs.size ∧ (∀ v ∈ vs.toList, v.oneCell' = true) ∧
      (∀ (j : Nat) (c : DV) (v : Value), cs[j]? = some c → vs[j]? = some v → DRep g c v) ∧ ∀ o, g.m B o = none
  | .tip sz n => (∃ A, g.τ id n = some (.slice A n n) ∧ ∀ k, n < k → g.τ id k = none) ∨
      ∃ (B : Nat) (vs : Array Value) (e : TypeId) (c : Nat), g.τ id n = some (.slice (some ⟨B, 0, none⟩) n c) ∧ n < c ∧ w.heap[B]? = some (.cells vs e (0, 0)) ∧
      vs.size = c * sz ∧ c ≤ maxLen ∧ (∀ v ∈ vs.toList, v.oneCell' = true) ∧ (∀ o, n * sz ≤ o → g.m B o = none) ∧ ∀ k, n < k → g.τ id k = none
  | .mp es => ∃ (B : Nat) (en : Array MapEntry) (clock : Nat), g.μ id = some B ∧ w.heap[B]? = some (.map en clock) ∧ es.length = en.size ∧ (∀ y ∈ en.toList, y.born < clock) ∧ (en.toList.map (·.born)).Nodup ∧ (∀ (j : Nat) (y : MapEntry), en[j]? = some y → g.τ id j = some (goInt y.born)) ∧ (∀ j, en.size ≤ j → g.τ id j = none) ∧
      (∀ (j : Nat) (x : PV × DV) (y : MapEntry), es[j]? = some x → en[j]? = some y → PRep g.m x.1 y.key ∧ DRep g x.2 y.val) ∧ ∀ o, g.m B o = none
  | .lrec l r st e => g.μ id = some l ∧ (∃ tmps : Array Value, w.heap[l]? = some (.loop { state := (match st with | none => .ready | some _ => .done), pending := st, fn := r.fn, tmps, params := r.ps, assign := r.asg, body := r.body, defers := r.D }) ∧ tmps.size = r.tn ∧
      ∀ i d, eget e i = some d → ∃ v, tmps[i]? = some v ∧ DRep g d v) ∧ ∀ o, g.m l o = none
abbrev Glob := List (Nat × List PV)
def Ob.nm (p : Nat → Prop) : Ob → Prop
  | .box cs => ∀ c ∈ cs, c.nm p
  | .mp es => ∀ x ∈ es, x.2.nm p
  | .lrec _ _ _ e => ∀ i d, eget e i = some d → d.nm p
  | .tip _ _ => True
structure SimH (gl : Glob) (K : Nat → Prop) (w0 : World) (hl : Nat → Option Ob) (fr : Nat → Prop) (g : Gh) (w : World) : Prop where
  os : w.os = w0.os
  tape : w.tape = w0.tape
  output : w.output = w0.output
  size : w0.heap.size ≤ w.heap.size
  kept : ∀ b, K b → w.heap[b]? = w0.heap[b]?
  old : ∀ b, K b → b < w0.heap.size
  mem : ∀ b o v, g.m b o = some v → w.cell? ⟨b, o, none⟩ = some v
  ids : ∀ id o, hl id = some o → ¬ fr id
  low : ∀ id, fr id → g.μ id = none ∧ ∀ k, g.τ id k = none
  obj : ∀ id o, hl id = some o → ORep g w id o
  nm : ∀ id o, hl id = some o → o.nm fun i => ¬ fr i
  inj : ∀ id id' o o' B, hl id = some o → hl id' = some o' → Owns g id B o → Owns g id' B o' → id = id'
  off : ∀ id o B, hl id = some o → Owns g id B o → ¬ K B
  glo : ∀ b cs, (b, cs) ∈ gl → ∀ (j : Nat) (c : PV), cs[j]? = some c → c.one = true ∧ ∃ v, g.m b j = some v ∧ PRep g.m c v
structure NT where
  n : Nat
  ds : List Deferred := []
instance : Coe NT Nat := ⟨NT.n⟩
structure SimE (n : NT) (e : Nat → Option DV) (fr : Nat → Prop) (g : Gh) (a : Act) : Prop where
  defers : a.defers = n.ds
  size : a.tmps.size = n.n
  val : ∀ i d, e i = some d → ∃ v, a.tmps[i]? = some v ∧ DRep g d v
  nm : ∀ i d, e i = some d → d.nm fun i => ¬ fr i
end Go.Proofs.YthocoandbiaoiaaDoorV

namespace Go.Proofs.YthocoandbiaoiaaDoorV
open Go
inductive O where
  | t (i : Nat)
  | c (d : DV)
  | g (b : Nat)
inductive IOp where
  | mov (x : O)
  | land (x y : O)
  | lor (x y : O)
  | pick (c x y : O)
  | un (op : UnOp) (x : O)
  | bin (op : BinOp) (x y : O)
  | isnil (neg : Bool) (k : Nat) (x : O)
  | beq (neg : Bool) (x y : O)
  | conv (k : IntKind) (x : O)
  | idc (x : O)
  | b2s (x : O)
  | alloc (z : List DV)
  | box (n : Nat) (x : O)
  | build (z : List DV) (ps : List ((Nat × Nat) × O))
  | lit (sz : Nat) (ps : List O)
  | litm (sz : Nat) (ps : List O)
  | load (n : Option Nat) (x : O)
  | store (n : Nat) (x y : O)
  | nilc (x : O)
  | fad (off : Nat) (x : O)
  | fld (off : Nat) (n : Option Nat) (x : O)
  | iad (sz : Nat) (x i : O)
  | iada (len sz : Nat) (x i : O)
  | ixs (x i : O)
  | mkf (f : Fn) (a c : List O)
  | mkm
  | mks (sz bytes : Nat) (z : List DV) (x : O)
  | mkz (bytes : Nat) (z : PV) (x : O)
  | mkc (sz bytes : Nat) (x : O)
  | bad
  | ceq (neg : Bool) (kds : List Nat) (x y : O)
  | cut (sz : Nat) (x : O) (lo hi : Option O)
  | cut3 (sz : Nat) (x lo hi mx : O)
  | cuts (x : O) (lo hi : Option O)
  | ext (x : O) (i : Nat)
  | len (x : O)
  | lens (x : O)
  | mx (x y : O)
  | mn (x y : O)
  | app (sz bytes : Nat) (x y : O)
  | appm (sz bytes : Nat) (x y : O)
  | look (kd : Nat) (z : DV) (x k : O) (ok : Bool)
  | mup (kd : Nat) (x k v : O)
  | ment (kd : Nat) (z : DV) (x k : O)
  | mest (x s v : O)
  | mlen (x : O)
  | callf (f : FuncId) (xs : List O)
  | callt (f : FuncId) (xs : List O)
  | callr (f : FuncId) (xs : List O)
  | callv (f : O) (xs : List O)
/-! ### Values -/
def DV.strip : DV → DV
  | .gd _ d => d.strip
  | d => d
def DV.ok : DV → Prop
  | .gd b d => b = true ∧ d.ok
  | _ => True
def glget : Glob → Nat → Option (List PV)
  | [], _ => none
  | (j, d) :: r, i => if i = j then some d else glget r i
def ev (gl : Glob) (e : Env) : O → Option DV
  | .t i => eget e i
  | .c d => some d
  | .g b => (glget gl b).map .eptr
def evs (gl : Glob) (e : Env) (o : O) : Option (DV × Prop) :=
  match ev gl e o with
  | some d => some (d.strip, d.ok)
  | none => none
def toPV1 : DV → Option PV
  | .pv p => if p.one then some p else none
  | .nilS sz => if 0 < sz then some (.lst sz []) else none
  | .flit sz xs => some (.lst sz xs)
  | .own _ sz xs => some (.lst sz xs)
  | _ => none
def toPVs : List DV → Option (List PV)
  | [] => some []
  | d :: r => match toPV1 d, toPVs r with
    | some p, some ps => some (p :: ps)
    | _, _ => none
def toPV : DV → Option PV
  | .pv p => some p
  | .agg cs => (toPVs cs).map .agg
  | d => toPV1 d
def PV.scal : PV → Bool
  | .int _ _ | .str _ | .bool _ => true
  | _ => false
def pvs : List DV → Option (List PV)
  | [] => some []
  | .pv p :: r => (pvs r).map (p :: ·)
  | _ => none
def mkAgg (cs : List DV) : DV :=
  match pvs cs with
  | some ps => .pv (.agg ps)
  | none => .agg cs
def dcells : DV → List DV
  | .pv (.agg cs) => cs.map .pv
  | .agg cs => cs
  | .junk => []
  | .tup _ => []
  | .gd _ _ => []
  | .stmp _ _ => []
  | d => [d]
def DV.isAg : DV → Bool
  | .pv (.agg _) => true
  | .agg _ => true
  | _ => false
def elems : DV → Option (Nat × List PV)
  | .pv (.lst sz xs) => some (sz, xs)
  | .nilS sz => if 0 < sz then some (sz, []) else none
  | .flit sz xs => some (sz, xs)
  | .own _ sz xs => some (sz, xs)
  | _ => none
def nth (xs : List PV) (i : Int) : PV := xs.getD i.toNat (xs.headD (.bool false))
def bt (s : ByteArray) (i : Int) : Int := ((s.data.toList.getD i.toNat 0).toNat : Int)
def arith : BinOp → IntKind → Int → Int → Option (Int × Prop)
  | .add, k, x, y => some (k.wrap (x + y), True)
  | .sub, k, x, y => some (k.wrap (x - y), True)
  | .mul, k, x, y => some (k.wrap (x * y), True)
  | .quo, k, x, y => some (k.wrap (x.tdiv y), y ≠ 0)
  | .rem, _, x, y => some (x.tmod y, y ≠ 0)
  | .and, k, x, y => some (k.wrap (BitVec.ofInt k.bits x &&& BitVec.ofInt k.bits y).toNat, True)
  | .or, k, x, y => some (k.wrap (BitVec.ofInt k.bits x ||| BitVec.ofInt k.bits y).toNat, True)
  | .xor, k, x, y => some (k.wrap (BitVec.ofInt k.bits x ^^^ BitVec.ofInt k.bits y).toNat, True)
  | .andNot, k, x, y => some (k.wrap (BitVec.ofInt k.bits x &&& ~~~ BitVec.ofInt k.bits y).toNat, True)
  | .shl, k, x, y => some (k.wrap (x * 2 ^ (min y.toNat k.bits)), 0 ≤ y)
  | .shr, k, x, y => some (x.fdiv (2 ^ (min y.toNat k.bits)), 0 ≤ y)
  | _, _, _, _ => none
def icmp : BinOp → Int → Int → Option Bool
  | .eql, x, y => some (decide (x = y))
  | .neq, x, y => some (!decide (x = y))
  | .lss, x, y => some (decide (x < y))
  | .leq, x, y => some (decide (x ≤ y))
  | .gtr, x, y => some (decide (y < x))
  | .geq, x, y => some (decide (y ≤ x))
  | _, _, _ => none
def sop : BinOp → ByteArray → ByteArray → Option (PV × Prop)
  | .add, x, y => some (.str (x ++ y), x.size + y.size ≤ maxLen)
  | .eql, x, y => some (.bool (decide (x = y)), True)
  | .neq, x, y => some (.bool (!decide (x = y)), True)
  | .lss, x, y => some (.bool (Op.bytesLess x.toList y.toList), True)
  | .leq, x, y => some (.bool (Op.bytesLess x.toList y.toList || decide (x = y)), True)
  | .gtr, x, y => some (.bool (!(Op.bytesLess x.toList y.toList || decide (x = y))), True)
  | .geq, x, y => some (.bool (!Op.bytesLess x.toList y.toList), True)
  | _, _, _ => none
def isNil : Nat → DV → Option (Bool × Prop)
  | 0, .nilS _ => some (true, True)
  | 0, .flit _ _ => some (false, True)
  | 0, .mrow _ _ _ _ => some (false, True)
  | 0, .own _ _ xs => some (false, xs ≠ [])
  | 0, .pv (.lst _ xs) => some (false, xs ≠ [])
  | 1, .nilP => some (true, True)
  | 1, .ptr _ _ => some (false, True)
  | 1, .eptr _ => some (false, True)
  | 2, .nilM => some (true, True)
  | 2, .mref _ => some (false, True)
  | 3, .nilF => some (true, True)
  | 3, .fn _ _ _ => some (false, True)
  | _, _ => none
def bin (op : BinOp) : DV → DV → Option (DV × Prop)
  | .pv (.int k x), .pv (.int k' y) =>
    match op with
    | .shl | .shr => (arith op k x y).map fun r => (.pv (.int k r.1), r.2)
    | .eql | .neq | .lss | .leq | .gtr | .geq => if k = k' then (icmp op x y).map fun r => (.pv (.bool r), True) else none
    | _ => if k = k' then (arith op k x y).map fun r => (.pv (.int k r.1), r.2) else none
  | .pv (.str x), .pv (.str y) => (sop op x y).map fun r => (.pv r.1, r.2)
  | _, _ => none
def un (op : UnOp) : DV → Option DV
  | .pv (.bool b) => match op with
    | .not => some (.pv (.bool (!b)))
    | _ => none
  | .pv (.int k x) => match op with
    | .neg => some (.pv (.int k (k.wrap (0 - x))))
    | .xor => some (.pv (.int k (k.wrap (BitVec.ofInt k.bits (if k.signed then -1 else k.max) ^^^ BitVec.ofInt k.bits x).toNat)))
    | _ => none
  | _ => none
def ceq1 : PV → PV → Option Bool
  | .int k x, .int k' y => if k = k' then some (decide (x = y)) else none
  | .str x, .str y => some (decide (x = y))
  | .bool x, .bool y => some (x == y)
  | _, _ => none
def keq (x y : PV) : Bool := ceq1 x y == some true
def mfind (k : PV) : List (PV × DV) → Nat → Option (Nat × DV)
  | [], _ => none
  | (q, d) :: r, i => if keq k q then some (i, d) else mfind k r (i + 1)
def mlook (es : List (PV × DV)) (k : PV) : Option DV := (mfind k es 0).map (·.2)
def mput (es : List (PV × DV)) (k : PV) (d : DV) : List (PV × DV) :=
  match mfind k es 0 with
  | some (i, _) => es.set i (k, d)
  | none => es ++ [(k, d)]
def PV.kd : PV → Nat
  | .bool _ => 0
  | .int _ _ => 1
  | .str _ => 2
  | _ => 3
def ceqs : List Nat → List PV → List PV → Option Bool
  | [], [], [] => some true
  | kd :: ks, x :: r, y :: q => if x.kd = kd ∧ kd ≤ 2 then (match ceq1 x y, ceqs ks r q with
    | some a, some b => some (a && b)
    | _, _ => none) else none
  | _, _, _ => none
def keysOk (kd : Nat) (k : PV) (es : List (PV × DV)) : Prop := k.kd = kd ∧ kd ≤ 2 ∧ ∀ x ∈ es, (ceq1 k x.1).isSome = true
def at_ (hl : Nat → Option Ob) : DV → Option (List DV × List Nat)
  | .eptr cs => some (cs.map .pv, [])
  | .ptr id off => match hl id with
    | some (.box cs) => some (cs.drop off, [id])
    | _ => none
  | _ => none
def take_ (n : Option Nat) (cs : List DV) : Option DV :=
  match n with
  | none => cs.head?
  | some n => if n ≤ cs.length then some (mkAgg (cs.take n)) else none
def setFrom (cs : List DV) : Nat → List DV → List DV
  | _, [] => cs
  | o, d :: r => setFrom (cs.set o d) (o + 1) r
def fillz (z : List DV) : List ((Nat × Nat) × DV) → Option (List DV)
  | [] => some z
  | ((off, sz), d) :: r => if (dcells d).length = sz ∧ 0 < sz ∧ off + sz ≤ z.length then fillz (setFrom z off (dcells d)) r else none
def bytesOf : List PV → Option (List UInt8)
  | [] => some []
  | .int .u8 n :: r => (bytesOf r).map (UInt8.ofNat n.toNat :: ·)
  | _ => none
def evAll (gl : Glob) (e : Env) : List O → Option (List DV × Prop)
  | [] => some ([], True)
  | o :: r => match evs gl e o, evAll gl e r with
    | some (d, c), some (ds, cs) => some (d :: ds, c ∧ cs)
    | _, _ => none
def toPVall : List DV → Option (List PV)
  | [] => some []
  | d :: r => match toPV d, toPVall r with
    | some p, some ps => some (p :: ps)
    | _, _ => none
def evInt (gl : Glob) (e : Env) (o : O) : Option (Int × Prop) :=
  match evs gl e o with
  | some (.pv (.int _ n), c) => some (n, c)
  | _ => none
def evLo (gl : Glob) (e : Env) : Option O → Option (Int × Prop)
  | none => some (0, True)
  | some o => evInt gl e o
def evHi (gl : Glob) (e : Env) (n : Nat) : Option O → Option (Int × Prop)
  | none => some (n, True)
  | some o => evInt gl e o
def ownOf0 (sz : Nat) : DV → Bool
  | .nilS _ => true
  | .flit sz' [] => decide (sz' = sz)
  | _ => false
structure Stp where
  v : DV
  up : Heap := []
  rd : List Nat := []
  al : Nat := 0
  c : Prop := True
def stp (gl : Glob) (e : Env) (hl : Nat → Option Ob) (nid : Nat) : IOp → Option Stp
  | .mov x => (evs gl e x).map fun d => { v := d.1, c := d.2 }
  | .land x y => match evs gl e x, evs gl e y with
    | some (.pv (.bool p), c), some (.pv (.bool q), d) => some { v := .pv (.bool (p && q)), c := c ∧ (p = true → d) }
    | _, _ => none
  | .lor x y => match evs gl e x, evs gl e y with
    | some (.pv (.bool p), c), some (.pv (.bool q), d) => some { v := .pv (.bool (p || q)), c := c ∧ (p = false → d) }
    | _, _ => none
  | .pick c x y => match evs gl e c, evs gl e x, evs gl e y with
    | some (.pv (.bool b), c), some (.pv (.bool p), cp), some (.pv (.bool q), cq) =>
      some { v := .pv (.bool (if b then p else q)), c := c ∧ (b = true → cp) ∧ (b = false → cq) }
    | _, _, _ => none
  | .un op x => match evs gl e x with
    | some (d, c) => (un op d).map fun r => { v := r, c := c }
    | none => none
  | .bin op x y => match evs gl e x, evs gl e y with
    | some (a, c), some (b, d) => (bin op a b).map fun r => { v := r.1, c := c ∧ d ∧ r.2 }
    | _, _ => none
  | .beq neg x y => match evs gl e x, evs gl e y with
    | some (.pv (.bool p), c), some (.pv (.bool q), d) => some { v := .pv (.bool ((p == q) != neg)), c := c ∧ d }
    | _, _ => none
  | .isnil neg k x => match evs gl e x with
    | some (a, c) => (isNil k a).map fun r => { v := .pv (.bool (r.1 != neg)), c := c ∧ r.2 }
    | none => none
  | .conv k x => match evs gl e x with
    | some (.pv (.int _ n), c) => some { v := .pv (.int k (k.wrap n)), c := c }
    | _ => none
  | .idc x => match evs gl e x with
    | some (.pv (.str s), c) => some { v := .pv (.str s), c := c }
    | _ => none
  | .b2s x => match evs gl e x with
    | some (d, c) => match elems d with
      | some (1, xs) => (bytesOf xs).map fun l => { v := .pv (.str ⟨l.toArray⟩), c := c }
      | _ => none
    | none => none
  | .alloc z => some { v := .ptr nid 0, up := [(nid, .box z)], al := 1 }
  | .box n x => match evs gl e x with
    | some (d, c) => if (dcells d).length = n ∧ 0 < n then some { v := .ptr nid 0, up := [(nid, .box (dcells d))], al := 1, c := c } else none
    | none => none
  | .build z ps => match evAll gl e (ps.map (·.2)) with
    | some (ds, c) => (fillz z ((ps.map (·.1)).zip ds)).map fun cs => { v := mkAgg cs, c := c }
    | none => none
  | .lit sz ps => match evAll gl e ps with
    | some (ds, c) => match toPVall ds with
      | some xs => if xs.all (fun x => x.cells.length == sz) && decide (0 < sz) then some { v := .flit sz xs, c := c } else none
      | none => none
    | none => none
  | .litm sz ps => match evAll gl e ps with
    | some (ds, c) => if ds.all (fun x => (dcells x).length == sz) && decide (0 < sz) then some { v := .mrow nid 0 ds.length sz, up := [(nid, .box (ds.flatMap dcells))], al := 1, c := c } else none
    | none => none
  | .load n x => match evs gl e x with
    | some (d, c) => match at_ hl d with
      | some (cs, rd) => (take_ n cs).map fun v => { v := v, rd := rd, c := c }
      | none => none
    | none => none
  | .store n x y => match evs gl e x, evs gl e y with
    | some (.ptr id off, c), some (d, c') => match hl id with
      | some (.box cs) => if off + n ≤ cs.length ∧ (dcells d).length = n ∧ 0 < n then some { v := .junk, up := [(id, .box (setFrom cs off (dcells d)))], rd := [id], c := c ∧ c' } else none
      | _ => none
    | _, _ => none
  | .nilc x => match evs gl e x with
    | some (.ptr id off, c) => some { v := .ptr id off, c := c }
    | some (.eptr cs, c) => some { v := .eptr cs, c := c }
    | _ => none
  | .fad off x => match evs gl e x with
    | some (.ptr id o, c) => some { v := .ptr id (o + off), c := c }
    | some (.eptr cs, c) => some { v := .eptr (cs.drop off), c := c }
    | _ => none
  | .fld off n x => match evs gl e x with
    | some (d, c) => if d.isAg then (take_ n ((dcells d).drop off)).map fun v => { v := v, c := c } else none
    | none => none
  | .iad sz x i => match evs gl e x, evs gl e i with
    | some (d, c), some (.pv (.int _ i), c') => match d with
      | .mrow id off len sz' => if sz' = sz then some { v := .ptr id (off + i.toNat * sz), c := c ∧ c' ∧ 0 ≤ i ∧ i < (len : Int) } else none
      | d => match elems d with
        | some (sz', xs) => if sz' = sz then some { v := .eptr (nth xs i).cells, c := c ∧ c' ∧ 0 ≤ i ∧ i < (xs.length : Int) } else none
        | none => none
    | _, _ => none
  | .iada len sz x i => match evs gl e x, evs gl e i with
    | some (.ptr id off, c), some (.pv (.int _ i), c') => some { v := .ptr id (off + i.toNat * sz), c := c ∧ c' ∧ 0 ≤ i ∧ i < (len : Int) }
    | some (.eptr cs, c), some (.pv (.int _ i), c') => some { v := .eptr (cs.drop (i.toNat * sz)), c := c ∧ c' ∧ 0 ≤ i ∧ i < (len : Int) }
    | _, _ => none
  | .ixs x i => match evs gl e x, evs gl e i with
    | some (.pv (.str b), c), some (.pv (.int _ i), c') => some { v := .pv (.int .u8 (bt b i)), c := c ∧ c' ∧ 0 ≤ i ∧ i < (b.size : Int) }
    | _, _ => none
  | .mkf f a k => match evAll gl e a, evAll gl e k with
    | some (as, c), some (ks, c') => some { v := .fn f as ks, c := c ∧ c' }
    | _, _ => none
  | .mkm => some { v := .mref nid, up := [(nid, .mp [])], al := 1 }
  | .mks sz bytes z x => match evs gl e x with
    | some (.pv (.int _ n), c) => some { v := .mrow nid 0 n.toNat sz, up := [(nid, .box (List.replicate n.toNat z).flatten)], al := 1, c := c ∧ 0 ≤ n ∧ n * bytes ≤ 140737488351232 }
    | _ => none
  | .mkz bytes z x => match evs gl e x with
    | some (.pv (.int _ n), c) => some { v := .flit 1 (List.replicate n.toNat z), c := c ∧ 0 ≤ n ∧ n * bytes ≤ 140737488351232 }
    | _ => none
  | .mkc sz bytes x => match evs gl e x with
    | some (.pv (.int _ n), c) => some { v := .own nid sz [], up := [(nid, .tip sz 0)], al := 1, c := c ∧ 0 ≤ n ∧ n * bytes ≤ 140737488355328 }
    | _ => none
  | .bad => some { v := .junk, c := False }
  | .ceq neg kds x y => match evs gl e x, evs gl e y with
    | some (.pv (.agg p), c), some (.pv (.agg q), d) => (ceqs kds p q).map fun b => { v := .pv (.bool (b != neg)), c := c ∧ d }
    | _, _ => none
  | .cut sz x lo hi => match evs gl e x with
    | some (d, c) => match elems d with
      | some (sz', xs) => match evLo gl e lo, evHi gl e xs.length hi with
        | some (l, cl), some (h, ch) => if sz' = sz then some { v := .pv (.lst sz ((xs.take h.toNat).drop l.toNat)), c := c ∧ cl ∧ ch ∧ 0 ≤ l ∧ l ≤ h ∧ h ≤ (xs.length : Int) } else none
        | _, _ => none
      | none => none
    | none => none
  | .cut3 sz x lo hi mx => match evs gl e x with
    | some (d, c) => match elems d with
      | some (sz', xs) => match evInt gl e lo, evInt gl e hi, evInt gl e mx with
        | some (l, cl), some (h, ch), some (m, cm) => if sz' = sz then some { v := .pv (.lst sz ((xs.take h.toNat).drop l.toNat)), c := c ∧ cl ∧ ch ∧ cm ∧ 0 ≤ l ∧ l ≤ h ∧ h ≤ m ∧ m ≤ (xs.length : Int) } else none
        | _, _, _ => none
      | none => none
    | none => none
  | .cuts x lo hi => match evs gl e x with
    | some (.pv (.str b), c) => match evLo gl e lo, evHi gl e b.size hi with
      | some (l, cl), some (h, ch) => some { v := .pv (.str (b.extract l.toNat h.toNat)), c := c ∧ cl ∧ ch ∧ 0 ≤ l ∧ l ≤ h ∧ h ≤ (b.size : Int) }
      | _, _ => none
    | _ => none
  | .ext x i => match evs gl e x with
    | some (.tup vs, c) => vs[i]?.map fun d => { v := d, c := c }
    | _ => none
  | .lens x => match evs gl e x with
    | some (.pv (.str b), c) => some { v := .pv (.int .i64 b.size), c := c }
    | _ => none
  | .len x => match evs gl e x with
    | some (.mrow _ _ n _, c) => some { v := .pv (.int .i64 n), c := c }
    | some (d, c) => (elems d).map fun x => { v := .pv (.int .i64 x.2.length), c := c }
    | none => none
  | .mx x y => match evs gl e x, evs gl e y with
    | some (.pv (.int k x), c), some (.pv (.int k' y), c') => if k = k' then some { v := .pv (.int k (max x y)), c := c ∧ c' } else none
    | _, _ => none
  | .mn x y => match evs gl e x, evs gl e y with
    | some (.pv (.int k x), c), some (.pv (.int k' y), c') => if k = k' then some { v := .pv (.int k (min x y)), c := c ∧ c' } else none
    | _, _ => none
  | .app sz bytes x y => match evs gl e x, evs gl e y with
    | some (d, c), some (b, c') => match elems b with
      | some (sz', ys) => match d with
        | .nilS _ => if sz' = sz then some { v := .own nid sz ys, up := [(nid, .tip sz ys.length)], al := 1, c := c ∧ c' ∧ ys.length * bytes ≤ 140737488355328 } else none
        | .flit sz'' xs => if sz' = sz ∧ sz'' = sz then some { v := .own nid sz (xs ++ ys), up := [(nid, .tip sz (xs.length + ys.length))], al := 1, c := c ∧ c' ∧ (xs.length + ys.length) * bytes ≤ 140737488355328 } else none
        | .own id sz'' xs => match hl id with
          | some (.tip sz3 n) => if sz' = sz ∧ sz'' = sz ∧ sz3 = sz then some { v := .own id sz (xs ++ ys), up := [(id, .tip sz (xs.length + ys.length))], rd := [id], c := c ∧ c' ∧ n = xs.length ∧ (xs.length + ys.length) * bytes ≤ 140737488355328 } else none
          | _ => none
        | _ => none
      | none => none
    | _, _ => none
  | .appm sz bytes x y => match evs gl e x, evs gl e y with
    | some (d, c), some (b, c') => match elems b with
      | some (sz', ys) => match ownOf0 sz d with
        | true => if sz' = sz then some { v := .mrow nid 0 ys.length sz, up := [(nid, .box ((flat ys).map .pv))], al := 1, c := c ∧ c' ∧ ys ≠ [] ∧ ys.length * bytes ≤ 140737488355328 } else none
        | false => none
      | none => none
    | _, _ => none
  | .look kd z x k ok => match evs gl e x, evs gl e k with
    | some (.mref id, c), some (.pv k, c') => match hl id with
      | some (.mp es) => some { v := if ok then .tup [(mlook es k).getD z, .pv (.bool (mlook es k).isSome)] else (mlook es k).getD z, rd := [id], c := c ∧ c' ∧ keysOk kd k es }
      | _ => none
    | some (.nilM, c), some (.pv k, c') => some { v := if ok then .tup [z, .pv (.bool false)] else z, c := c ∧ c' ∧ keysOk kd k [] }
    | _, _ => none
  | .mup kd x k v => match evs gl e x, evs gl e k, evs gl e v with
    | some (.mref id, c), some (.pv k, c'), some (d, c'') => match hl id with
      | some (.mp es) => some { v := .junk, up := [(id, .mp (mput es k d))], rd := [id], c := c ∧ c' ∧ c'' ∧ keysOk kd k es }
      | _ => none
    | _, _, _ => none
  | .ment kd z x k => match evs gl e x, evs gl e k with
    | some (.mref id, c), some (.pv k, c') => match hl id with
      | some (.mp es) => match mfind k es 0 with
        | some (i, d) => some { v := .tup [d, .stmp id i], up := [(id, .mp (es.set i (k, d)))], rd := [id], c := c ∧ c' ∧ keysOk kd k es }
        | none => some { v := .tup [z, .stmp id es.length], up := [(id, .mp (es ++ [(k, z)]))], rd := [id], c := c ∧ c' ∧ keysOk kd k es }
      | _ => none
    | _, _ => none
  | .mest x s v => match evs gl e x, evs gl e s, evs gl e v with
    | some (.mref id, c), some (.stmp id' i, c'), some (d, c'') => match hl id with
      | some (.mp es) => match es[i]? with
        | some y => if id' = id then some { v := .junk, up := [(id, .mp (es.set i (y.1, d)))], rd := [id], c := c ∧ c' ∧ c'' } else none
        | none => none
      | _ => none
    | _, _, _ => none
  | .mlen x => match evs gl e x with
    | some (.mref id, c) => match hl id with
      | some (.mp es) => some { v := .pv (.int .i64 es.length), rd := [id], c := c ∧ es.length ≤ maxLen }
      | _ => none
    | some (.nilM, c) => some { v := .pv (.int .i64 0), c := c }
    | _ => none
  | _ => none
def upd : Heap → Heap → Heap
  | H, [] => H
  | H, (i, o) :: r => upd (hset H i o) r
end Go.Proofs.YthocoandbiaoiaaDoorV

namespace Go.Proofs.YthocoandbiaoiaaDoorV
open Go
/-! ### Constants -/
def vOk : Value → DV → Bool
  | .int k n, .pv (.int k' n') => k == k' && n == n' && decide (k.min ≤ n) && decide (n ≤ k.max)
  | .bool b, .pv (.bool b') => b == b'
  | .string s, .pv (.str s') => decide (s = s') && decide (s.size ≤ maxLen)
  | .slice none 0 0, .nilS _ => true
  | .slice none 0 0, .pv (.lst sz []) => decide (0 < sz)
  | .pointer none, .nilP => true
  | .map none, .nilM => true
  | .nilFunc, .nilF => true
  | .nilIface, .nilI => true
  | _, _ => false
def vOks : List Value → List DV → Bool
  | [], [] => true
  | v :: r, d :: q => vOk v d && vOks r q
  | _, _ => false
def vOkA : Value → DV → Bool
  | .agg vs, .pv (.agg cs) => vOks vs.toList (cs.map .pv)
  | _, _ => false
def oOk : Operand → O → Bool
  | .tmp t, .t t' => t == t'
  | .const v, .c d => vOk v d || vOkA v d
  | .func f, .c (.fn (.func f') [] []) => f == f'
  | .global g, .g g' => g == g'
  | _, _ => false
def oOks : List Operand → List O → Bool
  | [], [] => true
  | v :: r, d :: q => oOk v d && oOks r q
  | _, _ => false
theorem vOk_rep {g : Gh} {v : Value} {d : DV} (h : vOk v d = true) : DRep g d v ∧ ∀ p, d.nm p := by
  unfold vOk at h
  split at h <;> simp only [Bool.and_eq_true, beq_iff_eq, decide_eq_true_eq, Bool.false_eq_true] at h
  · obtain ⟨⟨⟨rfl, rfl⟩, h0⟩, h1⟩ := h
    exact ⟨.pv (.int h0 h1), fun p => by simp only [DV.nm]⟩
  · subst h; exact ⟨.pv .bool, fun p => by simp only [DV.nm]⟩
  · obtain ⟨rfl, h0⟩ := h
    exact ⟨.pv (.str h0), fun p => by simp only [DV.nm]⟩
  all_goals first
    | exact ⟨.pv (.lst [] rfl (Nat.le_refl _) (Nat.zero_le _) h (by simp) (by simp [flat]) (by simp [flat]) (by simp) (.inl rfl)), fun p => by simp only [DV.nm]⟩
    | exact ⟨.nilS, fun p => by simp only [DV.nm]⟩
    | exact ⟨.nilP, fun p => by simp only [DV.nm]⟩
    | exact ⟨.nilM, fun p => by simp only [DV.nm]⟩
    | exact ⟨.nilF, fun p => by simp only [DV.nm]⟩
    | exact ⟨.nilI, fun p => by simp only [DV.nm]⟩
theorem vOk_one {v : Value} {d : DV} (h : vOk v d = true) : v.oneCell' = true := by
  unfold vOk at h
  split at h <;> simp_all [Value.oneCell']
theorem vOks_rep {g : Gh} : ∀ {vs : List Value} {ds : List DV}, vOks vs ds = true →
    ds.length = vs.length ∧ (∀ (j : Nat) (d : DV) (v : Value), ds[j]? = some d → vs[j]? = some v → DRep g d v) ∧ (∀ v ∈ vs, v.oneCell' = true) ∧ ∀ p, ∀ d ∈ ds, d.nm p
  | [], [], _ => ⟨rfl, by simp, by simp, by simp⟩
  | v :: r, d :: q, h => by
    simp only [vOks, Bool.and_eq_true] at h
    obtain ⟨h1, h2, h3, h4⟩ := vOks_rep (g := g) h.2
    have hr := vOk_rep (g := g) h.1
    refine ⟨by simp [h1], fun j d' v' hd hv => ?_, fun u hu => ?_, fun p d' hd => ?_⟩
    · rcases j with _ | j
      · simp at hd hv; subst hd; subst hv; exact hr.1
      · simp at hd hv; exact h2 j d' v' hd hv
    · rcases List.mem_cons.1 hu with rfl | hu
      · exact vOk_one h.1
      · exact h3 u hu
    · rcases List.mem_cons.1 hd with rfl | hd
      · exact hr.2 p
      · exact h4 p d' hd
  | [], _ :: _, h => by simp [vOks] at h
  | _ :: _, [], h => by simp [vOks] at h
theorem vOk_pvone {v : Value} {c : PV} (h : vOk v (.pv c) = true) : c.one = true := by
  unfold vOk at h
  split at h <;> simp_all [PV.one]
theorem vOks_pvone : ∀ {vs : List Value} {cs : List PV}, vOks vs (cs.map .pv) = true → ∀ c ∈ cs, c.one = true
  | [], [], _ => by simp
  | v :: r, c :: q, h => by
    simp only [List.map_cons, vOks, Bool.and_eq_true] at h
    intro x hx
    rcases List.mem_cons.1 hx with rfl | hx
    · exact vOk_pvone h.1
    · exact vOks_pvone h.2 x hx
  | [], _ :: _, h => by simp [vOks] at h
  | _ :: _, [], h => by simp [vOks] at h
theorem vOkA_rep {g : Gh} {v : Value} {d : DV} (h : vOkA v d = true) : DRep g d v ∧ ∀ p, d.nm p := by
  unfold vOkA at h
  split at h
  · rename_i vs cs
    obtain ⟨h1, h2, h3, _⟩ := vOks_rep (g := g) h
    refine ⟨.pv (.agg (by simpa using h1) (vOks_pvone h) fun j c v hc hv => ?_), fun p => by simp only [DV.nm]⟩
    have := h2 j (.pv c) v (by rw [List.getElem?_map, hc]; rfl) (by simpa using hv)
    cases this with | pv h => exact h
  · simp at h
/-! ### Operands -/
section
variable {gl : Glob} {K : Nat → Prop} {w0 : World} {hl : Nat → Option Ob} {fr : Nat → Prop} {g : Gh} {w : World} {n : NT} {e : Env} {a : Act}
theorem glget_mem {gl : Glob} {b : Nat} {cs : List PV} (h : glget gl b = some cs) : (b, cs) ∈ gl := by
  induction gl with
  | nil => simp [glget] at h
  | cons x r ih =>
    obtain ⟨j, d⟩ := x
    simp only [glget] at h
    split at h
    · rename_i hb; subst hb; simp at h; subst h; exact List.mem_cons_self ..
    · exact List.mem_cons_of_mem _ (ih h)
theorem ev_sound (hH : SimH gl K w0 hl fr g w) (hE : SimE n (eget e) fr g a) {X : Operand} {x : O} (hx : oOk X x = true) {d : DV} (h : ev gl e x = some d) :
    DRep g d (a.eval X) ∧ d.nm fun i => ¬ fr i := by
  unfold oOk at hx
  split at hx
  · simp only [beq_iff_eq] at hx; subst hx
    obtain ⟨v, hv, hr⟩ := hE.val _ _ h
    refine ⟨?_, hE.nm _ _ h⟩
    simp only [Act.eval, Array.getD_eq_getD_getElem?, hv, Option.getD_some]; exact hr
  · simp only [ev, Option.some.injEq] at h; subst h
    simp only [Bool.or_eq_true] at hx
    rcases hx with hx | hx
    · exact ⟨(vOk_rep hx).1, (vOk_rep (g := g) hx).2 _⟩
    · exact ⟨(vOkA_rep hx).1, (vOkA_rep (g := g) hx).2 _⟩
  · simp only [beq_iff_eq] at hx; subst hx
    simp only [ev, Option.some.injEq] at h; subst h
    refine ⟨.fn (by simp) (by simp) (by simp) (by simp), ?_⟩
    rw [DV.nm_fn]; simp
  · simp only [beq_iff_eq] at hx; subst hx
    simp only [ev, Option.map_eq_some_iff] at h
    obtain ⟨cs, hc, rfl⟩ := h
    refine ⟨.eptr fun j c hj => ?_, by simp only [DV.nm]⟩
    have := hH.glo _ _ (glget_mem hc) j c hj
    simpa using this
  · simp at hx
theorem strip_sound {d : DV} {v : Value} (h : DRep g d v) (ho : d.ok) : DRep g d.strip v := by
  induction h <;> simp_all only [DV.strip, DV.ok]
  all_goals first
    | (rename_i ih _; exact ih ho.1 ho.2)
    | (rename_i ih; exact ih ho.1 ho.2)
    | (constructor <;> assumption)
    | (exact .lst ‹_› ‹_› ‹_› ‹_› ‹_› ‹_› ‹_› ‹_› ‹_› ‹_›)
    | exact .junk
theorem strip_nm {p : Nat → Prop} : ∀ {d : DV}, d.nm p → d.strip.nm p
  | .gd b d, h => by rw [DV.nm] at h; exact strip_nm (d := d) h
  | .pv _, h | .agg _, h | .tup _, h | .nilS _, h | .flit _ _, h | .own _ _ _, h | .mrow _ _ _ _, h | .ptr _ _, h | .eptr _, h | .nilP, h | .fn _ _ _, h | .nilF, h | .mref _, h | .stmp _ _, h | .nilM, h | .ifc _ _, h | .nilI, h | .junk, h => h
theorem evs_sound (hH : SimH gl K w0 hl fr g w) (hE : SimE n (eget e) fr g a) {X : Operand} {x : O} (hx : oOk X x = true) {d : DV} {c : Prop} (h : evs gl e x = some (d, c)) (hc : c) :
    DRep g d (a.eval X) ∧ d.nm fun i => ¬ fr i := by
  unfold evs at h
  split at h
  · rename_i d' hd
    simp only [Option.some.injEq, Prod.mk.injEq] at h
    obtain ⟨rfl, rfl⟩ := h
    have := ev_sound hH hE hx hd
    exact ⟨strip_sound this.1 hc, strip_nm this.2⟩
  · simp at h
theorem evAll_sound (hH : SimH gl K w0 hl fr g w) (hE : SimE n (eget e) fr g a) : ∀ {Xs : List Operand} {xs : List O}, oOks Xs xs = true → ∀ {ds : List DV} {c : Prop}, evAll gl e xs = some (ds, c) → c →
    ds.length = Xs.length ∧ (∀ (j : Nat) (d : DV) (X : Operand), ds[j]? = some d → Xs[j]? = some X → DRep g d (a.eval X)) ∧ ∀ d ∈ ds, d.nm fun i => ¬ fr i
  | [], [], _, ds, c, h, hc => by simp only [evAll, Option.some.injEq, Prod.mk.injEq] at h; obtain ⟨rfl, rfl⟩ := h; simp
  | X :: R, x :: r, hx, ds, c, h, hc => by
    simp only [oOks, Bool.and_eq_true] at hx
    simp only [evAll] at h
    split at h
    · rename_i d c1 ds' c2 hd hds
      simp only [Option.some.injEq, Prod.mk.injEq] at h
      obtain ⟨rfl, rfl⟩ := h
      have h1 := evs_sound hH hE hx.1 hd hc.1
      obtain ⟨h2, h3, h4⟩ := evAll_sound hH hE hx.2 hds hc.2
      refine ⟨by simp [h2], fun j d' X' hd' hX => ?_, fun d' hd' => ?_⟩
      · rcases j with _ | j
        · simp at hd' hX; subst hd'; subst hX; exact h1.1
        · simp at hd' hX; exact h3 j d' X' hd' hX
      · rcases List.mem_cons.1 hd' with rfl | hd'
        · exact h1.2
        · exact h4 d' hd'
    · simp at h
  | [], _ :: _, hx, _, _, _, _ => by simp [oOks] at hx
  | _ :: _, [], hx, _, _, _, _ => by simp [oOks] at hx
end
/-! ### Reckoning -/
theorem wrap_range (k : IntKind) (n : Int) : k.min ≤ k.wrap n ∧ k.wrap n ≤ k.max := by
  cases k <;> simp [IntKind.wrap, IntKind.min, IntKind.max, IntKind.bits, IntKind.signed] <;> (try split) <;> omega
theorem DRep.int_inv {g : Gh} {k : IntKind} {x : Int} {v : Value} (h : DRep g (.pv (.int k x)) v) : v = .int k x ∧ k.min ≤ x ∧ x ≤ k.max := by
  cases h with | pv h => cases h with | int h0 h1 => exact ⟨rfl, h0, h1⟩
theorem DRep.bool_inv {g : Gh} {b : Bool} {v : Value} (h : DRep g (.pv (.bool b)) v) : v = .bool b := by
  cases h with | pv h => cases h; rfl
theorem DRep.str_inv {g : Gh} {s : ByteArray} {v : Value} (h : DRep g (.pv (.str s)) v) : v = .string s ∧ s.size ≤ maxLen := by
  cases h with | pv h => cases h with | str h0 => exact ⟨rfl, h0⟩
theorem toList_beq (x y : ByteArray) : (x.toList == y.toList) = decide (x = y) := by
  rw [Bool.eq_iff_iff]
  simp only [beq_iff_eq, decide_eq_true_eq, ByteArray.toList_eq]
  exact ⟨fun h => by cases x; cases y; simpa using h, fun h => by rw [h]⟩
theorem shr_range (k : IntKind) (x : Int) (m : Nat) (h0 : k.min ≤ x) (h1 : x ≤ k.max) : k.min ≤ x.fdiv (2 ^ m) ∧ x.fdiv (2 ^ m) ≤ k.max := by
  have hp : (1 : Int) ≤ 2 ^ m := by have := Int.pow_pos (n := 2) (m := m) (by omega); omega
  have he : x.fdiv (2 ^ m) = x / 2 ^ m := Int.fdiv_eq_ediv_of_nonneg _ (by omega)
  rw [he]
  have hmin : k.min ≤ 0 := by cases k <;> simp [IntKind.min, IntKind.signed, IntKind.bits]
  have hmax : 0 ≤ k.max := by cases k <;> simp [IntKind.max, IntKind.signed, IntKind.bits]
  generalize (2 : Int) ^ m = q at hp
  constructor
  · rw [Int.le_ediv_iff_mul_le (by omega)]
    have : k.min * q ≤ k.min * 1 := Int.mul_le_mul_of_nonpos_left hmin hp
    omega
  · have h2 : x / q ≤ max x 0 := by
      rcases Int.lt_or_le x 0 with hx | hx
      · have := Int.ediv_neg_of_neg_of_pos hx (by omega : (0 : Int) < q); omega
      · have := Int.ediv_le_self q hx; omega
    omega
theorem tmod_range (k : IntKind) (x y : Int) (h0 : k.min ≤ x) (h1 : x ≤ k.max) : k.min ≤ x.tmod y ∧ x.tmod y ≤ k.max := by
  have hmin : k.min ≤ 0 := by cases k <;> simp [IntKind.min, IntKind.signed, IntKind.bits]
  have hmax : 0 ≤ k.max := by cases k <;> simp [IntKind.max, IntKind.signed, IntKind.bits]
  have ha : (x.tmod y).natAbs = x.natAbs % y.natAbs := Int.natAbs_tmod ..
  have hb : x.natAbs % y.natAbs ≤ x.natAbs := Nat.mod_le ..
  rcases Int.lt_or_le x 0 with hx | hx
  · have : x.tmod y ≤ 0 := by
      have := Int.tmod_nonneg y (a := -x) (by omega)
      rw [Int.neg_tmod] at this; omega
    omega
  · have := Int.tmod_nonneg y hx
    omega
section
variable {P : Program} {g : Gh} {w : World}
theorem arith_sound {op : BinOp} {k : IntKind} {x y r : Int} {c : Prop} (hx : k.min ≤ x ∧ x ≤ k.max) (h : arith op k x y = some (r, c)) (hc : c) :
    (k.min ≤ r ∧ r ≤ k.max) ∧ ∀ t k', (match op with | .shl | .shr => True | _ => k' = k) → (binOp op t (.int k x) (.int k' y)).run P w = .ok (.int k r) w := by
  cases op <;> simp only [arith, Option.some.injEq, Prod.mk.injEq, reduceCtorEq] at h
  all_goals obtain ⟨rfl, rfl⟩ := h
  case add | sub | mul | and | or | xor | andNot =>
    refine ⟨wrap_range _ _, fun t k' hk => ?_⟩
    simp only at hk; subst hk
    simp [binOp, Op.intArith, Op.intBits]
  case quo =>
    refine ⟨wrap_range _ _, fun t k' hk => ?_⟩
    simp only at hk; subst hk
    simp [binOp, Op.intDiv, hc]
  case rem =>
    refine ⟨tmod_range _ _ _ hx.1 hx.2, fun t k' hk => ?_⟩
    simp only at hk; subst hk
    simp [binOp, Op.intDiv, hc]
  case shl =>
    refine ⟨wrap_range _ _, fun t k' hk => ?_⟩
    have : ¬ y < 0 := by omega
    simp [binOp, Op.shift, this]
  case shr =>
    refine ⟨shr_range _ _ _ hx.1 hx.2, fun t k' hk => ?_⟩
    have : ¬ y < 0 := by omega
    simp [binOp, Op.shift, this]
theorem icmp_sound {op : BinOp} {k : IntKind} {x y : Int} {r : Bool} (h : icmp op x y = some r) (t : TypeId) : (binOp op t (.int k x) (.int k y)).run P w = .ok (.bool r) w := by
  cases op <;> simp only [icmp, Option.some.injEq, reduceCtorEq] at h
  all_goals subst h
  all_goals simp [binOp, Op.intCmp]
  · rw [Bool.eq_iff_iff]; simp
  · rw [Bool.eq_iff_iff]; simp
theorem sop_sound {op : BinOp} {x y : ByteArray} {r : PV} {c : Prop} (h : sop op x y = some (r, c)) (hc : c) (t : TypeId) :
    ∃ v, (binOp op t (.string x) (.string y)).run P w = .ok v w ∧ PRep g.m r v := by
  cases op <;> simp only [sop, Option.some.injEq, Prod.mk.injEq, reduceCtorEq] at h
  all_goals obtain ⟨rfl, rfl⟩ := h
  case add =>
    have hs : ¬ ((x.size + y.size : Nat) : Int) > IntKind.i64.max := by
      unfold maxLen at hc; simp [IntKind.max, IntKind.signed, IntKind.bits]; omega
    refine ⟨.string (x ++ y), ?_, .str (by rw [ByteArray.size_append]; exact hc)⟩
    simp only [binOp, Op.stringOp]
    rw [if_neg hs]; rfl
  all_goals (refine ⟨.bool _, ?_, .bool⟩; simp only [binOp, Op.stringOp, toList_beq]; rfl)
theorem eqGuard_int {op : BinOp} {t : TypeId} {X Y : Operand} {k k' : IntKind} {x y : Int} : (eqGuard op t X Y (.int k x) (.int k' y)).run P w = .ok () w := by
  cases op <;> rfl
theorem eqGuard_str {op : BinOp} {t : TypeId} {X Y : Operand} {x y : ByteArray} : (eqGuard op t X Y (.string x) (.string y)).run P w = .ok () w := by
  cases op <;> rfl
theorem bin_sound {op : BinOp} {t : TypeId} {X Y : Operand} {a b d : DV} {va vb : Value} {c : Prop} (ha : DRep g a va) (hb : DRep g b vb) (h : bin op a b = some (d, c)) (hc : c) :
    ∃ v, (do eqGuard op t X Y va vb; binOp op t va vb : Sem Value).run P w = .ok v w ∧ DRep g d v ∧ ∀ p, d.nm p := by
  unfold bin at h
  split at h
  · rename_i k x k' y
    obtain ⟨rfl, hx⟩ := ha.int_inv
    obtain ⟨rfl, hy⟩ := hb.int_inv
    have hg : (eqGuard op t X Y (.int k x) (.int k' y)).run P w = .ok () w := eqGuard_int
    simp only [Sem.run_bind, hg, Result.andThen_ok]
    split at h
    · simp only [Option.map_eq_some_iff, Prod.mk.injEq] at h
      obtain ⟨r, hr, rfl, rfl⟩ := h
      have := arith_sound (P := P) (w := w) hx hr hc
      exact ⟨_, this.2 t k' trivial, .pv (.int this.1.1 this.1.2), fun p => by simp only [DV.nm]⟩
    · simp only [Option.map_eq_some_iff, Prod.mk.injEq] at h
      obtain ⟨r, hr, rfl, rfl⟩ := h
      have := arith_sound (P := P) (w := w) hx hr hc
      exact ⟨_, this.2 t k' trivial, .pv (.int this.1.1 this.1.2), fun p => by simp only [DV.nm]⟩
    all_goals
      split at h
      · rename_i hk; subst hk
        simp only [Option.map_eq_some_iff, Prod.mk.injEq] at h
        obtain ⟨r, hr, rfl, rfl⟩ := h
        first
          | exact ⟨_, icmp_sound hr t, .pv .bool, fun p => by simp only [DV.nm]⟩
          | (have := arith_sound (P := P) (w := w) hx hr hc
             refine ⟨_, this.2 t k ?_, .pv (.int this.1.1 this.1.2), fun p => by simp only [DV.nm]⟩
             cases op <;> simp_all)
      · simp at h
  · obtain ⟨rfl, hx⟩ := ha.str_inv
    obtain ⟨rfl, hy⟩ := hb.str_inv
    rename_i x y
    have hg : (eqGuard op t X Y (.string x) (.string y)).run P w = .ok () w := eqGuard_str
    simp only [Sem.run_bind, hg, Result.andThen_ok]
    simp only [Option.map_eq_some_iff, Prod.mk.injEq] at h
    obtain ⟨r, hr, rfl, rfl⟩ := h
    obtain ⟨v, h1, h2⟩ := sop_sound (P := P) (w := w) (g := g) hr hc t
    exact ⟨v, h1, .pv h2, fun p => by simp only [DV.nm]⟩
  · simp at h
end
end Go.Proofs.YthocoandbiaoiaaDoorV

namespace Go.Proofs.YthocoandbiaoiaaDoorV
open Go
theorem flat_cons (x : PV) (xs : List PV) : flat (x :: xs) = x.cells ++ flat xs := by simp [flat]
theorem flat_append (xs ys : List PV) : flat (xs ++ ys) = flat xs ++ flat ys := by simp [flat]
theorem flat_length {sz : Nat} : ∀ {xs : List PV}, (∀ x ∈ xs, x.cells.length = sz) → (flat xs).length = xs.length * sz
  | [], _ => by simp [flat]
  | x :: xs, h => by
    rw [flat_cons, List.length_append, h x (List.mem_cons_self ..), flat_length fun y hy => h y (List.mem_cons_of_mem _ hy), List.length_cons, Nat.add_mul]; omega
theorem flat_get {sz : Nat} : ∀ {xs : List PV}, (∀ x ∈ xs, x.cells.length = sz) → ∀ {i j : Nat} {x : PV}, xs[i]? = some x → j < sz → (flat xs)[i * sz + j]? = x.cells[j]?
  | [], _, i, j, x, hi, _ => by simp at hi
  | y :: xs, h, i, j, x, hi, hj => by
    have hy := h y (List.mem_cons_self ..)
    rw [flat_cons]
    rcases i with _ | i
    · simp at hi; subst hi
      rw [Nat.zero_mul, Nat.zero_add, List.getElem?_append_left (by omega)]
    · simp at hi
      rw [List.getElem?_append_right (by rw [hy, Nat.add_mul]; omega)]
      have : (i + 1) * sz + j - y.cells.length = i * sz + j := by rw [hy, Nat.add_mul]; omega
      rw [this]
      exact flat_get (fun z hz => h z (List.mem_cons_of_mem _ hz)) hi hj
theorem flat_take {sz : Nat} : ∀ {xs : List PV}, (∀ x ∈ xs, x.cells.length = sz) → ∀ k, flat (xs.take k) = (flat xs).take (k * sz)
  | [], _, k => by simp [flat]
  | y :: xs, h, k => by
    have hy := h y (List.mem_cons_self ..)
    rcases k with _ | k
    · simp [flat]
    · rw [List.take_succ_cons, flat_cons, flat_cons, flat_take (fun z hz => h z (List.mem_cons_of_mem _ hz)), Nat.add_mul, Nat.one_mul, List.take_append, hy]
      rw [List.take_of_length_le (l := y.cells) (by omega), Nat.add_sub_cancel]
theorem flat_drop {sz : Nat} : ∀ {xs : List PV}, (∀ x ∈ xs, x.cells.length = sz) → ∀ k, flat (xs.drop k) = (flat xs).drop (k * sz)
  | [], _, k => by simp [flat]
  | y :: xs, h, k => by
    have hy := h y (List.mem_cons_self ..)
    rcases k with _ | k
    · simp
    · rw [List.drop_succ_cons, flat_cons, flat_drop (fun z hz => h z (List.mem_cons_of_mem _ hz)), Nat.add_mul, Nat.one_mul, List.drop_append, hy]
      rw [List.drop_of_length_le (l := y.cells) (by omega), List.nil_append]
      congr 1; omega
theorem PRep.lst_inv {m : Mem} {sz : Nat} {xs : List PV} {v : Value} (h : PRep m (.lst sz xs) v) :
    ∃ A n c, v = .slice A n c ∧ ∃ vs : List Value, xs.length = n ∧ n ≤ c ∧ c ≤ maxLen ∧ 0 < sz ∧ (∀ x ∈ xs, x.cells.length = sz) ∧ (∀ c ∈ flat xs, c.one = true) ∧ vs.length = (flat xs).length ∧
      (∀ (j : Nat) (u : PV) (v : Value), (flat xs)[j]? = some u → vs[j]? = some v → PRep m u v) ∧
      (xs = [] ∨ ∃ B o, A = some ⟨B, o, none⟩ ∧ ∀ (j : Nat) (v : Value), vs[j]? = some v → m B (o + j) = some v) := by
  cases h with
  | lst vs hn hnc hm hz hs ho hl hc ha => exact ⟨_, _, _, rfl, vs, hn, hnc, hm, hz, hs, ho, hl, hc, ha⟩
theorem PRep.lst_at {m : Mem} {sz : Nat} {xs : List PV} {A : Option Addr} {n c : Nat} (h : PRep m (.lst sz xs) (.slice A n c)) {i : Nat} {x : PV} (hi : xs[i]? = some x) :
    ∃ B o, A = some ⟨B, o, none⟩ ∧ ∀ (j : Nat) (c : PV), x.cells[j]? = some c → c.one = true ∧ ∃ v, m B (o + i * sz + j) = some v ∧ PRep m c v := by
  cases h with
  | lst vs hn hnc hm hz hs ho hl hc ha =>
    rcases ha with rfl | ⟨B, o, rfl, hv⟩
    · simp at hi
    · refine ⟨B, o, rfl, fun j c hj => ?_⟩
      have hx := hs x (List.mem_of_getElem? hi)
      have hj' : j < sz := by
        have := (List.getElem?_eq_some_iff.1 hj).1; omega
      have hf : (flat xs)[i * sz + j]? = some c := by rw [flat_get hs hi hj', hj]
      have hlt : i * sz + j < vs.length := by rw [hl]; exact (List.getElem?_eq_some_iff.1 hf).1
      obtain ⟨v, hv'⟩ : ∃ v, vs[i * sz + j]? = some v := ⟨vs[i * sz + j], List.getElem?_eq_getElem hlt⟩
      refine ⟨ho c (List.mem_of_getElem? hf), v, ?_, hc _ _ _ hf hv'⟩
      rw [← hv _ _ hv', Nat.add_assoc]
theorem elems_sound {g : Gh} {d : DV} {v : Value} {sz : Nat} {xs : List PV} (h : elems d = some (sz, xs)) (hd : DRep g d v) :
    PRep g.m (.lst sz xs) v := by
  unfold elems at h
  split at h
  · simp only [Option.some.injEq, Prod.mk.injEq] at h; obtain ⟨rfl, rfl⟩ := h
    cases hd with | pv h => exact h
  · split at h
    · simp only [Option.some.injEq, Prod.mk.injEq] at h; obtain ⟨rfl, rfl⟩ := h
      cases hd
      exact .lst [] rfl (Nat.le_refl _) (by unfold maxLen; omega) ‹_› (by simp) (by simp [flat]) (by simp [flat]) (by simp) (.inl rfl)
    · simp at h
  · simp only [Option.some.injEq, Prod.mk.injEq] at h; obtain ⟨rfl, rfl⟩ := h
    cases hd with | flit h => exact h
  · simp only [Option.some.injEq, Prod.mk.injEq] at h; obtain ⟨rfl, rfl⟩ := h
    cases hd with | own h _ => exact h
  · simp at h
theorem nth_get {xs : List PV} {i : Int} (h0 : 0 ≤ i) (h1 : i < (xs.length : Int)) : xs[i.toNat]? = some (nth xs i) := by
  have : i.toNat < xs.length := by omega
  simp [nth, List.getD_eq_getElem?_getD, List.getElem?_eq_getElem this]
theorem PRep.cut {m : Mem} {sz : Nat} {xs : List PV} {A : Option Addr} {n c : Nat} (h : PRep m (.lst sz xs) (.slice A n c)) {l k : Nat} (hl : l ≤ k) (hk : k ≤ xs.length) :
    PRep m (.lst sz ((xs.take k).drop l)) (.slice (if c = l then A else A.map (·.add (l * sz))) (k - l) (c - l)) := by
  cases h with
  | lst vs hn hnc hm hz hs ho hlen hc ha =>
    have hs' : ∀ x ∈ (xs.take k).drop l, x.cells.length = sz := fun x hx => hs x (List.mem_of_mem_take (List.mem_of_mem_drop hx))
    have hf : flat ((xs.take k).drop l) = ((flat xs).take (k * sz)).drop (l * sz) := by
      rw [flat_drop (fun x hx => hs x (List.mem_of_mem_take hx)), flat_take hs]
    refine .lst ((vs.take (k * sz)).drop (l * sz)) (by simp; omega) (by omega) (by omega) hz hs' ?_ ?_ ?_ ?_
    · intro c hc'; rw [hf] at hc'; exact ho c (List.mem_of_mem_take (List.mem_of_mem_drop hc'))
    · rw [hf]; simp [hlen]
    · intro j u v hu hv
      rw [hf] at hu
      rw [List.getElem?_drop, List.getElem?_take] at hu hv
      split at hu
      · rename_i hlt; rw [if_pos hlt] at hv; exact hc _ _ _ hu hv
      · simp at hu
    · rcases ha with rfl | ⟨B, o, rfl, hv⟩
      · left; simp
      · by_cases hcl : c = l
        · left
          have : xs.length ≤ l := by omega
          rw [List.drop_eq_nil_iff]; simp; omega
        · right
          refine ⟨B, o + l * sz, by simp [hcl, Addr.add_mid], fun j v hj => ?_⟩
          rw [List.getElem?_drop, List.getElem?_take] at hj
          split at hj
          · rw [Nat.add_assoc]; exact hv _ _ hj
          · simp at hj
theorem PRep.cut3 {m : Mem} {sz : Nat} {xs : List PV} {A : Option Addr} {n c : Nat} (h : PRep m (.lst sz xs) (.slice A n c)) {l k q : Nat} (hl : l ≤ k) (hk : k ≤ q) (hq : q ≤ c) (hkx : k ≤ xs.length) :
    PRep m (.lst sz ((xs.take k).drop l)) (.slice (if q = l then A else A.map (·.add (l * sz))) (k - l) (q - l)) := by
  have h1 := h.cut hl hkx
  by_cases hql : q = l
  · obtain rfl : k = l := by omega
    rw [if_pos hql]
    have he : (xs.take k).drop k = [] := by rw [List.drop_eq_nil_iff]; simp; omega
    rw [he] at h1 ⊢
    cases h1 with
    | lst vs hn hnc hm hz hs ho hlen hc ha =>
      exact .lst [] (by simp) (by omega) (by omega) hz (by simp) (by simp [flat]) (by simp [flat]) (by simp) (.inl rfl)
  · rw [if_neg hql]
    rw [if_neg (by omega : ¬ c = l)] at h1
    cases h1 with
    | lst vs hn hnc hm hz hs ho hlen hc ha => exact .lst vs hn (by omega) (by omega) hz hs ho hlen hc ha
section
variable {P : Program} {g : Gh} {w : World}
theorem run_asIntOf (k : IntKind) (n : Int) : (asIntOf (.int k n)).run P w = .ok (k, n) w := rfl
theorem iad_run {t e sz : Nat} (ht : P.underlying t = some (.slice e)) (he : (P.info? e).map (·.size) = some sz) {A : Addr} {n c : Nat} {k : IntKind} {i : Int} (h0 : 0 ≤ i) (h1 : i < (n : Int)) :
    (Instr.indexAt t (.slice (some A) n c) (.int k i)).run P w = .ok (.pointer (some (A.add (i.toNat * sz)))) w := by
  obtain ⟨inf, hi, hsz⟩ := Option.map_eq_some_iff.1 he
  have hs : (sizeOf e).run P w = .ok sz w := by simp [sizeOf, typeInfo, hi, hsz]
  simp only [Instr.indexAt, Sem.run_bind, run_asIntOf, Result.andThen_ok, run_underlying ht, Sem.run_pure]
  rw [if_pos ⟨h0, h1⟩]
  simp only [Sem.run_bind, hs, Result.andThen_ok, Sem.run_pure]
theorem iada_run {t e sz len : Nat} (ht : P.underlying t = some (.array len e)) (he : (P.info? e).map (·.size) = some sz) {A : Addr} {k : IntKind} {i : Int} (h0 : 0 ≤ i) (h1 : i < (len : Int)) :
    (Instr.indexAt t (.pointer (some A)) (.int k i)).run P w = .ok (.pointer (some (A.add (i.toNat * sz)))) w := by
  obtain ⟨inf, hi, hsz⟩ := Option.map_eq_some_iff.1 he
  have hs : (sizeOf e).run P w = .ok sz w := by simp [sizeOf, typeInfo, hi, hsz]
  simp only [Instr.indexAt, Sem.run_bind, run_asIntOf, Result.andThen_ok, run_underlying ht, Sem.run_pure, Instr.sureAddr]
  rw [if_pos ⟨h0, h1⟩]
  simp only [Sem.run_bind, hs, Result.andThen_ok, Sem.run_pure]
theorem ixs_run {t : TypeId} (ht : P.underlying t = some .string) {s : ByteArray} {k : IntKind} {i : Int} (h0 : 0 ≤ i) (h1 : i < (s.size : Int)) :
    (Instr.index t (.string s) (.int k i)).run P w = .ok (.int .u8 (bt s i)) w := by
  have hlt : i.toNat < s.size := by omega
  have hb : bt s i = (s[i.toNat].toNat : Int) := by
    have : i.toNat < s.data.toList.length := by simpa using hlt
    simp only [bt, List.getD_eq_getElem?_getD, List.getElem?_eq_getElem this, Option.getD_some]; rfl
  simp only [Instr.index, Sem.run_bind, run_asIntOf, Result.andThen_ok, run_underlying ht, if_pos h0]
  rw [getElem?_pos s i.toNat hlt]
  simp only [Sem.run_pure, hb]
theorem fad_run {t : TypeId} {fs : Array Field} {i : Nat} {f : Field} (ht : P.underlying t = some (.struct fs)) (hf : fs[i]? = some f) {n : Nat} (hn : (P.info? f.type).map (·.size) = some n) (hn0 : n ≠ 0) {A : Addr} :
    (Instr.fieldAt t (.pointer (some A)) i).run P w = .ok (.pointer (some (A.add f.offset))) w := by
  obtain ⟨inf, hi, hsz⟩ := Option.map_eq_some_iff.1 hn
  have hs : (sizeOf f.type).run P w = .ok n w := by simp [sizeOf, typeInfo, hi, hsz]
  simp only [Instr.fieldAt, Sem.run_bind, run_underlying ht, Result.andThen_ok, hf, Instr.sureAddr, Sem.run_pure, fieldPlace, hs]
  rw [if_neg hn0]; rfl
end
end Go.Proofs.YthocoandbiaoiaaDoorV

namespace Go.Proofs.YthocoandbiaoiaaDoorV
open Go
theorem PRep.one_of {m : Mem} {p : PV} {v : Value} (h : PRep m p v) (ho : v.oneCell' = true) : p.one = true := by
  cases h <;> simp_all [PV.one, Value.oneCell']
theorem DRep.pv_inv {g : Gh} {p : PV} {v : Value} (h : DRep g (.pv p) v) : PRep g.m p v := by cases h with | pv h => exact h
theorem pvs_sound {g : Gh} : ∀ {cs : List DV} {ps : List PV}, pvs cs = some ps → cs = ps.map .pv
  | [], ps, h => by simp [pvs] at h; subst h; rfl
  | .pv p :: r, ps, h => by
    simp only [pvs, Option.map_eq_some_iff] at h
    obtain ⟨qs, hq, rfl⟩ := h
    rw [pvs_sound (g := g) hq]; rfl
  | .agg _ :: _, _, h | .tup _ :: _, _, h | .nilS _ :: _, _, h | .flit _ _ :: _, _, h | .own _ _ _ :: _, _, h | .mrow _ _ _ _ :: _, _, h | .ptr _ _ :: _, _, h | .eptr _ :: _, _, h
  | .nilP :: _, _, h | .fn _ _ _ :: _, _, h | .nilF :: _, _, h | .mref _ :: _, _, h | .stmp _ _ :: _, _, h | .nilM :: _, _, h | .ifc _ _ :: _, _, h | .nilI :: _, _, h | .gd _ _ :: _, _, h | .junk :: _, _, h => by simp [pvs] at h
theorem mkAgg_sound {g : Gh} {cs : List DV} {vs : Array Value} (hl : cs.length = vs.size) (ho : ∀ v ∈ vs.toList, v.oneCell' = true)
    (hc : ∀ (j : Nat) (c : DV) (v : Value), cs[j]? = some c → vs[j]? = some v → DRep g c v) {p : Nat → Prop} (hn : ∀ c ∈ cs, c.nm p) : DRep g (mkAgg cs) (.agg vs) ∧ (mkAgg cs).nm p := by
  unfold mkAgg
  split
  · rename_i ps h
    have he := pvs_sound (g := g) h
    subst he
    refine ⟨.pv (.agg (by simpa using hl) (fun c hc' => ?_) fun j c v hj hv => ?_), by simp only [DV.nm]⟩
    · obtain ⟨j, hj, rfl⟩ := List.getElem_of_mem hc'
      have hlt : j < vs.size := by simp at hl; omega
      have := (hc j (.pv ps[j]) vs[j] (by simp [List.getElem?_eq_getElem hj]) (by simp [hlt])).pv_inv
      exact this.one_of (ho _ (by simp))
    · exact (hc j (.pv c) v (by simp [hj]) hv).pv_inv
  · exact ⟨.agg hl ho hc, DV.nm_agg.2 hn⟩
theorem dcells_sound {g : Gh} {d : DV} {v : Value} (h : DRep g d v) (hne : 0 < (dcells d).length) {p : Nat → Prop} (hn : d.nm p) :
    (dcells d).length = v.cells.size ∧ (∀ u ∈ v.cells.toList, u.oneCell' = true) ∧ (∀ (j : Nat) (c : DV) (u : Value), (dcells d)[j]? = some c → v.cells[j]? = some u → DRep g c u) ∧ ∀ c ∈ dcells d, c.nm p := by
  have single : ∀ {d : DV} {v : Value}, DRep g d v → v.oneCell' = true → dcells d = [d] → d.nm p → v.cells = #[v] →
      (dcells d).length = v.cells.size ∧ (∀ u ∈ v.cells.toList, u.oneCell' = true) ∧ (∀ (j : Nat) (c : DV) (u : Value), (dcells d)[j]? = some c → v.cells[j]? = some u → DRep g c u) ∧ ∀ c ∈ dcells d, c.nm p := by
    intro d v h ho hd hn hv
    rw [hd, hv]
    refine ⟨rfl, by simpa using ho, fun j c u hc hu => ?_, by simpa using hn⟩
    rcases j with _ | j <;> simp at hc hu
    subst hc; subst hu; exact h
  cases h with
  | pv h =>
    cases h with
    | agg hl ho hc =>
      refine ⟨by simp [dcells, Value.cells, hl], fun u hu => ?_, fun j c u hc' hu => ?_, fun c hc' => ?_⟩
      · obtain ⟨j, hj, rfl⟩ := List.getElem_of_mem hu
        simp only [Value.cells] at hj ⊢
        rw [Array.length_toList] at hj
        have hlt : j < _ := hl ▸ hj
        have := hc j _ _ (List.getElem?_eq_getElem hlt) (Array.getElem?_eq_getElem hj)
        exact this.oneCell' (ho _ (List.getElem_mem hlt))
      · simp only [dcells, List.getElem?_map, Option.map_eq_some_iff] at hc'
        obtain ⟨q, hq, rfl⟩ := hc'
        exact .pv (hc j q u hq hu)
      · simp only [dcells, List.mem_map] at hc'
        obtain ⟨q, _, rfl⟩ := hc'
        simp only [DV.nm]
    | int h0 h1 => exact single (.pv (.int h0 h1)) rfl rfl hn rfl
    | bool => exact single (.pv .bool) rfl rfl hn rfl
    | str h => exact single (.pv (.str h)) rfl rfl hn rfl
    | lst vs a b c d e f h i j => exact single (.pv (.lst vs a b c d e f h i j)) rfl rfl hn rfl
  | agg hl ho hc => exact ⟨hl, ho, hc, DV.nm_agg.1 hn⟩
  | tup => simp [dcells] at hne
  | junk => simp [dcells] at hne
  | gd => simp [dcells] at hne
  | stmp => simp [dcells] at hne
  | nilS => exact single .nilS rfl rfl hn rfl
  | flit h => exact single (.flit h) rfl rfl hn rfl
  | own h ht =>
    obtain ⟨A, n, c, rfl, _⟩ := h.lst_inv
    exact single (.own h ht) rfl rfl hn rfl
  | mrow h hc hm => exact single (.mrow h hc hm) rfl rfl hn rfl
  | ptr h => exact single (.ptr h) rfl rfl hn rfl
  | eptr h => exact single (.eptr h) rfl rfl hn rfl
  | nilP => exact single .nilP rfl rfl hn rfl
  | fn a b c d => exact single (.fn a b c d) rfl rfl hn rfl
  | nilF => exact single .nilF rfl rfl hn rfl
  | mref h => exact single (.mref h) rfl rfl hn rfl
  | nilM => exact single .nilM rfl rfl hn rfl
  | ifc h => exact single (.ifc h) rfl rfl hn rfl
  | nilI => exact single .nilI rfl rfl hn rfl
section
variable {P : Program} {gl : Glob} {K : Nat → Prop} {w0 : World} {hl : Nat → Option Ob} {fr : Nat → Prop} {g : Gh} {w : World}
theorem cell_of_heap {w : World} {B : Nat} {vs : Array Value} {e : TypeId} {f : Nat × Nat} (h : w.heap[B]? = some (.cells vs e f)) (o : Nat) : w.cell? ⟨B, o, none⟩ = vs[o]? := by
  simp [World.cell?, h]
theorem frozen_of_heap {w : World} {B : Nat} {vs : Array Value} {e : TypeId} (h : w.heap[B]? = some (.cells vs e (0, 0))) (o : Nat) : w.frozen? ⟨B, o, none⟩ = false := by
  simp [World.frozen?, h]
theorem at_sound (hH : SimH gl K w0 hl fr g w) {d : DV} {v : Value} (hd : DRep g d v) {cs : List DV} {rd : List Nat} (h : at_ hl d = some (cs, rd)) :
    ∃ B o, v = .pointer (some ⟨B, o, none⟩) ∧ ∀ (j : Nat) (c : DV), cs[j]? = some c → ∃ u, w.cell? ⟨B, o + j, none⟩ = some u ∧ DRep g c u ∧ u.oneCell' = true ∧ c.nm fun i => ¬ fr i := by
  unfold at_ at h
  split at h
  · simp only [Option.some.injEq, Prod.mk.injEq] at h; obtain ⟨rfl, rfl⟩ := h
    cases hd with
    | eptr he =>
      refine ⟨_, _, rfl, fun j c hc => ?_⟩
      simp only [List.getElem?_map, Option.map_eq_some_iff] at hc
      obtain ⟨q, hq, rfl⟩ := hc
      obtain ⟨ho, u, hm, hp⟩ := he j q hq
      exact ⟨u, hH.mem _ _ _ hm, .pv hp, hp.oneCell' ho, by simp only [DV.nm]⟩
  · rename_i id off
    split at h
    · rename_i cs' hob
      simp only [Option.some.injEq, Prod.mk.injEq] at h; obtain ⟨rfl, rfl⟩ := h
      cases hd with
      | ptr hμ =>
        obtain ⟨B, vs, e, hB, hh, hlen, hone, hrep, _⟩ := hH.obj _ _ hob
        rw [hμ] at hB; obtain rfl := Option.some.inj hB
        refine ⟨_, _, rfl, fun j c hc => ?_⟩
        rw [List.getElem?_drop] at hc
        have hlt : off + j < vs.size := by have := (List.getElem?_eq_some_iff.1 hc).1; omega
        refine ⟨vs[off + j], by rw [cell_of_heap hh]; simp [hlt], hrep _ _ _ hc (by simp [hlt]), hone _ (by simp), hH.nm _ _ hob _ (List.mem_of_getElem? hc)⟩
    · simp at h
  · simp at h
theorem take_sound {cs : List DV} {n : Option Nat} {d : DV} (h : take_ n cs = some d) {vs : Nat → Option Value} {p : Nat → Prop}
    (hc : ∀ (j : Nat) (c : DV), cs[j]? = some c → ∃ u, vs j = some u ∧ DRep g c u ∧ u.oneCell' = true ∧ c.nm p) :
    match n with
    | none => ∃ u, vs 0 = some u ∧ DRep g d u ∧ d.nm p
    | some n => ∃ us : List Value, us.length = n ∧ (∀ (j : Nat) (u : Value), us[j]? = some u → vs j = some u) ∧ DRep g d (.agg us.toArray) ∧ d.nm p := by
  unfold take_ at h
  cases n with
  | none =>
    simp only at h ⊢
    obtain ⟨u, h1, h2, _, h4⟩ := hc 0 d (by rw [← List.head?_eq_getElem?]; exact h)
    exact ⟨u, h1, h2, h4⟩
  | some n =>
    simp only at h ⊢
    split at h
    · rename_i hn
      simp only [Option.some.injEq] at h; subst h
      have hex : ∀ k, k ≤ n → ∃ us : List Value, us.length = k ∧ ∀ (j : Nat) (u : Value), us[j]? = some u → vs j = some u ∧ u.oneCell' = true ∧ ∀ c, cs[j]? = some c → DRep g c u := by
        intro k hk
        induction k with
        | zero => exact ⟨[], rfl, by simp⟩
        | succ k ih =>
          obtain ⟨us, h1, h2⟩ := ih (by omega)
          have hlt : k < cs.length := by omega
          obtain ⟨u, hu1, hu2, hu3, _⟩ := hc k cs[k] (List.getElem?_eq_getElem hlt)
          refine ⟨us ++ [u], by simp [h1], fun j u' hj => ?_⟩
          rcases Nat.lt_or_ge j k with hj' | hj'
          · rw [List.getElem?_append_left (by omega)] at hj; exact h2 j u' hj
          · have hjk : j = k := by
              have := (List.getElem?_eq_some_iff.1 hj).1; simp at this; omega
            subst hjk
            rw [List.getElem?_append_right (by omega), h1, Nat.sub_self] at hj
            simp at hj; subst hj
            refine ⟨hu1, hu3, fun c hc' => ?_⟩
            rw [List.getElem?_eq_getElem hlt] at hc'; obtain rfl := Option.some.inj hc'; exact hu2
      obtain ⟨us, h1, h2⟩ := hex n (Nat.le_refl _)
      have := mkAgg_sound (g := g) (cs := cs.take n) (vs := us.toArray) (by simp [h1]; omega) (fun v hv => by
          obtain ⟨j, hj, rfl⟩ := List.getElem_of_mem hv
          exact (h2 j _ (List.getElem?_eq_getElem hj)).2.1) (fun j c v hj hv => by
          rw [List.getElem?_take] at hj
          split at hj
          · exact (h2 j v (by simpa using hv)).2.2 c hj
          · simp at hj) (p := p) (fun c hc' => by
          obtain ⟨j, hj, rfl⟩ := List.getElem_of_mem (List.mem_of_mem_take hc')
          exact (hc j _ (List.getElem?_eq_getElem hj)).choose_spec.2.2.2)
      exact ⟨us, h1, fun j u hj => (h2 j u hj).1, this.1, this.2⟩
    · simp at h
theorem run_isAgg {t : TypeId} {d : TypeDesc} (h : P.underlying t = some d) : (isAgg t).run P w = .ok d.isRow w := by
  unfold isAgg
  rw [Sem.run_bind, run_underlying h w]
  cases d <;> rfl
theorem load_sound (hH : SimH gl K w0 hl fr g w) {d : DV} {v : Value} (hd : DRep g d v) {cs : List DV} {rd : List Nat} (h : at_ hl d = some (cs, rd)) {n : Option Nat} {r : DV} (hr : take_ n cs = some r)
    {t : TypeId} {td : TypeDesc} (ht : P.underlying t = some td) (hn : match n with | none => td.isRow = false | some n => td.isRow = true ∧ (P.info? t).map (·.size) = some n) :
    ∃ u, (Instr.loadAt t v).run P w = .ok u w ∧ DRep g r u ∧ r.nm fun i => ¬ fr i := by
  obtain ⟨B, o, rfl, hc⟩ := at_sound hH hd h
  have := take_sound hr hc (g := g) (vs := fun j => w.cell? ⟨B, o + j, none⟩)
  cases n with
  | none =>
    simp only at this hn
    obtain ⟨u, h1, h2, h3⟩ := this
    refine ⟨u, ?_, h2, h3⟩
    simp only [Nat.add_zero] at h1
    simp [Instr.loadAt, Instr.sureAddr, loadVar, Sem.run_bind, run_isAgg ht, hn, h1]
  | some n =>
    simp only at this hn
    obtain ⟨us, h1, h2, h3, h4⟩ := this
    refine ⟨_, run_loadAt_mid w B o t us td (fun j v hv => h2 j v hv) ht hn.1 (by rw [hn.2, h1]), h3, h4⟩
theorem fld_sound {d : DV} {v : Value} (hd : DRep g d v) {off : Nat} {n : Option Nat} {r : DV} (hr : take_ n ((dcells d).drop off) = some r) {p : Nat → Prop} (hnm : d.nm p) {vs : Array Value} (hv : v = .agg vs)
    {t : TypeId} {fs : Array Field} {i : Nat} {f : Field} (ht : P.underlying t = some (.struct fs)) (hf : fs[i]? = some f) (hoff : f.offset = off) {td : TypeDesc} (htd : P.underlying f.type = some td)
    (hn : match n with | none => td.isRow = false | some n => td.isRow = true ∧ 0 < n ∧ (P.info? f.type).map (·.size) = some n) :
    ∃ u, (Instr.field t v i).run P w = .ok u w ∧ DRep g r u ∧ r.nm p := by
  subst hv; subst hoff
  have hne : 0 < (dcells d).length := by
    cases n with
    | none =>
      unfold take_ at hr; simp only at hr
      have := List.head?_eq_some_iff.1 hr
      obtain ⟨x, hx⟩ := this
      have := congrArg List.length hx
      simp at this; omega
    | some n =>
      unfold take_ at hr; simp only at hr
      split at hr
      · rename_i h; simp at h; omega
      · simp at hr
  obtain ⟨h1, h2, h3, h4⟩ := dcells_sound hd hne hnm
  simp only [Value.cells] at h1 h2 h3
  have hc : ∀ (j : Nat) (c : DV), ((dcells d).drop f.offset)[j]? = some c → ∃ u, vs[f.offset + j]? = some u ∧ DRep g c u ∧ u.oneCell' = true ∧ c.nm p := by
    intro j c hj
    rw [List.getElem?_drop] at hj
    have hlt : f.offset + j < vs.size := by rw [← h1]; exact (List.getElem?_eq_some_iff.1 hj).1
    exact ⟨vs[f.offset + j], by simp [hlt], h3 _ _ _ hj (by simp [hlt]), h2 _ (by simp), h4 _ (List.mem_of_getElem? hj)⟩
  have := take_sound hr hc (g := g) (vs := fun j => vs[f.offset + j]?)
  cases n with
  | none =>
    simp only at this hn
    obtain ⟨u, h1, h2, h3⟩ := this
    simp only [Nat.add_zero] at h1
    refine ⟨u, ?_, h2, h3⟩
    simp [Instr.field, run_underlying ht, hf, asAgg, part, run_isAgg htd, hn, h1]
  | some n =>
    simp only at this hn
    obtain ⟨us, k1, k2, k3, k4⟩ := this
    have he : vs.extract f.offset (f.offset + n) = us.toArray := by
      apply Array.ext
      · have hk : n ≤ ((dcells d).drop f.offset).length := by
          unfold take_ at hr; simp only at hr; split at hr
          · assumption
          · simp at hr
        simp at hk
        simp [k1]; omega
      · intro j hj hj'
        have hj'' : j < us.length := by simpa using hj'
        have := k2 j us[j] (List.getElem?_eq_getElem hj'')
        obtain ⟨hlt, hv⟩ := Array.getElem?_eq_some_iff.1 this
        simp [hv]
    obtain ⟨inf, hi, hsz⟩ := Option.map_eq_some_iff.1 hn.2.2
    have hs : (sizeOf f.type).run P w = .ok n w := by simp [sizeOf, typeInfo, hi, hsz]
    refine ⟨.agg us.toArray, ?_, k3, k4⟩
    simp [Instr.field, run_underlying ht, hf, asAgg, part, run_isAgg htd, hn.1, hs, he]
end
end Go.Proofs.YthocoandbiaoiaaDoorV

namespace Go.Proofs.YthocoandbiaoiaaDoorV
open Go
def fupd (hl : Nat → Option Ob) (id : Nat) (o : Ob) : Nat → Option Ob := fun j => if j = id then some o else hl j
theorem PRep.mono' {K p : Nat → Prop} {g g' : Gh} (h : GLe K p g g') {d : PV} {v : Value} (hr : PRep g.m d v) : PRep g'.m d v := hr.mono h.m
theorem ORep.mono {K p : Nat → Prop} {g g' : Gh} {w w' : World} {id : Nat} {o : Ob} (hg : GLe K p g g') (hp : p id) (hn : o.nm p) (hτ : g'.τ id = g.τ id)
    (hB : ∀ B, Owns g id B o → w'.heap[B]? = w.heap[B]? ∧ ∀ x, g'.m B x = g.m B x) (h : ORep g w id o) : ORep g' w' id o := by
  cases o with
  | box cs =>
    obtain ⟨B, vs, e, h1, h2, h3, h4, h5, h6⟩ := h
    have hb := hB B h1
    exact ⟨B, vs, e, (hg.μ _ hp).trans h1, hb.1.trans h2, h3, h4, fun j c v hc hv => (h5 j c v hc hv).mono hg (hn c (List.mem_of_getElem? hc)), fun x => (hb.2 x).trans (h6 x)⟩
  | tip sz n =>
    rcases h with ⟨A, h2, h3⟩ | ⟨B, vs, e, c, h1, h0, h2, h3, h5, h6, h7, h8⟩
    · exact .inl ⟨A, by rw [hτ]; exact h2, fun k hk => by rw [hτ]; exact h3 k hk⟩
    · have hb := hB B ⟨c, h1, h0⟩
      exact .inr ⟨B, vs, e, c, by rw [hτ]; exact h1, h0, hb.1.trans h2, h3, h5, h6, fun x hx => (hb.2 x).trans (h7 x hx), fun k hk => by rw [hτ]; exact h8 k hk⟩
  | mp es =>
    obtain ⟨B, en, clock, h1, h2, h3, h3a, h3b, h3c, h3d, h4, h5⟩ := h
    have hb := hB B h1
    refine ⟨B, en, clock, (hg.μ _ hp).trans h1, hb.1.trans h2, h3, h3a, h3b, fun j y hy => by rw [hτ]; exact h3c j y hy, fun j hj => by rw [hτ]; exact h3d j hj, fun j x y hx hy => ?_, fun x => (hb.2 x).trans (h5 x)⟩
    have := h4 j x y hx hy
    exact ⟨this.1.mono hg.m, this.2.mono hg (hn x (List.mem_of_getElem? hx))⟩
  | lrec l r st e =>
    obtain ⟨h1, ⟨tmps, h2, h3, h4⟩, h5⟩ := h
    have hb := hB l h1
    exact ⟨(hg.μ _ hp).trans h1, ⟨tmps, hb.1.trans h2, h3, fun j d hj => let ⟨v, k1, k2⟩ := h4 j d hj; ⟨v, k1, k2.mono hg (hn j d hj)⟩⟩, fun x => (hb.2 x).trans (h5 x)⟩
theorem ORep.owns {g : Gh} {w : World} {id B : Nat} {o : Ob} (h : ORep g w id o) (hB : Owns g id B o) : B < w.heap.size ∧ ∃ x, w.heap[B]? = some x := by
  cases o with
  | box cs =>
    obtain ⟨B', vs, e, h1, h2, _⟩ := h
    simp only [Owns] at hB
    rw [hB] at h1; obtain rfl := Option.some.inj h1
    exact ⟨(Array.getElem?_eq_some_iff.1 h2).1, _, h2⟩
  | tip sz n =>
    obtain ⟨c, hc, hlt⟩ := hB
    rcases h with ⟨A, h2, _⟩ | ⟨B', vs, e, c', h1, _, h2, _⟩
    · rw [h2] at hc
      simp only [Option.some.injEq, Value.slice.injEq] at hc
      omega
    · rw [h1] at hc
      simp only [Option.some.injEq, Value.slice.injEq, Addr.mk.injEq] at hc
      obtain ⟨⟨rfl, _⟩, _⟩ := hc
      exact ⟨(Array.getElem?_eq_some_iff.1 h2).1, _, h2⟩
  | mp es =>
    obtain ⟨B', en, clock, h1, h2, _⟩ := h
    simp only [Owns] at hB
    rw [hB] at h1; obtain rfl := Option.some.inj h1
    exact ⟨(Array.getElem?_eq_some_iff.1 h2).1, _, h2⟩
  | lrec l r st e =>
    obtain ⟨h1, ⟨tmps, h2, _⟩, _⟩ := h
    simp only [Owns] at hB
    rw [hB] at h1; obtain rfl := Option.some.inj h1
    exact ⟨(Array.getElem?_eq_some_iff.1 h2).1, _, h2⟩
section
variable {gl : Glob} {K : Nat → Prop} {w0 : World} {hl : Nat → Option Ob} {fr : Nat → Prop} {g : Gh} {w : World}
theorem SimH.memlt (hH : SimH gl K w0 hl fr g w) {b o : Nat} {v : Value} (h : g.m b o = some v) : b < w.heap.size :=
  World.block_lt_of_cell? w ⟨b, o, none⟩ (hH.mem _ _ _ h)
theorem SimH.memnew (hH : SimH gl K w0 hl fr g w) (o : Nat) : g.m w.heap.size o = none := by
  cases h : g.m w.heap.size o with
  | none => rfl
  | some v => exact absurd (hH.memlt h) (Nat.lt_irrefl _)
theorem heap_alloc (w : World) (o : Obj) (b : Nat) : (w.alloc o).heap[b]? = if b = w.heap.size then some o else w.heap[b]? := by
  simp only [World.alloc, Array.getElem?_push]
theorem SimH.world (hH : SimH gl K w0 hl fr g w) {w' : World} (hos : w'.os = w.os) (ht : w'.tape = w.tape) (ho : w'.output = w.output) (hs : w.heap.size ≤ w'.heap.size) (hb : ∀ b, b < w.heap.size → w'.heap[b]? = w.heap[b]?) :
    SimH gl K w0 hl fr g w' where
  os := hos.trans hH.os
  tape := ht.trans hH.tape
  output := ho.trans hH.output
  size := Nat.le_trans hH.size hs
  kept b hK := (hb b (Nat.lt_of_lt_of_le (hH.old b hK) hH.size)).trans (hH.kept b hK)
  old := hH.old
  mem b o v h := by
    have := hH.mem b o v h
    have hlt := hH.memlt h
    simp only [World.cell?, hb b hlt] at this ⊢
    exact this
  ids := hH.ids
  low := hH.low
  obj id o h := by
    refine ORep.mono (p := fun i => ¬ fr i) (GLe.refl K _ g) (hH.ids id o h) (hH.nm id o h) rfl (fun B hB => ⟨hb B (hH.obj id o h |>.owns hB).1, fun _ => rfl⟩) (hH.obj id o h)
  nm := hH.nm
  inj := hH.inj
  off := hH.off
  glo := hH.glo
theorem SimH.drew (hH : SimH gl K w0 hl fr g w) : SimH gl K w0 hl fr g w.drew :=
  hH.world rfl rfl rfl (Nat.le_refl _) (fun _ _ => rfl)
theorem SimH.alloc (hH : SimH gl K w0 hl fr g w) (o : Obj) : SimH gl K w0 hl fr g (w.alloc o) :=
  hH.world rfl rfl rfl (by simp) (fun b hb => by rw [heap_alloc, if_neg (by omega)])
theorem SimH.newObj (hH : SimH gl K w0 hl fr g w) {id : Nat} (hid : fr id) (B : Nat) (hB : B = w.heap.size) (o : Ob) (ob : Obj) (ho : ∀ B', Owns { g with μ := fun i => if i = id then some B else g.μ i } id B' o → B' = B)
    (hn : o.nm fun i => ¬ fr i) (hr : ORep { g with μ := fun i => if i = id then some B else g.μ i } (w.alloc ob) id o) :
    SimH gl K w0 (fupd hl id o) (fun i => fr i ∧ i ≠ id) { g with μ := fun i => if i = id then some B else g.μ i } (w.alloc ob) ∧
      GLe K (fun i => ¬ fr i) g { g with μ := fun i => if i = id then some B else g.μ i } := by
  have hg : GLe K (fun i => ¬ fr i) g { g with μ := fun i => if i = id then some B else g.μ i } :=
    ⟨.refl _, fun _ _ _ => rfl, fun i hi => by simp only; rw [if_neg]; rintro rfl; exact hi hid, fun _ _ _ _ h => h⟩
  have hA := hH.alloc ob
  have hown : ∀ i oi B', hl i = some oi → Owns { g with μ := fun i => if i = id then some B else g.μ i } i B' oi → Owns g i B' oi := by
    intro i oi B' hi h
    have hne : i ≠ id := by rintro rfl; exact hH.ids _ _ hi hid
    cases oi <;> simp only [Owns, if_neg hne] at h ⊢ <;> exact h
  have hlt : ∀ i oi B', hl i = some oi → Owns g i B' oi → B' < w.heap.size := fun i oi B' hi h => ((hH.obj i oi hi).owns h).1
  refine ⟨?_, hg⟩
  exact {
    os := hA.os, tape := hA.tape, output := hA.output, size := hA.size, kept := hA.kept, old := hA.old, mem := hA.mem
    ids := fun i oi h => by
      unfold fupd at h
      split at h
      · rename_i he; rintro ⟨_, h2⟩; exact h2 he
      · rintro ⟨h1, _⟩; exact hH.ids i oi h h1
    low := fun i ⟨h1, h2⟩ => ⟨by simp only [if_neg h2]; exact (hH.low i h1).1, (hH.low i h1).2⟩
    obj := fun i oi h => by
      unfold fupd at h
      split at h
      · rename_i he; subst he; obtain rfl := Option.some.inj h; exact hr
      · exact ORep.mono hg (hH.ids i oi h) (hH.nm i oi h) rfl (fun B' hB' => ⟨rfl, fun _ => rfl⟩) (hA.obj i oi h)
    nm := fun i oi h => by
      have himp : ∀ j, ¬ fr j → ¬ (fr j ∧ j ≠ id) := fun j hj h => hj h.1
      have hall : ∀ oi : Ob, (oi.nm fun j => ¬ fr j) → oi.nm fun j => ¬ (fr j ∧ j ≠ id) := by
        intro oi h
        cases oi with
        | box cs => exact fun c hc => DV.nm_mono himp c (h c hc)
        | tip => trivial
        | mp es => exact fun x hx => DV.nm_mono himp x.2 (h x hx)
        | lrec l r st e => exact fun i d hi => DV.nm_mono himp d (h i d hi)
      unfold fupd at h
      split at h
      · obtain rfl := Option.some.inj h; exact hall _ hn
      · exact hall _ (hH.nm i oi h)
    inj := fun i j oi oj B' hi hj h1 h2 => by
      unfold fupd at hi hj
      split at hi <;> split at hj
      · omega
      · rename_i he _
        subst he; obtain rfl := Option.some.inj hi
        have := ho _ h1
        have := hlt _ _ _ hj (hown _ _ _ hj h2)
        omega
      · rename_i _ he
        subst he; obtain rfl := Option.some.inj hj
        have := ho _ h2
        have := hlt _ _ _ hi (hown _ _ _ hi h1)
        omega
      · exact hH.inj i j oi oj B' hi hj (hown _ _ _ hi h1) (hown _ _ _ hj h2)
    off := fun i oi B' hi h1 hK => by
      unfold fupd at hi
      split at hi
      · rename_i he; subst he; obtain rfl := Option.some.inj hi
        have := ho _ h1
        have := hH.old _ hK
        have := hH.size
        omega
      · exact hH.off i oi B' hi (hown _ _ _ hi h1) hK
    glo := hH.glo }
theorem SimH.newBox (hH : SimH gl K w0 hl fr g w) {id : Nat} (hid : fr id) {cs : List DV} {vs : Array Value} {e : TypeId} (hlen : cs.length ≤ vs.size) (hone : ∀ v ∈ vs.toList, v.oneCell' = true)
    (hc : ∀ (j : Nat) (c : DV) (v : Value), cs[j]? = some c → vs[j]? = some v → DRep g c v) (hn : ∀ c ∈ cs, c.nm fun i => ¬ fr i) :
    ∃ g', SimH gl K w0 (fupd hl id (.box cs)) (fun i => fr i ∧ i ≠ id) g' (w.alloc (.cells vs e)) ∧ GLe K (fun i => ¬ fr i) g g' ∧ g'.μ id = some w.heap.size := by
  have hg : GLe K (fun i => ¬ fr i) g { g with μ := fun i => if i = id then some w.heap.size else g.μ i } :=
    ⟨.refl _, fun _ _ _ => rfl, fun i hi => by simp only; rw [if_neg]; rintro rfl; exact hi hid, fun _ _ _ _ h => h⟩
  have := hH.newObj hid w.heap.size rfl (.box cs) (.cells vs e) (fun B' h => by simpa [Owns] using h.symm) hn
    ⟨w.heap.size, vs, e, by simp, by rw [heap_alloc, if_pos rfl], hlen, hone, fun j c v h1 h2 => (hc j c v h1 h2).mono hg (hn c (List.mem_of_getElem? h1)), fun o => hH.memnew o⟩
  exact ⟨_, this.1, this.2, by simp⟩
theorem SimH.newMem (hH : SimH gl K w0 hl fr g w) (vs : Array Value) (e : TypeId) :
    ∃ g', SimH gl K w0 hl fr g' (w.alloc (.cells vs e)) ∧ GLe K (fun i => ¬ fr i) g g' ∧ ∀ j v, vs[j]? = some v → g'.m w.heap.size j = some v := by
  have hm : MemLe g.m (fun b o => if b = w.heap.size then vs[o]? else g.m b o) := by
    intro b o v h
    have := hH.memlt h
    simp only; rw [if_neg (by omega)]; exact h
  have hg : GLe K (fun i => ¬ fr i) g { g with m := fun b o => if b = w.heap.size then vs[o]? else g.m b o } :=
    ⟨hm, fun b hb o => by simp only; rw [if_neg]; have := hH.old b hb; have := hH.size; omega, fun _ _ => rfl, fun _ _ _ _ h => h⟩
  have hA := hH.alloc (.cells vs e)
  refine ⟨{ g with m := fun b o => if b = w.heap.size then vs[o]? else g.m b o }, ?_, hg, fun j v h => by simp [h]⟩
  exact {
    os := hA.os, tape := hA.tape, output := hA.output, size := hA.size, kept := hA.kept, old := hA.old
    mem := fun b o v h => by
      simp only at h
      split at h
      · rename_i hb; subst hb
        simp only [World.cell?, heap_alloc, if_true]
        exact h
      · exact hA.mem b o v h
    ids := hH.ids, low := hH.low
    obj := fun i oi h => ORep.mono hg (hH.ids i oi h) (hH.nm i oi h) rfl (fun B hB => ⟨rfl, fun x => by
        have := ((hH.obj i oi h).owns hB).1
        simp only; rw [if_neg (by omega)]⟩) (hA.obj i oi h)
    nm := hH.nm
    inj := fun i j oi oj B hi hj h1 h2 => hH.inj i j oi oj B hi hj (by cases oi <;> exact h1) (by cases oj <;> exact h2)
    off := fun i oi B hi h1 => hH.off i oi B hi (by cases oi <;> exact h1)
    glo := fun b cs hb j c hj => by
      obtain ⟨h1, v, h2, h3⟩ := hH.glo b cs hb j c hj
      exact ⟨h1, v, hm _ _ _ h2, h3.mono hm⟩ }
end
end Go.Proofs.YthocoandbiaoiaaDoorV

namespace Go.Proofs.YthocoandbiaoiaaDoorV
open Go
def arrSet (a : Array Value) : Nat → List Value → Array Value
  | _, [] => a
  | o, v :: r => arrSet (a.setIfInBounds o v) (o + 1) r
theorem arrSet_size : ∀ (vs : List Value) (a : Array Value) (o : Nat), (arrSet a o vs).size = a.size
  | [], _, _ => rfl
  | v :: r, a, o => by rw [arrSet, arrSet_size r]; simp
theorem arrSet_get : ∀ (vs : List Value) (a : Array Value) (o j : Nat), o + vs.length ≤ a.size → (arrSet a o vs)[j]? = if o ≤ j ∧ j < o + vs.length then vs[j - o]? else a[j]?
  | [], a, o, j, _ => by rw [arrSet, if_neg (by simp)]
  | v :: r, a, o, j, h => by
    simp only [List.length_cons] at h
    rw [arrSet, arrSet_get r _ _ _ (by simp; omega)]
    by_cases hj : j = o
    · subst hj
      rw [if_neg (by omega), if_pos (by simp)]
      simp only [Nat.sub_self, List.getElem?_cons_zero]
      first | (rw [Array.getElem?_setIfInBounds_self]; rw [if_pos (by omega)]) | (rw [List.getElem?_set_self (by omega)])
    · by_cases h2 : o + 1 ≤ j ∧ j < o + 1 + r.length
      · rw [if_pos h2, if_pos (by simp; omega)]
        obtain ⟨k, rfl⟩ : ∃ k, j = o + 1 + k := ⟨j - o - 1, by omega⟩
        rw [show o + 1 + k - o = k + 1 by omega, show o + 1 + k - (o + 1) = k by omega]; rfl
      · rw [if_neg h2, if_neg (by simp; omega)]
        simp [Array.getElem?_setIfInBounds_ne (Ne.symm hj)]
theorem setFrom_length : ∀ (ds : List DV) (cs : List DV) (o : Nat), (setFrom cs o ds).length = cs.length
  | [], _, _ => rfl
  | d :: r, cs, o => by rw [setFrom, setFrom_length r]; simp
theorem setFrom_get : ∀ (ds : List DV) (cs : List DV) (o j : Nat), o + ds.length ≤ cs.length → (setFrom cs o ds)[j]? = if o ≤ j ∧ j < o + ds.length then ds[j - o]? else cs[j]?
  | [], a, o, j, _ => by rw [setFrom, if_neg (by simp)]
  | v :: r, a, o, j, h => by
    simp only [List.length_cons] at h
    rw [setFrom, setFrom_get r _ _ _ (by simp; omega)]
    by_cases hj : j = o
    · subst hj
      rw [if_neg (by omega), if_pos (by simp)]
      simp only [Nat.sub_self, List.getElem?_cons_zero]
      first | (rw [Array.getElem?_setIfInBounds_self]; rw [if_pos (by omega)]) | (rw [List.getElem?_set_self (by omega)])
    · by_cases h2 : o + 1 ≤ j ∧ j < o + 1 + r.length
      · rw [if_pos h2, if_pos (by simp; omega)]
        obtain ⟨k, rfl⟩ : ∃ k, j = o + 1 + k := ⟨j - o - 1, by omega⟩
        rw [show o + 1 + k - o = k + 1 by omega, show o + 1 + k - (o + 1) = k by omega]; rfl
      · rw [if_neg h2, if_neg (by simp; omega)]
        simp [List.getElem?_set_ne (Ne.symm hj)]
theorem set_rep {R : DV → Value → Prop} {cs ds : List DV} {vs : Array Value} {us : List Value} {o : Nat} (hl : cs.length ≤ vs.size) (hd : ds.length = us.length) (ho : o + ds.length ≤ cs.length)
    (h1 : ∀ (j : Nat) (c : DV) (v : Value), cs[j]? = some c → vs[j]? = some v → R c v) (h2 : ∀ (j : Nat) (c : DV) (v : Value), ds[j]? = some c → us[j]? = some v → R c v) :
    (setFrom cs o ds).length ≤ (arrSet vs o us).size ∧ (∀ (j : Nat) (c : DV) (v : Value), (setFrom cs o ds)[j]? = some c → (arrSet vs o us)[j]? = some v → R c v) := by
  refine ⟨by rw [setFrom_length, arrSet_size]; exact hl, fun j c v hc hv => ?_⟩
  rw [setFrom_get _ _ _ _ ho] at hc
  rw [arrSet_get _ _ _ _ (by omega)] at hv
  by_cases h : o ≤ j ∧ j < o + ds.length
  · rw [if_pos h] at hc; rw [if_pos (by omega)] at hv; exact h2 _ _ _ hc hv
  · rw [if_neg h] at hc; rw [if_neg (by omega)] at hv; exact h1 _ _ _ hc hv
theorem arrSet_one {vs : Array Value} {us : List Value} {o : Nat} (ho : o + us.length ≤ vs.size) (h1 : ∀ v ∈ vs.toList, v.oneCell' = true) (h2 : ∀ v ∈ us, v.oneCell' = true) :
    ∀ v ∈ (arrSet vs o us).toList, v.oneCell' = true := by
  intro v hv
  obtain ⟨j, hj, rfl⟩ := List.getElem_of_mem hv
  have hj' : j < (arrSet vs o us).size := by simpa using hj
  have : (arrSet vs o us)[j]? = some (arrSet vs o us).toList[j] := by simp [hj']
  rw [arrSet_get _ _ _ _ ho] at this
  split at this
  · exact h2 _ (List.mem_of_getElem? this)
  · exact h1 _ (by obtain ⟨hlt, he⟩ := Array.getElem?_eq_some_iff.1 this; rw [← he]; simp)
theorem setFrom_mem {cs ds : List DV} {o : Nat} (ho : o + ds.length ≤ cs.length) {p : DV → Prop} (h1 : ∀ c ∈ cs, p c) (h2 : ∀ c ∈ ds, p c) : ∀ c ∈ setFrom cs o ds, p c := by
  intro c hc
  obtain ⟨j, hj, rfl⟩ := List.getElem_of_mem hc
  have : (setFrom cs o ds)[j]? = some (setFrom cs o ds)[j] := List.getElem?_eq_getElem hj
  rw [setFrom_get _ _ _ _ ho] at this
  split at this
  · exact h2 _ (List.mem_of_getElem? this)
  · exact h1 _ (List.mem_of_getElem? this)
theorem heap_setCell (w : World) (B o : Nat) (v : Value) (b : Nat) : (w.setCell ⟨B, o, none⟩ v).heap[b]? = if b = B then (w.heap[B]?).map (fun
    | .cells c e f => .cells (c.setIfInBounds o v) e f
    | x => x) else w.heap[b]? := by
  simp only [World.setCell, Array.getElem?_modify]
  by_cases h : B = b
  · subst h; simp only [if_true]; congr 1
  · rw [if_neg h, if_neg (Ne.symm h)]
theorem heap_setCells : ∀ (vs : List Value) (w : World) (B o : Nat) (c : Array Value) (e : TypeId) (f : Nat × Nat), w.heap[B]? = some (.cells c e f) →
    (w.setCells B o vs).heap[B]? = some (.cells (arrSet c o vs) e f) ∧ (∀ b, b ≠ B → (w.setCells B o vs).heap[b]? = w.heap[b]?) ∧ (w.setCells B o vs).heap.size = w.heap.size ∧
      (w.setCells B o vs).os = w.os ∧ (w.setCells B o vs).tape = w.tape ∧ (w.setCells B o vs).output = w.output
  | [], w, B, o, c, e, f, h => ⟨h, fun _ _ => rfl, rfl, rfl, rfl, rfl⟩
  | v :: r, w, B, o, c, e, f, h => by
    have hb : (w.setCell ⟨B, o, none⟩ v).heap[B]? = some (.cells (c.setIfInBounds o v) e f) := by rw [heap_setCell, if_pos rfl, h]; rfl
    obtain ⟨h1, h2, h3, h4, h5, h6⟩ := heap_setCells r (w.setCell ⟨B, o, none⟩ v) B (o + 1) _ e f hb
    refine ⟨h1, fun b hne => ?_, h3.trans (by simp), h4, h5, h6⟩
    rw [World.setCells, h2 b hne, heap_setCell, if_neg hne]
section
variable {P : Program} {gl : Glob} {K : Nat → Prop} {w0 : World} {hl : Nat → Option Ob} {fr : Nat → Prop} {g : Gh} {w : World}
theorem SimH.setObj (hH : SimH gl K w0 hl fr g w) {id : Nat} {o o' : Ob} (hid : hl id = some o) {B : Nat} (hB : Owns g id B o) {w' : World} (hos : w'.os = w.os) (htp : w'.tape = w.tape) (hout : w'.output = w.output) (hsz : w'.heap.size = w.heap.size)
    (hh : ∀ b, b ≠ B → w'.heap[b]? = w.heap[b]?) (hm : ∀ x v, g.m B x = some v → w'.cell? ⟨B, x, none⟩ = some v) (ho : ∀ B', Owns g id B' o' → B' = B) (hr : ORep g w' id o') (hn : o'.nm fun i => ¬ fr i) :
    SimH gl K w0 (fupd hl id o') fr g w' := by
  have hne : ∀ i oi B', i ≠ id → hl i = some oi → Owns g i B' oi → B' ≠ B := fun i oi B' hi h1 h2 he => hi (hH.inj i id oi o B' h1 hid h2 (he ▸ hB))
  exact {
    os := hos.trans hH.os, tape := htp.trans hH.tape, output := hout.trans hH.output, size := by rw [hsz]; exact hH.size
    kept := fun b hb => by
      rw [hh b (fun he => hH.off id o B hid hB (he ▸ hb))]; exact hH.kept b hb
    old := hH.old
    mem := fun b x v h => by
      by_cases hb : b = B
      · subst hb; exact hm x v h
      · have := hH.mem b x v h
        simp only [World.cell?, hh b hb] at this ⊢; exact this
    ids := fun i oi h => by
      unfold fupd at h
      split at h
      · rename_i he; subst he; exact hH.ids _ _ hid
      · exact hH.ids i oi h
    low := hH.low
    obj := fun i oi h => by
      unfold fupd at h
      split at h
      · rename_i he; subst he; obtain rfl := Option.some.inj h; exact hr
      · rename_i he
        exact ORep.mono (GLe.refl K _ g) (hH.ids i oi h) (hH.nm i oi h) rfl (fun B' hB' => ⟨hh B' (hne i oi B' he h hB'), fun _ => rfl⟩) (hH.obj i oi h)
    nm := fun i oi h => by
      unfold fupd at h
      split at h
      · obtain rfl := Option.some.inj h; exact hn
      · exact hH.nm i oi h
    inj := fun i j oi oj B' hi hj h1 h2 => by
      unfold fupd at hi hj
      split at hi <;> split at hj
      · omega
      · rename_i he hj'
        subst he; obtain rfl := Option.some.inj hi
        exact absurd (ho _ h1) (hne j oj B' hj' hj h2)
      · rename_i hi' he
        subst he; obtain rfl := Option.some.inj hj
        exact absurd (ho _ h2) (hne i oi B' hi' hi h1)
      · exact hH.inj i j oi oj B' hi hj h1 h2
    off := fun i oi B' hi h1 hK => by
      unfold fupd at hi
      split at hi
      · rename_i he; subst he; obtain rfl := Option.some.inj hi
        rw [ho _ h1] at hK; exact hH.off _ _ _ hid hB hK
      · exact hH.off i oi B' hi h1 hK
    glo := hH.glo }
theorem store_sound (hH : SimH gl K w0 hl fr g w) {id off n : Nat} {cs : List DV} (hob : hl id = some (.box cs)) {v u : Value} (hv : DRep g (.ptr id off) v) {d : DV} (hu : DRep g d u) (hnm : d.nm fun i => ¬ fr i)
    (h0 : 0 < n) (hlen : (dcells d).length = n) (hoff : off + n ≤ cs.length) {t : TypeId} (ht : (P.info? t).map (·.size) = some n) :
    ∃ w', (Instr.storeAt t v u).run P w = .ok () w' ∧ SimH gl K w0 (fupd hl id (.box (setFrom cs off (dcells d)))) fr g w' := by
  cases hv with
  | ptr hμ =>
    rename_i B
    obtain ⟨B', vs, e, h1, h2, h3, h4, h5, h6⟩ := hH.obj _ _ hob
    rw [hμ] at h1; obtain rfl := Option.some.inj h1
    obtain ⟨k1, k2, k3, k4⟩ := dcells_sound hu (by omega) hnm
    have hsz : u.cells.size = n := by rw [← k1, hlen]
    have hcell : ∀ j, j < u.cells.toList.length → (w.cell? ⟨B, off + 0 + j, none⟩).isSome = true := fun j hj => by
      rw [cell_of_heap h2]; simp at hj ⊢; omega
    have hrun : (Instr.storeAt t (.pointer (some ⟨B, off, none⟩)) u).run P w = .ok () (w.setCells B off u.cells.toList) := by
      have := run_storeCells_cells (P := P) B off u.cells.toList 0 w hcell (fun j _ => frozen_of_heap h2 _) k2
      obtain ⟨inf, hi, hs⟩ := Option.map_eq_some_iff.1 ht
      simp only [Nat.add_zero] at this
      simp [Instr.storeAt, Instr.sureAddr, storeVar, sizeOf, typeInfo, hi, hs, hsz, this]
    obtain ⟨a1, a2, a3, a4, a5, a6⟩ := heap_setCells u.cells.toList w B off vs e (0, 0) h2
    have hset := set_rep (R := DRep g) (ds := dcells d) (us := u.cells.toList) (o := off) h3 (by simpa using k1) (by omega) h5 (fun j c v hc hv => k3 j c v hc (by simpa using hv))
    refine ⟨_, hrun, hH.setObj hob (B := B) hμ a4 a5 a6 a3 a2 (fun x v hx => by rw [h6 x] at hx; cases hx) (fun B' hB' => by simp only [Owns] at hB'; rw [hμ] at hB'; exact (Option.some.inj hB').symm) ?_ ?_⟩
    · exact ⟨B, _, e, hμ, a1, hset.1, arrSet_one (by simp; omega) h4 k2, hset.2, h6⟩
    · exact setFrom_mem (by omega) (hH.nm _ _ hob) k4
end
end Go.Proofs.YthocoandbiaoiaaDoorV

namespace Go.Proofs.YthocoandbiaoiaaDoorV
open Go
section
variable {P : Program} {gl : Glob} {K : Nat → Prop} {w0 : World} {hl : Nat → Option Ob} {fr : Nat → Prop} {g : Gh} {w : World}
theorem run_append_none (t ty e : TypeId) (i : TypeInfo) (ht : P.underlying t = some (.slice e)) (hi : P.info? e = some i) (A X : Option Addr) (n c c' : Nat) (hn : n ≤ c) :
    (Builtin.append_ #[t, t] ty #[.slice A n c, .slice X 0 c']).run P w = .ok (.slice A n c) w := by
  cases A <;> cases X <;> simp [Builtin.append_, run_underlying ht, sizeOf, typeInfo, hi, Builtin.lenOf, hn, Builtin.firstCells, loadCells, loadCellsFrom, storeCells]
theorem PRep.joined {m m' : Mem} {sz : Nat} {xs ys : List PV} {A X : Option Addr} {n c k c' : Nat} (hm : MemLe m m') (hx : PRep m (.lst sz xs) (.slice A n c)) (hy : PRep m (.lst sz ys) (.slice X k c'))
    {B c'' : Nat} (hc : n + k ≤ c'') (hmx : c'' ≤ maxLen)
    (hcells : ∀ olds news : List Value, olds.length = n * sz → news.length = k * sz →
      (∀ (j : Nat) (u : PV) (v : Value), (flat xs)[j]? = some u → olds[j]? = some v → PRep m u v) → (∀ (j : Nat) (u : PV) (v : Value), (flat ys)[j]? = some u → news[j]? = some v → PRep m u v) →
      (xs = [] ∨ ∃ B o, A = some ⟨B, o, none⟩ ∧ ∀ (j : Nat) (v : Value), olds[j]? = some v → m B (o + j) = some v) →
      (ys = [] ∨ ∃ B o, X = some ⟨B, o, none⟩ ∧ ∀ (j : Nat) (v : Value), news[j]? = some v → m B (o + j) = some v) →
      ∀ (j : Nat) (v : Value), (olds ++ news)[j]? = some v → m' B j = some v) :
    PRep m' (.lst sz (xs ++ ys)) (.slice (some ⟨B, 0, none⟩) (n + k) c'') := by
  cases hx with
  | lst olds hn hnc hmx1 hz hs ho hl hcx ha =>
    cases hy with
    | lst news hk hkc hmx2 _ hs' ho' hl' hcy ha' =>
      have e1 : olds.length = n * sz := by rw [hl, flat_length hs, hn]
      have e2 : news.length = k * sz := by rw [hl', flat_length hs', hk]
      refine .lst (olds ++ news) (by simp [hn, hk]) hc hmx hz ?_ ?_ ?_ ?_ (.inr ⟨B, 0, rfl, fun j v hv => ?_⟩)
      · intro x hx; rcases List.mem_append.1 hx with h | h
        · exact hs x h
        · exact hs' x h
      · intro c hc'; rw [flat_append] at hc'; rcases List.mem_append.1 hc' with h | h
        · exact ho c h
        · exact ho' c h
      · rw [flat_append]; simp [hl, hl']
      · intro j u v hu hv
        rw [flat_append] at hu
        rcases Nat.lt_or_ge j (flat xs).length with hj | hj
        · rw [List.getElem?_append_left hj] at hu
          rw [List.getElem?_append_left (by omega)] at hv
          exact (hcx j u v hu hv).mono hm
        · rw [List.getElem?_append_right hj] at hu
          rw [List.getElem?_append_right (by omega), hl] at hv
          exact (hcy _ u v hu hv).mono hm
      · rw [Nat.zero_add]
        exact hcells olds news e1 e2 hcx hcy ha ha' j v hv
theorem PRep.vals {m : Mem} {sz : Nat} {xs : List PV} {A : Option Addr} {n c : Nat} (h : PRep m (.lst sz xs) (.slice A n c)) :
    ∃ vs : List Value, vs.length = n * sz ∧ xs.length = n ∧ n ≤ c ∧ c ≤ maxLen ∧ 0 < sz ∧ (∀ v ∈ vs, v.oneCell' = true) ∧
      (∀ (j : Nat) (u : PV) (v : Value), (flat xs)[j]? = some u → vs[j]? = some v → PRep m u v) ∧ (flat xs).length = n * sz ∧
      (xs = [] ∨ ∃ B o, A = some ⟨B, o, none⟩ ∧ ∀ (j : Nat) (v : Value), vs[j]? = some v → m B (o + j) = some v) := by
  cases h with
  | lst vs hn hnc hm hz hs ho hl hc ha =>
    refine ⟨vs, by rw [hl, flat_length hs, hn], hn, hnc, hm, hz, fun v hv => ?_, hc, by rw [flat_length hs, hn], ha⟩
    obtain ⟨j, hj, rfl⟩ := List.getElem_of_mem hv
    have hlt : j < (flat xs).length := by omega
    exact (hc j _ _ (List.getElem?_eq_getElem hlt) (List.getElem?_eq_getElem hj)).oneCell' (ho _ (List.getElem_mem hlt))
theorem PRep.ofVals {m m' : Mem} (hm : MemLe m m') {sz : Nat} {xs ys : List PV} {A X : Option Addr} {n c k c' : Nat} (hx : PRep m (.lst sz xs) (.slice A n c)) (hy : PRep m (.lst sz ys) (.slice X k c'))
    {olds news : List Value} (h1 : olds.length = n * sz) (h2 : news.length = k * sz)
    (h3 : ∀ (j : Nat) (u : PV) (v : Value), (flat xs)[j]? = some u → olds[j]? = some v → PRep m u v) (h4 : ∀ (j : Nat) (u : PV) (v : Value), (flat ys)[j]? = some u → news[j]? = some v → PRep m u v)
    {B c'' : Nat} (hc : n + k ≤ c'') (hmx : c'' ≤ maxLen) (hcells : ∀ (j : Nat) (v : Value), (olds ++ news)[j]? = some v → m' B j = some v) :
    PRep m' (.lst sz (xs ++ ys)) (.slice (some ⟨B, 0, none⟩) (n + k) c'') := by
  obtain ⟨A', n', cc, hA, vs, hn, _, _, hz, hs, ho, _, _, _⟩ := hx.lst_inv
  obtain ⟨X', k', cc', hX, vs', hk, _, _, _, hs', ho', _, _, _⟩ := hy.lst_inv
  simp only [Value.slice.injEq] at hA hX
  obtain ⟨_, rfl, _⟩ := hA
  obtain ⟨_, rfl, _⟩ := hX
  have l1 : (flat xs).length = n * sz := by rw [flat_length hs, hn]
  have l2 : (flat ys).length = k * sz := by rw [flat_length hs', hk]
  refine .lst (olds ++ news) (by simp [hn, hk]) hc hmx hz ?_ ?_ ?_ ?_ (.inr ⟨B, 0, rfl, fun j v hv => by rw [Nat.zero_add]; exact hcells j v hv⟩)
  · intro x hx; rcases List.mem_append.1 hx with h | h
    · exact hs x h
    · exact hs' x h
  · intro c hc'; rw [flat_append] at hc'; rcases List.mem_append.1 hc' with h | h
    · exact ho c h
    · exact ho' c h
  · rw [flat_append]; simp [h1, h2, l1, l2]
  · intro j u v hu hv
    rw [flat_append] at hu
    rcases Nat.lt_or_ge j (flat xs).length with hj | hj
    · rw [List.getElem?_append_left hj] at hu
      rw [List.getElem?_append_left (by omega)] at hv
      exact (h3 j u v hu hv).mono hm
    · rw [List.getElem?_append_right hj] at hu
      rw [List.getElem?_append_right (by omega), h1] at hv
      rw [l1] at hu
      exact (h4 _ u v hu hv).mono hm
theorem SimH.setTip (hH : SimH gl K w0 hl fr g w) {id : Nat} {sz n : Nat} {v : Value} (hid : (fr id) ∨ ∃ n0, hl id = some (.tip sz n0) ∧ (∀ k, n0 < k → g.τ id k = none) ∧ (n0 < n ∨ g.τ id n = some v))
    {w' : World} {m' : Mem} (hm : MemLe g.m m') (hfix : ∀ b, K b → ∀ o, m' b o = g.m b o) (hos : w'.os = w.os) (htp : w'.tape = w.tape) (hout : w'.output = w.output) (hsz : w.heap.size ≤ w'.heap.size)
    (hh : ∀ b, b < w.heap.size → (∀ o, hl id = some o → ¬ Owns g id b o) → w'.heap[b]? = w.heap[b]?)
    (hmm : ∀ b o u, m' b o = some u → w'.cell? ⟨b, o, none⟩ = some u)
    (hmo : ∀ b, b < w.heap.size → (∀ o, hl id = some o → ¬ Owns g id b o) → ∀ x, m' b x = g.m b x)
    (hnew : ∀ B, Owns { g with m := m', τ := fun i k => if i = id ∧ k = n then some v else g.τ i k } id B (.tip sz n) → w.heap.size ≤ B ∨ ∃ o, hl id = some o ∧ Owns g id B o)
    (hr : ORep { g with m := m', τ := fun i k => if i = id ∧ k = n then some v else g.τ i k } w' id (.tip sz n)) :
    SimH gl K w0 (fupd hl id (.tip sz n)) (fun i => fr i ∧ i ≠ id) { g with m := m', τ := fun i k => if i = id ∧ k = n then some v else g.τ i k } w' ∧
      GLe K (fun i => ¬ fr i) g { g with m := m', τ := fun i k => if i = id ∧ k = n then some v else g.τ i k } := by
  have hτ : ∀ i, i ≠ id → ({ g with m := m', τ := fun i k => if i = id ∧ k = n then some v else g.τ i k } : Gh).τ i = g.τ i := by
    intro i hi; funext k; simp [hi]
  have hg : GLe K (fun i => ¬ fr i) g { g with m := m', τ := fun i k => if i = id ∧ k = n then some v else g.τ i k } := by
    refine ⟨hm, hfix, fun _ _ => rfl, fun i hi k u hu => ?_⟩
    simp only
    split
    · rename_i he
      obtain ⟨rfl, rfl⟩ := he
      rcases hid with hid | ⟨n0, _, h1, h2⟩
      · exact absurd hid hi
      · rcases h2 with h2 | h2
        · rw [h1 _ h2] at hu; cases hu
        · rw [h2] at hu; exact hu
    · exact hu
  have hown : ∀ i oi B', i ≠ id → Owns { g with m := m', τ := fun i k => if i = id ∧ k = n then some v else g.τ i k } i B' oi → Owns g i B' oi := by
    intro i oi B' hi h
    cases oi <;> simp only [Owns, hi, false_and, if_false] at h ⊢ <;> exact h
  have hnfr : ∀ i oi, i ≠ id → hl i = some oi → ¬ (fr i ∧ i ≠ id) := fun i oi hi h hf => hH.ids i oi h hf.1
  have hlt : ∀ i oi B', hl i = some oi → Owns g i B' oi → B' < w.heap.size := fun i oi B' hi h => ((hH.obj i oi hi).owns h).1
  have hsep : ∀ i oi B', i ≠ id → hl i = some oi → Owns g i B' oi → ∀ o, hl id = some o → ¬ Owns g id B' o := fun i oi B' hi h1 h2 o ho h3 => hi (hH.inj i id oi o B' h1 ho h2 h3)
  refine ⟨?_, hg⟩
  exact {
    os := hos.trans hH.os, tape := htp.trans hH.tape, output := hout.trans hH.output, size := Nat.le_trans hH.size hsz
    kept := fun b hb => by
      have hb' := Nat.lt_of_lt_of_le (hH.old b hb) hH.size
      rw [hh b hb' fun o ho h => hH.off id o b ho h hb]; exact hH.kept b hb
    old := hH.old
    mem := hmm
    ids := fun i oi h => by
      unfold fupd at h
      split at h
      · rename_i he; rintro ⟨_, h2⟩; exact h2 he
      · rename_i he; exact hnfr i oi he h
    low := fun i ⟨h1, h2⟩ => ⟨(hH.low i h1).1, fun k => by simp only [h2, false_and, if_false]; exact (hH.low i h1).2 k⟩
    obj := fun i oi h => by
      unfold fupd at h
      split at h
      · rename_i he; subst he; obtain rfl := Option.some.inj h; exact hr
      · rename_i he
        refine ORep.mono hg (hH.ids i oi h) (hH.nm i oi h) (hτ i he) (fun B' hB' => ?_) (hH.obj i oi h)
        have h1 := hlt i oi B' h hB'
        have h2 := hsep i oi B' he h hB'
        exact ⟨hh B' h1 h2, hmo B' h1 h2⟩
    nm := fun i oi h => by
      have himp : ∀ j, ¬ fr j → ¬ (fr j ∧ j ≠ id) := fun j hj h => hj h.1
      unfold fupd at h
      split at h
      · obtain rfl := Option.some.inj h; trivial
      · have := hH.nm i oi h
        cases oi with
        | box cs => exact fun c hc => DV.nm_mono himp c (this c hc)
        | tip => trivial
        | mp es => exact fun x hx => DV.nm_mono himp x.2 (this x hx)
        | lrec l r st e => exact fun i d hi => DV.nm_mono himp d (this i d hi)
    inj := fun i j oi oj B' hi hj h1 h2 => by
      unfold fupd at hi hj
      split at hi <;> split at hj
      · omega
      · rename_i he hj'
        subst he; obtain rfl := Option.some.inj hi
        have h3 := hown j oj B' hj' h2
        rcases hnew B' h1 with h | ⟨o, ho, h⟩
        · have := hlt j oj B' hj h3; omega
        · exact absurd h (hsep j oj B' hj' hj h3 o ho)
      · rename_i hi' he
        subst he; obtain rfl := Option.some.inj hj
        have h3 := hown i oi B' hi' h1
        rcases hnew B' h2 with h | ⟨o, ho, h⟩
        · have := hlt i oi B' hi h3; omega
        · exact absurd h (hsep i oi B' hi' hi h3 o ho)
      · rename_i hi' hj'
        exact hH.inj i j oi oj B' hi hj (hown i oi B' hi' h1) (hown j oj B' hj' h2)
    off := fun i oi B' hi h1 hK => by
      unfold fupd at hi
      split at hi
      · rename_i he; subst he; obtain rfl := Option.some.inj hi
        rcases hnew B' h1 with h | ⟨o, ho, h⟩
        · have := hH.old _ hK; have := hH.size; omega
        · exact hH.off _ o B' ho h hK
      · rename_i he
        exact hH.off i oi B' hi (hown i oi B' he h1) hK
    glo := fun b cs hb j c hj => by
      obtain ⟨h1, v, h2, h3⟩ := hH.glo b cs hb j c hj
      exact ⟨h1, v, hm _ _ _ h2, h3.mono hm⟩ }
structure AppTy (P : Program) (t e sz bytes : Nat) : Prop where
  ht : P.underlying t = some (.slice e)
  info : ∃ i z, P.info? e = some i ∧ i.size = sz ∧ i.bytes = bytes ∧ i.zero = some z ∧ z.cells.size = sz ∧ ∀ v ∈ z.cells.toList, v.oneCell' = true
theorem zeroCells_one {z : Array Value} (hz : ∀ v ∈ z.toList, v.oneCell' = true) (n : Nat) : ∀ v ∈ (Builtin.zeroCells z n).toList, v.oneCell' = true := by
  intro v hv
  simp only [Builtin.zeroCells, Array.toList_map, Array.toList_range, List.mem_map, List.mem_range] at hv
  obtain ⟨i, hi, rfl⟩ := hv
  have hpos : 0 < z.size := by
    rcases Nat.eq_zero_or_pos z.size with h | h
    · rw [h] at hi; simp at hi
    · exact h
  have hlt : i % z.size < z.size := Nat.mod_lt _ hpos
  rw [getElem!_pos z _ hlt]
  exact hz _ (by simp)
theorem app_new (hH : SimH gl K w0 hl fr g w) {id sz : Nat} (hsz : 0 < sz) {xs ys : List PV} {A X : Option Addr} {n c k c' : Nat} (hx : PRep g.m (.lst sz xs) (.slice A n c)) (hy : PRep g.m (.lst sz ys) (.slice X k c'))
    {olds news : List Value} (h1 : olds.length = n * sz) (h2 : news.length = k * sz) (ho1 : ∀ v ∈ olds, v.oneCell' = true) (ho2 : ∀ v ∈ news, v.oneCell' = true)
    (h3 : ∀ (j : Nat) (u : PV) (v : Value), (flat xs)[j]? = some u → olds[j]? = some v → PRep g.m u v) (h4 : ∀ (j : Nat) (u : PV) (v : Value), (flat ys)[j]? = some u → news[j]? = some v → PRep g.m u v)
    (hk : 0 < k) (hid : fr id ∨ ∃ n0, hl id = some (.tip sz n0) ∧ (∀ j, n0 < j → g.τ id j = none) ∧ n0 = n)
    {cap e : Nat} (hc : n + k ≤ cap) (hmx : cap ≤ maxLen) {z : Array Value} (hz : ∀ v ∈ z.toList, v.oneCell' = true) (hzs : z.size = sz) :
    ∃ g', SimH gl K w0 (fupd hl id (.tip sz (n + k))) (fun i => fr i ∧ i ≠ id) g' (w.drew.alloc (.cells (olds.toArray ++ news.toArray ++ Builtin.zeroCells z (cap - (n + k))) e)) ∧
      GLe K (fun i => ¬ fr i) g g' ∧ DRep g' (.own id sz (xs ++ ys)) (.slice (some ⟨w.heap.size, 0, none⟩) (n + k) cap) := by
  let cells : Array Value := olds.toArray ++ news.toArray ++ Builtin.zeroCells z (cap - (n + k))
  have hcs : cells.size = cap * sz := by
    simp only [cells, Array.size_append, List.size_toArray, size_zeroCells, hzs, h1, h2, ← Nat.add_mul]; congr 1; omega
  have hcg : ∀ j, j < (n + k) * sz → cells[j]? = (olds ++ news)[j]? := by
    intro j hj
    have : j < (olds.toArray ++ news.toArray).size := by simp [h1, h2, ← Nat.add_mul]; exact hj
    simp only [cells]
    rw [Array.getElem?_append_left this]
    simp
  let m' : Mem := fun b o => if b = w.heap.size then (if o < (n + k) * sz then cells[o]? else none) else g.m b o
  have hm : MemLe g.m m' := by
    intro b o v h
    have := hH.memlt h
    simp only [m']; rw [if_neg (by omega)]; exact h
  have hfix : ∀ b, K b → ∀ o, m' b o = g.m b o := fun b hb o => by
    simp only [m']; rw [if_neg]; have := hH.old b hb; have := hH.size; omega
  have hone : ∀ v ∈ cells.toList, v.oneCell' = true := by
    intro v hv
    simp only [cells, Array.toList_append, List.mem_append] at hv
    rcases hv with (hv | hv) | hv
    · exact ho1 v (by simpa using hv)
    · exact ho2 v (by simpa using hv)
    · exact zeroCells_one hz _ v hv
  have hlens : xs.length = n ∧ ys.length = k := by
    obtain ⟨_, _, _, hA, _, hn, _⟩ := hx.lst_inv
    obtain ⟨_, _, _, hX, _, hk, _⟩ := hy.lst_inv
    simp only [Value.slice.injEq] at hA hX
    exact ⟨by omega, by omega⟩
  have hW : ∀ b, b < w.heap.size → (w.drew.alloc (.cells cells e)).heap[b]? = w.heap[b]? := fun b hb => by
    rw [heap_alloc, if_neg (by simp; omega)]; rfl
  have hnk : 0 < (n + k) * sz := Nat.mul_pos (by omega) hsz
  have key := hH.setTip (id := id) (sz := sz) (n := n + k) (v := .slice (some ⟨w.heap.size, 0, none⟩) (n + k) cap) (w' := w.drew.alloc (.cells cells e)) (m' := m')
    (by
      rcases hid with h | ⟨n0, h5, h6, h7⟩
      · exact .inl h
      · exact .inr ⟨n0, h5, h6, .inl (by omega)⟩) hm hfix rfl rfl rfl (by simp) (fun b hb _ => hW b hb)
    (fun b o u h => by
      simp only [m'] at h
      split at h
      · rename_i hb; subst hb
        split at h
        · simp only [World.cell?]
          rw [heap_alloc, if_pos (by simp)]
          exact h
        · cases h
      · have := hH.mem b o u h
        have hb := hH.memlt h
        simp only [World.cell?, hW b hb] at this ⊢; exact this)
    (fun b hb _ x => by simp only [m']; rw [if_neg (by omega)])
    (fun B hB => by
      simp only [Owns, and_self, if_true] at hB
      obtain ⟨c1, hc1, _⟩ := hB
      simp only [Option.some.injEq, Value.slice.injEq, Addr.mk.injEq] at hc1
      omega)
    (by
      have hτ : ∀ j, n + k < j → (if id = id ∧ j = n + k then some (Value.slice (some ⟨w.heap.size, 0, none⟩) (n + k) cap) else g.τ id j) = none := by
        intro j hj
        rw [if_neg (by omega)]
        rcases hid with h | ⟨n0, _, h6, h7⟩
        · exact (hH.low id h).2 j
        · exact h6 j (by omega)
      by_cases hfull : n + k = cap
      · exact .inl ⟨some ⟨w.heap.size, 0, none⟩, by simp [hfull], hτ⟩
      · refine .inr ⟨w.heap.size, cells, e, cap, by simp, by omega, by rw [heap_alloc, if_pos (by simp)], hcs, hmx, hone, fun o ho => ?_, hτ⟩
        simp only [m', if_true]; rw [if_neg (by omega)])
  refine ⟨_, key.1, key.2, .own ?_ (by simp [hlens])⟩
  refine PRep.ofVals hm hx hy h1 h2 h3 h4 hc hmx (fun j v hv => ?_)
  have hj : j < (n + k) * sz := by
    have := (List.getElem?_eq_some_iff.1 hv).1
    simp [h1, h2, ← Nat.add_mul] at this; exact this
  simp only [m', if_true, hj]
  rw [hcg j hj]; exact hv
end
end Go.Proofs.YthocoandbiaoiaaDoorV

namespace Go.Proofs.YthocoandbiaoiaaDoorV
open Go
section
variable {P : Program} {gl : Glob} {K : Nat → Prop} {w0 : World} {hl : Nat → Option Ob} {fr : Nat → Prop} {g : Gh} {w : World}
theorem addr_add (B o j : Nat) : (⟨B, o, none⟩ : Addr).add j = ⟨B, o + j, none⟩ := Addr.add_mid B o j
theorem app_full (hH : SimH gl K w0 hl fr g w) {t ty e sz bytes : Nat} (hT : AppTy P t e sz bytes) {id : Nat} {xs ys : List PV} {A : Option Addr} {n : Nat} {vy : Value}
    (hx : PRep g.m (.lst sz xs) (.slice A n n)) (hA : A = none → n = 0) (hy : PRep g.m (.lst sz ys) vy)
    (hid : fr id ∨ ∃ n0, hl id = some (.tip sz n0) ∧ (∀ j, n0 < j → g.τ id j = none) ∧ n0 = n ∧ g.τ id n = some (.slice A n n))
    (hb : (xs.length + ys.length) * bytes ≤ 140737488355328) (hn0 : xs.length + ys.length ≤ 9223372036854775807) :
    ∃ v' w' g', (Builtin.append_ #[t, t] ty #[.slice A n n, vy]).run P w = .ok v' w' ∧ SimH gl K w0 (fupd hl id (.tip sz (xs.length + ys.length))) (fun i => fr i ∧ i ≠ id) g' w' ∧
      GLe K (fun i => ¬ fr i) g g' ∧ DRep g' (.own id sz (xs ++ ys)) v' := by
  obtain ⟨ht, i, z, hi, hs, hby, hz, hzs, hz1⟩ := hT
  obtain ⟨X, k, c', rfl, _⟩ := hy.lst_inv
  obtain ⟨olds, l1, hn, _, hmx, hsz, o1, h3, _, a1⟩ := hx.vals
  obtain ⟨news, l2, hk, _, _, _, o2, h4, _, a2⟩ := hy.vals
  subst hs; subst hby
  rw [hn, hk] at hb hn0 ⊢
  have memcell : ∀ (l : List Value) (B o : Nat), (∀ (j : Nat) (v : Value), l[j]? = some v → g.m B (o + j) = some v) → ∀ j v, l[j]? = some v → w.cell? ((⟨B, o, none⟩ : Addr).add j) = some v := by
    intro l B o h j v hv
    rw [addr_add]; exact hH.mem _ _ _ (h j v hv)
  by_cases hk0 : k = 0
  · subst hk0
    have hys : ys = [] := List.eq_nil_of_length_eq_zero hk
    subst hys
    rw [List.append_nil, Nat.add_zero]
    have hrun := run_append_none (P := P) (w := w) t ty e i ht hi A X n n c' (Nat.le_refl _)
    have key := hH.setTip (id := id) (sz := i.size) (n := n) (v := .slice A n n) (w' := w) (m' := g.m)
      (by
        rcases hid with h | ⟨n0, h5, h6, h7, h8⟩
        · exact .inl h
        · exact .inr ⟨n0, h5, h6, .inr h8⟩) (MemLe.refl _) (fun _ _ _ => rfl) rfl rfl rfl (Nat.le_refl _) (fun _ _ _ => rfl) hH.mem (fun _ _ _ _ => rfl)
      (fun B hB => by
        simp only [Owns, and_self, if_true, Option.some.injEq, Value.slice.injEq] at hB
        obtain ⟨c1, hc1, hlt⟩ := hB; omega)
      (.inl ⟨A, by simp, fun j hj => by
        show (if id = id ∧ j = n then some (Value.slice A n n) else g.τ id j) = none
        rw [if_neg (by omega)]
        rcases hid with h | ⟨n0, _, h6, h7, _⟩
        · exact (hH.low id h).2 j
        · exact h6 j (by omega)⟩)
    exact ⟨_, _, _, hrun, key.1, key.2, .own hx (by simp [hn])⟩
  · have hpos : 0 < k := Nat.pos_of_ne_zero hk0
    have hid' : fr id ∨ ∃ n0, hl id = some (.tip i.size n0) ∧ (∀ j, n0 < j → g.τ id j = none) ∧ n0 = n := by
      rcases hid with h | ⟨n0, h5, h6, h7, _⟩
      · exact .inl h
      · exact .inr ⟨n0, h5, h6, h7⟩
    obtain ⟨BX, oX, rfl, hX⟩ : ∃ BX oX, X = some ⟨BX, oX, none⟩ ∧ ∀ (j : Nat) (v : Value), news[j]? = some v → g.m BX (oX + j) = some v := by
      rcases a2 with rfl | h
      · simp at hk; omega
      · exact h
    have hfits := growslice_fits (need := n + k) (old := n) (bytes := i.bytes) (by omega) hb
    rcases A with _ | A
    · have hn' : n = 0 := hA rfl
      subst hn'
      have hrun := run_append_nil (P := P) w t ty e i z ht hi hz ⟨BX, oX, none⟩ k c' news l2 (memcell news BX oX hX) hpos (by omega) (by rw [Nat.zero_add] at hb; omega)
      have hge := grownCap_ge w k 0 e
      have hcm : grownCap w k 0 e ≤ maxLen := grownCap_le_maxLen w k 0 e (by unfold maxLen; omega)
      have holds : olds = [] := List.eq_nil_of_length_eq_zero (by simpa using l1)
      subst holds
      obtain ⟨g', h5, h6, h7⟩ := app_new hH hsz hx hy l1 l2 o1 o2 h3 h4 hpos hid' (cap := grownCap w k 0 e) (e := e) (by omega) hcm hz1 hzs
      have hnil : ([] : List Value).toArray ++ news.toArray = news.toArray := by simp
      simp only [Nat.zero_add, hnil] at h5 h6 h7 ⊢
      exact ⟨_, _, g', hrun, h5, h6, h7⟩
    · have hold : ∀ j v, olds[j]? = some v → w.cell? (A.add j) = some v := by
        rcases a1 with rfl | ⟨B, o, hA', hv⟩
        · have : olds = [] := List.eq_nil_of_length_eq_zero (by simp at hn; rw [l1]; simp [← hn])
          subst this; simp
        · obtain rfl := Option.some.inj hA'
          exact memcell olds B o hv
      have hrun := run_append_grow (P := P) w t ty e i z ht hi hz A n n olds l1 hold ⟨BX, oX, none⟩ k c' news l2 (memcell news BX oX hX) (by omega) (by omega) hfits
      have hge := grownCap_ge w (n + k) n e
      have hcm : grownCap w (n + k) n e ≤ maxLen := grownCap_le_maxLen w (n + k) n e (by unfold maxLen; omega)
      obtain ⟨g', h5, h6, h7⟩ := app_new hH hsz hx hy l1 l2 o1 o2 h3 h4 hpos hid' (cap := grownCap w (n + k) n e) (e := e) hge hcm hz1 hzs
      exact ⟨_, _, g', hrun, h5, h6, h7⟩
theorem app_own (hH : SimH gl K w0 hl fr g w) {t ty e sz bytes : Nat} (hT : AppTy P t e sz bytes) {id : Nat} {xs ys : List PV} {vx vy : Value}
    (hx : DRep g (.own id sz xs) vx) (hob : hl id = some (.tip sz xs.length)) (hy : PRep g.m (.lst sz ys) vy)
    (hb : (xs.length + ys.length) * bytes ≤ 140737488355328) (hn0 : xs.length + ys.length ≤ 9223372036854775807) :
    ∃ v' w' g', (Builtin.append_ #[t, t] ty #[vx, vy]).run P w = .ok v' w' ∧ SimH gl K w0 (fupd hl id (.tip sz (xs.length + ys.length))) (fun i => fr i ∧ i ≠ id) g' w' ∧
      GLe K (fun i => ¬ fr i) g g' ∧ DRep g' (.own id sz (xs ++ ys)) v' := by
  cases hx with
  | own hx hτ =>
    rcases hH.obj _ _ hob with ⟨A, h1, h2⟩ | ⟨B, vs, e', c, h1, hlt, hh, hcs, hcm, hone, hmn, hτn⟩
    · rw [h1] at hτ; obtain rfl := Option.some.inj hτ
      refine app_full hH hT hx (fun hA => ?_) hy (.inr ⟨xs.length, hob, h2, rfl, h1⟩) hb hn0
      subst hA
      obtain ⟨olds, l1, hn, _, _, hsz, _, _, _, a1⟩ := hx.vals
      rcases a1 with h | ⟨B, o, hA, _⟩
      · rw [h]; rfl
      · cases hA
    · rw [h1] at hτ; obtain rfl := Option.some.inj hτ
      obtain ⟨ht, i, z, hi, hs, hby, hz, hzs, hz1⟩ := hT
      obtain ⟨X, k, c', rfl, _⟩ := hy.lst_inv
      obtain ⟨olds, l1, hn, _, hmx, hsz, o1, h3, _, a1⟩ := hx.vals
      obtain ⟨news, l2, hk, _, _, _, o2, h4, _, a2⟩ := hy.vals
      subst hs; subst hby
      rw [hk] at hb hn0 ⊢
      have memcell : ∀ (l : List Value) (B o : Nat), (∀ (j : Nat) (v : Value), l[j]? = some v → g.m B (o + j) = some v) → ∀ j v, l[j]? = some v → w.cell? ((⟨B, o, none⟩ : Addr).add j) = some v := by
        intro l B o h j v hv
        rw [addr_add]; exact hH.mem _ _ _ (h j v hv)
      by_cases hk0 : k = 0
      · subst hk0
        have hys : ys = [] := List.eq_nil_of_length_eq_zero hk
        subst hys
        rw [List.append_nil, Nat.add_zero]
        have hrun := run_append_none (P := P) (w := w) t ty e i ht hi (some ⟨B, 0, none⟩) X xs.length c c' (by omega)
        have key := hH.setTip (id := id) (sz := i.size) (n := xs.length) (v := .slice (some ⟨B, 0, none⟩) xs.length c) (w' := w) (m' := g.m)
          (.inr ⟨xs.length, hob, hτn, .inr h1⟩) (MemLe.refl _) (fun _ _ _ => rfl) rfl rfl rfl (Nat.le_refl _) (fun _ _ _ => rfl) hH.mem (fun _ _ _ _ => rfl)
          (fun B' hB => by
            simp only [Owns, and_self, if_true, Option.some.injEq, Value.slice.injEq, Addr.mk.injEq] at hB
            obtain ⟨c1, ⟨⟨rfl, _⟩, _, rfl⟩, hlt'⟩ := hB
            exact .inr ⟨_, hob, _, h1, hlt'⟩)
          (.inr ⟨B, vs, e', c, by simp, hlt, hh, hcs, hcm, hone, hmn, fun j hj => by
            show (if id = id ∧ j = xs.length then some (Value.slice (some ⟨B, 0, none⟩) xs.length c) else g.τ id j) = none
            rw [if_neg (by omega)]; exact hτn j hj⟩)
        exact ⟨_, _, _, hrun, key.1, key.2, .own hx (by simp)⟩
      · have hpos : 0 < k := Nat.pos_of_ne_zero hk0
        obtain ⟨BX, oX, rfl, hX⟩ : ∃ BX oX, X = some ⟨BX, oX, none⟩ ∧ ∀ (j : Nat) (v : Value), news[j]? = some v → g.m BX (oX + j) = some v := by
          rcases a2 with rfl | h
          · simp at hk; omega
          · exact h
        have hold : ∀ (j : Nat) (v : Value), olds[j]? = some v → g.m B (0 + j) = some v := by
          rcases a1 with rfl | ⟨B', o, hA', hv⟩
          · have : olds = [] := List.eq_nil_of_length_eq_zero (by rw [l1]; simp)
            subst this; simp
          · simp only [Option.some.injEq, Addr.mk.injEq] at hA'
            obtain ⟨rfl, rfl, _⟩ := hA'
            exact hv
        by_cases hroom : xs.length + k ≤ c
        · -- in place
          have hB : Owns g id B (.tip i.size xs.length) := ⟨c, h1, hlt⟩
          have hBlt := (Array.getElem?_eq_some_iff.1 hh).1
          have he' : e' = e ∨ True := .inr trivial
          have hfit : xs.length * i.size + news.length ≤ vs.size := by rw [l2, hcs, ← Nat.add_mul]; exact Nat.mul_le_mul_right _ hroom
          have hst := run_storeCells_cells (P := P) B (xs.length * i.size) news 0 w (fun j hj => by
              rw [cell_of_heap hh]; simp at hj ⊢; omega) (fun j _ => frozen_of_heap hh _) o2
          have hf := run_firstCells_some (P := P) w i.size k ⟨BX, oX, none⟩ k c' news l2 (memcell news BX oX hX)
          have hadd : (⟨B, 0, none⟩ : Addr).add (xs.length * i.size) = ⟨B, xs.length * i.size, none⟩ := by rw [addr_add, Nat.zero_add]
          have hrun : (Builtin.append_ #[t, t] ty #[.slice (some ⟨B, 0, none⟩) xs.length c, .slice (some ⟨BX, oX, none⟩) k c']).run P w = .ok (.slice (some ⟨B, 0, none⟩) (xs.length + k) c) (w.setCells B (xs.length * i.size) news) := by
            simp only [Nat.add_zero] at hst
            simp [Builtin.append_, run_underlying ht, sizeOf, typeInfo, hi, Builtin.lenOf, hroom, hf, hadd, hst]
          obtain ⟨s1, s2, s3, s4, s5, s6⟩ := heap_setCells news w B (xs.length * i.size) vs e' (0, 0) hh
          let m' : Mem := fun b o => if b = B ∧ xs.length * i.size ≤ o ∧ o < xs.length * i.size + news.length then news[o - xs.length * i.size]? else g.m b o
          have hm : MemLe g.m m' := by
            intro b o v h
            simp only [m']
            by_cases hbo : b = B ∧ xs.length * i.size ≤ o ∧ o < xs.length * i.size + news.length
            · rw [hbo.1, hmn o hbo.2.1] at h; cases h
            · rw [if_neg hbo]; exact h
          have hoff := hH.off id _ B hob hB
          have hcell' : ∀ o, (w.setCells B (xs.length * i.size) news).cell? ⟨B, o, none⟩ = if xs.length * i.size ≤ o ∧ o < xs.length * i.size + news.length then news[o - xs.length * i.size]? else vs[o]? := by
            intro o
            rw [cell_of_heap s1, arrSet_get _ _ _ _ hfit]
          have key := hH.setTip (id := id) (sz := i.size) (n := xs.length + k) (v := .slice (some ⟨B, 0, none⟩) (xs.length + k) c) (w' := w.setCells B (xs.length * i.size) news) (m' := m')
            (.inr ⟨xs.length, hob, hτn, .inl (by omega)⟩) hm (fun b hb o => by simp only [m']; rw [if_neg]; rintro ⟨rfl, _⟩; exact hoff hb) s4 s5 s6 (by rw [s3]; exact Nat.le_refl _)
            (fun b _ hno => s2 b (fun he => hno _ hob (he ▸ hB)))
            (fun b o u h => by
              simp only [m'] at h
              by_cases hb' : b = B
              · subst hb'
                rw [hcell']
                by_cases hr : xs.length * i.size ≤ o ∧ o < xs.length * i.size + news.length
                · rw [if_pos ⟨rfl, hr⟩] at h; rw [if_pos hr]; exact h
                · rw [if_neg (fun hh => hr hh.2)] at h; rw [if_neg hr]
                  have := hH.mem _ _ _ h
                  rwa [cell_of_heap hh] at this
              · rw [if_neg (fun hh => hb' hh.1)] at h
                have := hH.mem _ _ _ h
                simp only [World.cell?, s2 b hb'] at this ⊢; exact this)
            (fun b _ hno x => by simp only [m']; rw [if_neg]; rintro ⟨rfl, _⟩; exact hno _ hob hB)
            (fun B' hB' => by
              simp only [Owns, and_self, if_true, Option.some.injEq, Value.slice.injEq, Addr.mk.injEq] at hB'
              obtain ⟨c1, ⟨⟨rfl, _⟩, _⟩, _⟩ := hB'
              exact .inr ⟨_, hob, hB⟩)
            (by
              have hτ' : ∀ j, xs.length + k < j → (if id = id ∧ j = xs.length + k then some (Value.slice (some ⟨B, 0, none⟩) (xs.length + k) c) else g.τ id j) = none := fun j hj => by
                rw [if_neg (by omega)]; exact hτn j (by omega)
              by_cases hfull : xs.length + k = c
              · exact .inl ⟨some ⟨B, 0, none⟩, by simp [hfull], hτ'⟩
              · refine .inr ⟨B, _, e', c, by simp, by omega, s1, by rw [arrSet_size]; exact hcs, hcm, arrSet_one hfit hone o2, fun o ho => ?_, hτ'⟩
                rw [Nat.add_mul] at ho
                simp only [m']; rw [if_neg (by rw [l2]; omega)]; exact hmn o (by omega))
          refine ⟨_, _, _, hrun, key.1, key.2, .own ?_ (by simp [hk])⟩
          refine PRep.ofVals hm hx hy l1 l2 h3 h4 hroom hcm (fun j v hv => ?_)
          simp only [m']
          rcases Nat.lt_or_ge j olds.length with hj | hj
          · rw [List.getElem?_append_left hj] at hv
            have := hold j v hv
            rw [Nat.zero_add] at this
            rw [if_neg (by omega)]; exact this
          · rw [List.getElem?_append_right hj] at hv
            have hj2 := (List.getElem?_eq_some_iff.1 hv).1
            rw [if_pos (by refine ⟨by trivial, ?_, ?_⟩ <;> omega), ← l1]; exact hv
        · -- a new block
          have hfits := growslice_fits (need := xs.length + k) (old := c) (bytes := i.bytes) (by omega) hb
          have hrun := run_append_grow (P := P) w t ty e i z ht hi hz ⟨B, 0, none⟩ xs.length c olds l1 (memcell olds B 0 hold) ⟨BX, oX, none⟩ k c' news l2 (memcell news BX oX hX) (by omega) (by omega) hfits
          have hge := grownCap_ge w (xs.length + k) c e
          have hcm' : grownCap w (xs.length + k) c e ≤ maxLen := grownCap_le_maxLen w (xs.length + k) c e (by unfold maxLen; omega)
          obtain ⟨g', h5, h6, h7⟩ := app_new hH hsz hx hy l1 l2 o1 o2 h3 h4 hpos (.inr ⟨xs.length, hob, hτn, rfl⟩) (cap := grownCap w (xs.length + k) c e) (e := e) hge hcm' hz1 hzs
          exact ⟨_, _, g', hrun, h5, h6, h7⟩
end
end Go.Proofs.YthocoandbiaoiaaDoorV

namespace Go.Proofs.YthocoandbiaoiaaDoorV
open Go
theorem foldl_set : ∀ (l : List Value) (k off : Nat) (cs : Array Value), (l.zipIdx k).foldl (fun cs (x : Value × Nat) => cs.setIfInBounds (off + x.2) x.1) cs = arrSet cs (off + k) l
  | [], _, _, _ => rfl
  | v :: r, k, off, cs => by
    simp only [List.zipIdx_cons, List.foldl_cons, arrSet]
    rw [foldl_set r (k + 1) off]; rfl
theorem fill_cons (place : Nat → Option (Nat × Nat)) (cells : Array Value) (i : Nat) (v : Value) (rest : List (Nat × Value)) {off size : Nat} (hp : place i = some (off, size)) (hs : v.cells.size = size) (hb : off + size ≤ cells.size) :
    Instr.fill place cells ((i, v) :: rest) = Instr.fill place (arrSet cells off v.cells.toList) rest := by
  have h1 : v.cells.zipIdx.foldl (fun cs (x : Value × Nat) => cs.setIfInBounds (off + x.2) x.1) cells = arrSet cells off v.cells.toList := by
    rw [← Array.foldl_toList, Array.toList_zipIdx, foldl_set]; rfl
  have h2 : (v.cells.size ≠ size || off + v.cells.size > cells.size) = false := by simp [hs]; omega
  rw [Instr.fill]
  simp only [hp, h2, Bool.false_eq_true, if_false]
  exact congrArg (fun c => Instr.fill place c rest) h1
theorem fill_rep {g : Gh} {p : Nat → Prop} {place : Nat → Option (Nat × Nat)} : ∀ {ps : List (((Nat × Nat)) × DV)} {qs : List (Nat × Value)} {z r : List DV} {zs : Array Value},
    ps.length = qs.length → (∀ (j : Nat) (x : (Nat × Nat) × DV) (y : Nat × Value), ps[j]? = some x → qs[j]? = some y → place y.1 = some x.1 ∧ DRep g x.2 y.2 ∧ x.2.nm p) →
    z.length = zs.size → (∀ v ∈ zs.toList, v.oneCell' = true) → (∀ (j : Nat) (c : DV) (v : Value), z[j]? = some c → zs[j]? = some v → DRep g c v) → (∀ c ∈ z, c.nm p) → fillz z ps = some r →
    ∃ rs, Instr.fill place zs qs = some rs ∧ r.length = rs.size ∧ (∀ v ∈ rs.toList, v.oneCell' = true) ∧ (∀ (j : Nat) (c : DV) (v : Value), r[j]? = some c → rs[j]? = some v → DRep g c v) ∧ ∀ c ∈ r, c.nm p
  | [], [], z, r, zs, _, _, h1, h2, h3, h4, h => by
    simp only [fillz, Option.some.injEq] at h; subst h
    exact ⟨zs, rfl, h1, h2, h3, h4⟩
  | ((off, sz), d) :: ps, (i, v) :: qs, z, r, zs, hl, hp, h1, h2, h3, h4, h => by
    obtain ⟨hpl, hd, hn⟩ := hp 0 _ _ rfl rfl
    simp only at hpl hd hn
    rw [fillz] at h
    split at h
    · rename_i hc
      obtain ⟨k1, k2, k3, k4⟩ := dcells_sound hd (by omega) hn
      have hsz : v.cells.size = sz := by omega
      have hset := set_rep (R := DRep g) (ds := dcells d) (us := v.cells.toList) (o := off) (Nat.le_of_eq h1) (by simpa using k1) (by omega) h3 (fun j c u hc hu => k3 j c u hc (by simpa using hu))
      rw [fill_cons place zs i v qs hpl hsz (by omega)]
      refine fill_rep (by simpa using hl) (fun j x y hx hy => hp (j + 1) x y (by simpa using hx) (by simpa using hy)) (by rw [setFrom_length, arrSet_size]; exact h1) (arrSet_one (by simp; omega) h2 k2) hset.2 (setFrom_mem (by omega) h4 k4) h
    · simp at h
  | [], _ :: _, _, _, _, hl, _, _, _, _, _, _ => by simp at hl
  | _ :: _, [], _, _, _, hl, _, _, _, _, _, _ => by simp at hl
theorem fill_row {sz : Nat} : ∀ (vs : List Value) (k : Nat) (a : Array Value), (∀ v ∈ vs, v.cells.size = sz) → (k + vs.length) * sz ≤ a.size →
    ∃ r, Instr.fill (fun i => some (i * sz, sz)) a (vs.zipIdx k |>.map fun x => (x.2, x.1)) = some r ∧ r.size = a.size ∧ (∀ q, q < k * sz → r[q]? = a[q]?) ∧
      ∀ i j v, vs[i]? = some v → j < sz → r[(k + i) * sz + j]? = v.cells[j]?
  | [], k, a, _, _ => ⟨a, rfl, rfl, fun _ _ => rfl, by simp⟩
  | v :: vs, k, a, hs, hb => by
    simp only [List.length_cons] at hb
    have hv := hs v (List.mem_cons_self ..)
    have hbk : k * sz + sz ≤ a.size := by
      have : (k + 1) * sz ≤ (k + (vs.length + 1)) * sz := Nat.mul_le_mul_right _ (by omega)
      rw [Nat.add_mul, Nat.one_mul] at this; omega
    obtain ⟨r, h1, h2, h3, h4⟩ := fill_row vs (k + 1) (arrSet a (k * sz) v.cells.toList) (fun u hu => hs u (List.mem_cons_of_mem _ hu)) (by
      rw [arrSet_size]; have : k + 1 + vs.length = k + (vs.length + 1) := by omega
      rw [this]; exact hb)
    rw [arrSet_size] at h2
    have hk1 : (k + 1) * sz = k * sz + sz := by rw [Nat.add_mul, Nat.one_mul]
    refine ⟨r, ?_, h2, fun q hq => ?_, fun i j u hu hj => ?_⟩
    · simp only [List.zipIdx_cons, List.map_cons]
      rw [fill_cons _ a k v _ rfl hv hbk]; exact h1
    · rw [h3 q (by omega), arrSet_get _ _ _ _ (by simp; omega), if_neg (by omega)]
    · rcases i with _ | i
      · simp at hu; subst hu
        rw [Nat.add_zero, h3 _ (by omega), arrSet_get _ _ _ _ (by simp; omega), if_pos (by simp; omega)]
        simp
      · simp at hu
        have := h4 i j u hu hj
        rw [show k + (i + 1) = k + 1 + i by omega]; exact this
section
variable {P : Program} {gl : Glob} {K : Nat → Prop} {w0 : World} {hl : Nat → Option Ob} {fr : Nat → Prop} {g : Gh} {w : World}
theorem toPV1_sound {d : DV} {p : PV} {v : Value} (h : toPV1 d = some p) (hd : DRep g d v) : PRep g.m p v ∧ p.one = true := by
  unfold toPV1 at h
  split at h
  · split at h
    · obtain rfl := Option.some.inj h; exact ⟨hd.pv_inv, ‹_›⟩
    · simp at h
  · split at h
    · rename_i sz hsz
      obtain rfl := Option.some.inj h
      exact ⟨elems_sound (d := .nilS sz) (by simp [elems, hsz]) hd, rfl⟩
    · simp at h
  · obtain rfl := Option.some.inj h; exact ⟨elems_sound (d := .flit _ _) rfl hd, rfl⟩
  · obtain rfl := Option.some.inj h; exact ⟨elems_sound (d := .own _ _ _) rfl hd, rfl⟩
  · simp at h
theorem toPVs_sound : ∀ {ds : List DV} {ps : List PV}, toPVs ds = some ps → ps.length = ds.length ∧ ∀ (j : Nat) (d : DV) (p : PV) (v : Value), ds[j]? = some d → ps[j]? = some p → DRep g d v → PRep g.m p v ∧ p.one = true
  | [], ps, h => by simp only [toPVs, Option.some.injEq] at h; subst h; simp
  | d :: r, ps, h => by
    simp only [toPVs] at h
    split at h
    · rename_i p qs hp hq
      obtain rfl := Option.some.inj h
      obtain ⟨h1, h2⟩ := toPVs_sound hq
      refine ⟨by simp [h1], fun j d' p' v hd hp' hr => ?_⟩
      rcases j with _ | j
      · simp at hd hp'; subst hd; subst hp'; exact toPV1_sound hp hr
      · simp at hd hp'; exact h2 j d' p' v hd hp' hr
    · simp at h
theorem toPV_sound {d : DV} {p : PV} {v : Value} (h : toPV d = some p) (hd : DRep g d v) : PRep g.m p v := by
  unfold toPV at h
  split at h
  · obtain rfl := Option.some.inj h; exact hd.pv_inv
  · rename_i cs
    simp only [Option.map_eq_some_iff] at h
    obtain ⟨ps, hps, rfl⟩ := h
    obtain ⟨h1, h2⟩ := toPVs_sound (g := g) hps
    cases hd with
    | agg hl ho hc =>
      have hex : ∀ (j : Nat) (p : PV), ps[j]? = some p → ∃ d : DV, cs[j]? = some d := fun j p hp => by
        have hlt := (List.getElem?_eq_some_iff.1 hp).1
        exact ⟨_, List.getElem?_eq_getElem (show j < _ by omega)⟩
      refine .agg (by omega) (fun c hc' => ?_) fun j c v hj hv => ?_
      · obtain ⟨j, hj, rfl⟩ := List.getElem_of_mem hc'
        obtain ⟨d, hd⟩ := hex j _ (List.getElem?_eq_getElem hj)
        have hlt := (List.getElem?_eq_some_iff.1 hd).1
        exact (h2 j d _ _ hd (List.getElem?_eq_getElem hj) (hc j d _ hd (Array.getElem?_eq_getElem (show j < _ by omega)))).2
      · obtain ⟨d, hd⟩ := hex j _ hj
        exact (h2 j d _ _ hd hj (hc j d _ hd hv)).1
  · exact (toPV1_sound h hd).1
theorem toPVall_sound : ∀ {ds : List DV} {ps : List PV}, toPVall ds = some ps → ps.length = ds.length ∧ ∀ (j : Nat) (d : DV) (p : PV) (v : Value), ds[j]? = some d → ps[j]? = some p → DRep g d v → PRep g.m p v
  | [], ps, h => by simp only [toPVall, Option.some.injEq] at h; subst h; simp
  | d :: r, ps, h => by
    simp only [toPVall] at h
    split at h
    · rename_i p qs hp hq
      obtain rfl := Option.some.inj h
      obtain ⟨h1, h2⟩ := toPVall_sound hq
      refine ⟨by simp [h1], fun j d' p' v hd hp' hr => ?_⟩
      rcases j with _ | j
      · simp at hd hp'; subst hd; subst hp'; exact toPV_sound hp hr
      · simp at hd hp'; exact h2 j d' p' v hd hp' hr
    · simp at h
theorem row_run (w : World) {t ty e sz : Nat} (hT : AppTy P t e sz ty) {vs : List Value} (hcs : ∀ v ∈ vs, v.cells.size = sz) (hbig : vs.length * sz ≤ 2 ^ 24) :
    ∃ r : Array Value, (Instr.buildSlice t vs.length (vs.zipIdx.map fun x => (x.2, x.1)).toArray).run P w = .ok (.slice (some ⟨w.heap.size, 0, none⟩) vs.length vs.length) (w.alloc (.cells r e)) ∧ r.size = vs.length * sz ∧
      ∀ (i j : Nat) (v : Value), vs[i]? = some v → j < sz → r[i * sz + j]? = v.cells[j]? := by
  obtain ⟨ht, i, z, hi, hsi, _, hz, hzs, _⟩ := hT
  let init : Array Value := (Array.range (vs.length * sz)).map fun q => (if vs.length * sz = 0 then #[] else z.cells)[q % (if vs.length * sz = 0 then #[] else z.cells).size]!
  obtain ⟨r, hr, hrs, _, hrg⟩ := fill_row vs 0 init hcs (by simp [init])
  have hrs' : r.size = vs.length * sz := by rw [hrs]; simp [init]
  refine ⟨r, ?_, hrs', fun i j v hi hj => by have := hrg i j v hi hj; rwa [Nat.zero_add] at this⟩
  have hn : ¬ (vs.length * sz > 2 ^ 24) := by omega
  have h1 : (sizeOf e).run P w = .ok sz w := by simp [sizeOf, typeInfo, hi, hsi]
  have h2 : (zeroValue e).run P w = .ok z w := by simp [zeroValue, typeInfo, hi, hz]
  simp only [Instr.buildSlice, Sem.run_bind, run_underlying ht, Result.andThen_ok, h1, Sem.run_ite]
  rw [if_neg hn]
  by_cases h0 : vs.length * sz = 0
  · simp only [Sem.run_pure, Result.andThen_ok, h0, if_true] at hr ⊢
    simp only [init, h0, if_true] at hr
    simp only [hr]
    simp [newRow]
  · simp only [h0, if_false, Sem.run_bind, h2, Result.andThen_ok, Sem.run_pure]
    simp only [init, h0, if_false] at hr
    simp only [hr]
    simp [newRow]
theorem lit_sound (hH : SimH gl K w0 hl fr g w) {t ty e sz : Nat} (hT : AppTy P t e sz ty) (hsz : 0 < sz) {xs : List PV} {vs : List Value} (hlen : xs.length = vs.length) (hbig : xs.length * sz ≤ 2 ^ 24)
    (hx : ∀ (j : Nat) (p : PV) (v : Value), xs[j]? = some p → vs[j]? = some v → PRep g.m p v) (hs : ∀ x ∈ xs, x.cells.length = sz) :
    ∃ v' w' g', (Instr.buildSlice t vs.length (vs.zipIdx.map fun x => (x.2, x.1)).toArray).run P w = .ok v' w' ∧ SimH gl K w0 hl fr g' w' ∧ GLe K (fun i => ¬ fr i) g g' ∧ DRep g' (.flit sz xs) v' := by
  obtain ⟨ht, i, z, hi, hsi, _, hz, hzs, _⟩ := hT
  have hcs : ∀ v ∈ vs, v.cells.size = sz := by
    intro v hv
    obtain ⟨j, hj, rfl⟩ := List.getElem_of_mem hv
    have hlt : j < xs.length := by omega
    have := (hx j _ _ (List.getElem?_eq_getElem hlt) (List.getElem?_eq_getElem hj)).cells.1
    rw [← this]; exact hs _ (List.getElem_mem hlt)
  let init : Array Value := (Array.range (vs.length * sz)).map fun q => (if vs.length * sz = 0 then #[] else z.cells)[q % (if vs.length * sz = 0 then #[] else z.cells).size]!
  obtain ⟨r, hr, hrs, _, hrg⟩ := fill_row vs 0 init hcs (by simp [init])
  have hrs' : r.size = vs.length * sz := by rw [hrs]; simp [init]
  have hrun : (Instr.buildSlice t vs.length (vs.zipIdx.map fun x => (x.2, x.1)).toArray).run P w = .ok (.slice (some ⟨w.heap.size, 0, none⟩) vs.length vs.length) (w.alloc (.cells r e)) := by
    have hn : ¬ (vs.length * sz > 2 ^ 24) := by rw [← hlen]; omega
    have h1 : (sizeOf e).run P w = .ok sz w := by simp [sizeOf, typeInfo, hi, hsi]
    have h2 : (zeroValue e).run P w = .ok z w := by simp [zeroValue, typeInfo, hi, hz]
    simp only [Instr.buildSlice, Sem.run_bind, run_underlying ht, Result.andThen_ok, h1, Sem.run_ite]
    rw [if_neg hn]
    by_cases h0 : vs.length * sz = 0
    · simp only [Sem.run_pure, Result.andThen_ok, h0, if_true] at hr ⊢
      simp only [init, h0, if_true] at hr
      simp only [hr]
      simp [newRow]
    · simp only [h0, if_false, Sem.run_bind, h2, Result.andThen_ok, Sem.run_pure]
      simp only [init, h0, if_false] at hr
      simp only [hr]
      simp [newRow]
  obtain ⟨g', h1, h2, h3⟩ := hH.newMem r e
  refine ⟨_, _, g', hrun, h1, h2, .flit ?_⟩
  have hfl : (flat xs).length = vs.length * sz := by rw [flat_length hs, hlen]
  have hget : ∀ (q : Nat) (u : PV) (v : Value), (flat xs)[q]? = some u → r[q]? = some v → PRep g'.m u v ∧ u.one = true := by
    intro q u v hu hv
    have hq : q < vs.length * sz := by rw [← hfl]; exact (List.getElem?_eq_some_iff.1 hu).1
    have hi1 : q / sz < vs.length := Nat.div_lt_of_lt_mul (by rw [Nat.mul_comm]; exact hq)
    have hj1 : q % sz < sz := Nat.mod_lt _ hsz
    have hqe : q / sz * sz + q % sz = q := by rw [Nat.mul_comm]; exact Nat.div_add_mod q sz
    have hlt : q / sz < xs.length := by omega
    have a1 := flat_get hs (List.getElem?_eq_getElem hlt) hj1
    rw [hqe, hu] at a1
    have a2 := hrg (q / sz) (q % sz) _ (List.getElem?_eq_getElem hi1) hj1
    rw [Nat.zero_add, hqe, hv] at a2
    have hc := (hx _ _ _ (List.getElem?_eq_getElem hlt) (List.getElem?_eq_getElem hi1)).cells
    exact ⟨(hc.2.2 _ _ _ a1.symm a2.symm).mono h2.m, hc.2.1 _ (List.mem_of_getElem? a1.symm)⟩
  refine .lst r.toList hlen (Nat.le_refl _) (by unfold maxLen; have : xs.length ≤ xs.length * sz := Nat.le_mul_of_pos_right _ hsz; omega) hsz hs ?_ (by simp [hrs', hfl]) ?_ (.inr ⟨_, 0, rfl, fun j v hv => by rw [Nat.zero_add]; exact h3 j v (by simpa using hv)⟩)
  · intro c hc
    obtain ⟨q, hq, rfl⟩ := List.getElem_of_mem hc
    have hlt : q < r.size := by omega
    exact (hget q _ _ (List.getElem?_eq_getElem hq) (Array.getElem?_eq_getElem hlt)).2
  · intro j u v hu hv
    exact (hget j u v hu (by simpa using hv)).1
end
end Go.Proofs.YthocoandbiaoiaaDoorV

namespace Go.Proofs.YthocoandbiaoiaaDoorV
open Go
def sizeIs (P : Program) (t n : Nat) : Bool := (P.info? t).map (·.size) == some n
def slE (P : Program) (t : TypeId) : Option TypeId := match P.underlying t with
  | some (.slice e) => some e
  | _ => none
def arE (P : Program) (t : TypeId) : Option (Nat × TypeId) := match P.underlying t with
  | some (.array n e) => some (n, e)
  | _ => none
def stF (P : Program) (t : TypeId) : Option (Array Field) := match P.underlying t with
  | some (.struct fs) => some fs
  | _ => none
def inK (P : Program) (t : TypeId) : Option IntKind := match P.underlying t with
  | some (.int k) => some k
  | _ => none
def isStr (P : Program) (t : TypeId) : Bool := match P.underlying t with
  | some .string => true
  | _ => false
def isBoo (P : Program) (t : TypeId) : Bool := match P.underlying t with
  | some .bool => true
  | _ => false
def nilK (P : Program) (t : TypeId) : Nat → Bool := fun k => match P.underlying t with
  | some (.slice _) => k == 0
  | some (.pointer _) => k == 1
  | some (.map _ _) => k == 2
  | some (.func _ _ _) => k == 3
  | _ => false
def rowT (P : Program) (t : TypeId) : Option Bool := (P.underlying t).map (·.isRow)
def appTyOk (P : Program) (t sz bytes : Nat) : Bool :=
  match slE P t with
  | some e => (match P.info? e with
    | some i => i.size == sz && i.bytes == bytes && (match i.zero with
      | some z => z.cells.size == sz && z.cells.toList.all (·.oneCell')
      | none => false)
    | none => false)
  | none => false
def shapeOk (P : Program) (t : TypeId) : Option Nat → Bool
  | none => rowT P t == some false
  | some n => rowT P t == some true && sizeIs P t n && decide (0 < n)
def zeroOk (P : Program) (t : TypeId) (z : List DV) : Bool :=
  match P.info? t with
  | some i => (match i.zero with
    | some v => vOks v.cells.toList z
    | none => false)
  | none => false
def optOk : Option Operand → Option O → Bool
  | none, none => true
  | some X, some x => oOk X x
  | _, _ => false
def partsOk (place : Nat → Option (Nat × Nat)) : List (Nat × Operand) → List ((Nat × Nat) × O) → Bool
  | [], [] => true
  | (i, X) :: r, (p, x) :: q => place i == some p && oOk X x && partsOk place r q
  | _, _ => false
def rowOk : Nat → List (Nat × Operand) → List O → Bool
  | _, [], [] => true
  | k, (i, X) :: r, x :: q => i == k && oOk X x && rowOk (k + 1) r q
  | _, _, _ => false
def placesOf (P : Program) (t : TypeId) (i : Nat) : Option (Nat × Nat) :=
  match stF P t with
  | some fs => (match fs[i]? with
    | some f => (P.info? f.type).map fun x => (f.offset, x.size)
    | none => none)
  | none => (match arE P t with
    | some (_, e) => (P.info? e).map fun x => (i * x.size, x.size)
    | none => none)
def fieldsOk (P : Program) (t : TypeId) : Bool :=
  match stF P t with
  | some fs => fs.toList.all fun f => (P.info? f.type).isSome
  | none => (match arE P t with
    | some (_, e) => (P.info? e).isSome
    | none => false)
def nilC : Operand → Nat → Bool
  | .const (.slice none 0 0), k => k == 0
  | .const (.pointer none), k => k == 1
  | .const (.map none), k => k == 2
  | .const .nilFunc, k => k == 3
  | _, _ => false
def scT (P : Program) (t : TypeId) : Bool := match P.underlying t with
  | some .bool => true
  | some (.int _) => true
  | some .string => true
  | _ => false
def kdT (P : Program) (t : TypeId) : Nat := match P.underlying t with
  | some .bool => 0
  | some (.int _) => 1
  | some .string => 2
  | _ => 3
def ceqF (P : Program) : Nat → List Field → List Nat → Bool
  | _, [], [] => true
  | k, f :: r, kd :: q => f.name != "_" && f.offset == k && kdT P f.type == kd && ceqF P (k + 1) r q
  | _, _, _ => false
def ceqTy (P : Program) (t : TypeId) (kds : List Nat) : Bool := match stF P t with
  | some fs => ceqF P 0 fs.toList kds && !P.eqGuardType P.depth t && !P.stoodInHeld t
  | none => false
def mpT (P : Program) (t : TypeId) : Option (TypeId × TypeId) := match P.underlying t with
  | some (.map k e) => some (k, e)
  | _ => none
def zOk (P : Program) (t : TypeId) (z : DV) : Bool := match P.info? t with
  | some i => (match i.zero with
    | some v => vOk v z || vOkA v z
    | none => false)
  | none => false
def mapOk (P : Program) (t : TypeId) (kd : Nat) (z : Option DV) : Bool := match mpT P t with
  | some (k, e) => kdT P k == kd && (match z with | some z => zOk P e z | none => true)
  | none => false
def fieldOk (P : Program) (t i off : Nat) (f : TypeId → Bool) : Bool :=
  match stF P t with
  | some fs => (match fs[i]? with
    | some x => x.offset == off && f x.type
    | none => false)
  | none => false
def cmp (P : Program) : Op → IOp → Bool
  | .move X, .mov x => oOk X x
  | .assign X, .mov x => oOk X x
  | .pick C X Y, .land c x => oOk C c && oOk X x && (match Y with | .const (.bool false) => true | _ => false)
  | .pick C X Y, .lor c y => oOk C c && oOk Y y && (match X with | .const (.bool true) => true | _ => false)
  | .pick C X Y, .pick c x y => oOk C c && oOk X x && oOk Y y
  | .unOp op _ X, .un op' x => op == op' && oOk X x
  | .binOp op _ X Y _, .bin op' x y => op == op' && oOk X x && oOk Y y
  | .binOp op t X Y _, .beq neg x y => (op == (if neg then .neq else .eql)) && oOk X x && oOk Y y && isBoo P t
  | .binOp op t X Y _, .isnil neg k x => (op == (if neg then .neq else .eql)) && oOk X x && nilC Y k && nilK P t k
  | .convert s d X, .conv k x => oOk X x && (inK P s).isSome && inK P d == some k
  | .convert s d X, .idc x => oOk X x && isStr P s && isStr P d
  | .alloc t, .alloc z => zeroOk P t z
  | .box _ X, .box _ x => oOk X x
  | .build t ps, .build z qs => zeroOk P t z && fieldsOk P t && partsOk (placesOf P t) ps.toList qs
  | .buildSlice t n ps, .lit sz qs => (match slE P t with
    | some e => appTyOk P t sz (P.bytesOf e)
    | none => false) && n == qs.length && decide (n * sz ≤ 2 ^ 24) && rowOk 0 ps.toList qs
  | .buildSlice t n ps, .litm sz qs => (match slE P t with
    | some e => appTyOk P t sz (P.bytesOf e)
    | none => false) && n == qs.length && decide (n * sz ≤ 2 ^ 24) && rowOk 0 ps.toList qs
  | .load t X, .load n x => oOk X x && shapeOk P t n
  | .store t X Y, .store n x y => oOk X x && oOk Y y && sizeIs P t n
  | .nilCheck X, .nilc x => oOk X x
  | .fieldAddr t X i, .fad off x => oOk X x && fieldOk P t i off fun u => !sizeIs P u 0 && (P.info? u).isSome
  | .field t X i, .fld off n x => oOk X x && fieldOk P t i off fun u => shapeOk P u n
  | .indexAddr t X I, .iad sz x i => oOk X x && oOk I i && (match slE P t with
    | some e => sizeIs P e sz
    | none => false)
  | .indexAddr t X I, .iada len sz x i => oOk X x && oOk I i && (match arE P t with
    | some (len', e) => len' == len && sizeIs P e sz
    | none => false)
  | .index t X I, .ixs x i => oOk X x && oOk I i && isStr P t
  | .makeFunc f A C, .mkf f' a c => f == f' && oOks A.toList a && oOks C.toList c
  | .slice t X L H M, .cut sz x lo hi => oOk X x && optOk L lo && optOk H hi && M.isNone && (match slE P t with
    | some e => sizeIs P e sz
    | none => false)
  | .slice t X L H M, .cut3 sz x lo hi mx => oOk X x && optOk L (some lo) && optOk H (some hi) && optOk M (some mx) && (match slE P t with
    | some e => sizeIs P e sz
    | none => false)
  | .slice t X L H M, .cuts x lo hi => oOk X x && optOk L lo && optOk H hi && M.isNone && isStr P t
  | .extract X i, .ext x i' => i == i' && oOk X x
  | .makeSlice t L C, .mks sz bytes z x => oOk L x && oOk C x && (match slE P t with
    | some e => zeroOk P e z && sizeIs P e sz && (P.info? e).map (·.bytes) == some bytes && z.length == sz && decide (0 < sz) && decide (0 < bytes)
    | none => false)
  | .makeSlice t L C, .mkz bytes z x => oOk L x && oOk C x && (match slE P t with
    | some e => zeroOk P e [.pv z] && sizeIs P e 1 && (P.info? e).map (·.bytes) == some bytes && z.scal && decide (0 < bytes)
    | none => false)
  | .call ⟨.builtin .len, ⟨[X]⟩, ⟨[t]⟩⟩, .len x => oOk X x && (slE P t).isSome
  | .call ⟨.builtin .len, ⟨[X]⟩, ⟨[t]⟩⟩, .lens x => oOk X x && isStr P t
  | .call ⟨.builtin .append, ⟨[X, Y]⟩, ⟨[t, t']⟩⟩, .app sz bytes x y => oOk X x && oOk Y y && t == t' && appTyOk P t sz bytes && decide (0 < bytes)
  | .call ⟨.builtin .append, ⟨[X, Y]⟩, ⟨[t, t']⟩⟩, .appm sz bytes x y => oOk X x && oOk Y y && t == t' && appTyOk P t sz bytes && decide (0 < bytes)
  | .makeSlice t L C, .mkc sz bytes x => (match L with | .const (.int .i64 0) => true | _ => false) && oOk C x && appTyOk P t sz bytes && decide (0 < sz) && decide (0 < bytes)
  | .binOp op t X Y _, .ceq neg kds x y => (op == (if neg then .neq else .eql)) && oOk X x && oOk Y y && ceqTy P t kds
  | .convert s d X, .b2s x => oOk X x && isStr P d && (match slE P s with
    | some e => inK P e == some .u8
    | none => false)
  | .makeMap t none, .mkm => (mpT P t).isSome
  | .lookup t X I ok', .look kd z x k ok => ok' == ok && oOk X x && oOk I k && mapOk P t kd (some z)
  | .mapUpdate t X I V, .mup kd x k v => oOk X x && oOk I k && oOk V v && mapOk P t kd none
  | .insert t X I V, .mup kd x k v => oOk X x && oOk I k && oOk V v && mapOk P t kd none
  | .mapEntry t X I, .ment kd z x k => oOk X x && oOk I k && mapOk P t kd (some z)
  | .entryStore _ X S V, .mest x s v => oOk X x && oOk S s && oOk V v
  | .call ⟨.builtin .len, ⟨[X]⟩, ⟨[t]⟩⟩, .mlen x => oOk X x && (mpT P t).isSome
  | _, .bad => true
  | .call ⟨.builtin .max, ⟨[X, Y]⟩, _⟩, .mx x y => oOk X x && oOk Y y
  | .call ⟨.builtin .min, ⟨[X, Y]⟩, _⟩, .mn x y => oOk X x && oOk Y y
  | _, _ => false
theorem slE_some {P : Program} {t e : TypeId} (h : slE P t = some e) : P.underlying t = some (.slice e) := by
  unfold slE at h; split at h <;> simp_all
theorem arE_some {P : Program} {t : TypeId} {x : Nat × TypeId} (h : arE P t = some x) : P.underlying t = some (.array x.1 x.2) := by
  unfold arE at h; split at h <;> simp_all
  subst h; exact ⟨rfl, rfl⟩
theorem stF_some {P : Program} {t : TypeId} {fs : Array Field} (h : stF P t = some fs) : P.underlying t = some (.struct fs) := by
  unfold stF at h; split at h <;> simp_all
theorem inK_some {P : Program} {t : TypeId} {k : IntKind} (h : inK P t = some k) : P.underlying t = some (.int k) := by
  unfold inK at h; split at h <;> simp_all
theorem isStr_some {P : Program} {t : TypeId} (h : isStr P t = true) : P.underlying t = some .string := by
  unfold isStr at h; split at h <;> simp_all
theorem isBoo_some {P : Program} {t : TypeId} (h : isBoo P t = true) : P.underlying t = some .bool := by
  unfold isBoo at h; split at h <;> simp_all
theorem appTyOk_sound {P : Program} {t sz bytes : Nat} (h : appTyOk P t sz bytes = true) : ∃ e, AppTy P t e sz bytes := by
  unfold appTyOk at h
  split at h
  · rename_i e he
    split at h
    · rename_i i hi
      simp only [Bool.and_eq_true, beq_iff_eq] at h
      obtain ⟨⟨h1, h2⟩, h3⟩ := h
      split at h3
      · rename_i z hz
        simp only [Bool.and_eq_true, beq_iff_eq, List.all_eq_true] at h3
        exact ⟨e, slE_some he, i, z, hi, h1, h2, hz, h3.1, h3.2⟩
      · simp at h3
    · simp at h
  · simp at h
theorem zeroOk_sound {P : Program} {t : TypeId} {z : List DV} (h : zeroOk P t z = true) : ∃ v, (∀ w, (zeroValue t).run P w = .ok v w) ∧ vOks v.cells.toList z = true := by
  unfold zeroOk at h
  split at h
  · rename_i i hi
    split at h
    · rename_i v hv
      exact ⟨v, fun w => by simp [zeroValue, typeInfo, hi, hv], h⟩
    · simp at h
  · simp at h
theorem zeroOk_info {P : Program} {t : TypeId} {z : List DV} (h : zeroOk P t z = true) : ∃ i v, P.info? t = some i ∧ i.zero = some v ∧ vOks v.cells.toList z = true := by
  unfold zeroOk at h
  split at h
  · rename_i i hi
    split at h
    · rename_i v hv
      exact ⟨i, v, hi, hv, h⟩
    · simp at h
  · simp at h
theorem sizeIs_sound {P : Program} {t n : Nat} (h : sizeIs P t n = true) : (P.info? t).map (·.size) = some n := by simpa [sizeIs] using h
theorem rowT_sound {P : Program} {t : Nat} {b : Bool} (h : (rowT P t == some b) = true) : ∃ d, P.underlying t = some d ∧ d.isRow = b := by
  simpa [rowT, Option.map_eq_some_iff] using h
theorem shapeOk_sound {P : Program} {t : Nat} {n : Option Nat} (h : shapeOk P t n = true) : ∃ d, P.underlying t = some d ∧ match n with
    | none => d.isRow = false
    | some n => d.isRow = true ∧ 0 < n ∧ (P.info? t).map (·.size) = some n := by
  cases n with
  | none => exact rowT_sound h
  | some n =>
    simp only [shapeOk, Bool.and_eq_true, decide_eq_true_eq] at h
    obtain ⟨d, h1, h2⟩ := rowT_sound h.1.1
    exact ⟨d, h1, h2, h.2, sizeIs_sound h.1.2⟩
theorem fieldOk_sound {P : Program} {t i off : Nat} {f : TypeId → Bool} (h : fieldOk P t i off f = true) : ∃ fs x, P.underlying t = some (.struct fs) ∧ fs[i]? = some x ∧ x.offset = off ∧ f x.type = true := by
  unfold fieldOk at h
  split at h
  · rename_i fs hfs
    split at h
    · rename_i x hx
      simp only [Bool.and_eq_true, beq_iff_eq] at h
      exact ⟨fs, x, stF_some hfs, hx, h.1, h.2⟩
    · simp at h
  · simp at h
end Go.Proofs.YthocoandbiaoiaaDoorV

namespace Go.Proofs.YthocoandbiaoiaaDoorV
open Go
def upf (hl : Nat → Option Ob) : Heap → Nat → Option Ob
  | [] => hl
  | (i, o) :: r => upf (fupd hl i o) r
def frl (fr : Nat → Prop) (nid : Nat) : Nat → Nat → Prop
  | 0 => fr
  | n => fun i => fr i ∧ ¬ (nid ≤ i ∧ i < nid + n)
def StepOk (P : Program) (gl : Glob) (K : Nat → Prop) (w0 : World) (hl : Nat → Option Ob) (fr : Nat → Prop) (g : Gh) (w : World) (nid : Nat) (r : Stp) (x : Result Next) : Prop :=
  ∃ y v w' g', x = .ok y w' ∧ (y = .value v ∨ (y = .skip ∧ v = undef)) ∧ SimH gl K w0 (upf hl r.up) (frl fr nid r.al) g' w' ∧
    GLe K (fun i => ¬ fr i) g g' ∧ DRep g' r.v v ∧ r.v.nm fun i => ¬ frl fr nid r.al i
section
variable {P : Program} {gl : Glob} {K : Nat → Prop} {w0 : World} {hl : Nat → Option Ob} {fr : Nat → Prop} {g : Gh} {w : World} {n : NT} {e : Env} {a : Act} {nid : Nat}
theorem StepOk.pure (hH : SimH gl K w0 hl fr g w) {r : Stp} (h1 : r.up = []) (h2 : r.al = 0) {x : Result Next} {v : Value} (hx : x = .ok (.value v) w) (hd : DRep g r.v v) (hn : r.v.nm fun i => ¬ fr i) :
    StepOk P gl K w0 hl fr g w nid r x := by
  obtain ⟨d, up, rd, al, c⟩ := r
  simp only at h1 h2 hd hn; subst h1; subst h2
  exact ⟨_, v, w, g, hx, .inl rfl, hH, GLe.refl _ _ _, hd, hn⟩
variable (hH : SimH gl K w0 hl fr g w) (hE : SimE n (eget e) fr g a) {o : Oper} {r : Stp}
include hH hE
theorem st_mov {x : O} (hc : cmp P o.op (.mov x) = true) (h : stp gl e hl nid (.mov x) = some r) (hcc : r.c) : StepOk P gl K w0 hl fr g w nid r ((execOp a.eval o).run P w) := by
  simp only [stp, Option.map_eq_some_iff] at h
  obtain ⟨⟨d, c⟩, hd, rfl⟩ := h
  cases ho : o.op <;> simp only [ho, cmp, Bool.false_eq_true] at hc
  all_goals
    have := evs_sound hH hE hc hd hcc
    exact .pure hH rfl rfl (by simp [execOp, ho]) this.1 this.2
theorem st_land {x y : O} (hc : cmp P o.op (.land x y) = true) (h : stp gl e hl nid (.land x y) = some r) (hcc : r.c) : StepOk P gl K w0 hl fr g w nid r ((execOp a.eval o).run P w) := by
  simp only [stp] at h
  split at h
  · rename_i p c q d hx hy
    obtain rfl := Option.some.inj h
    cases ho : o.op <;> simp only [ho, cmp, Bool.false_eq_true] at hc
    rename_i C X Y
    simp only [Bool.and_eq_true] at hc
    obtain ⟨⟨h1, h2⟩, h3⟩ := hc
    split at h3
    · have hC := (evs_sound hH hE h1 hx hcc.1).1.bool_inv
      refine .pure hH rfl rfl (v := .bool (p && q)) ?_ (.pv .bool) (by simp only [DV.nm])
      simp only [execOp, ho, Sem.run_bind, hC, asBool, Sem.run_pure, Result.andThen_ok]
      cases p with
      | true =>
        have hX := (evs_sound hH hE h2 hy (hcc.2 rfl)).1.bool_inv
        simp [hX]
      | false => simp [Act.eval]
    · simp at h3
  · simp at h
theorem st_lor {x y : O} (hc : cmp P o.op (.lor x y) = true) (h : stp gl e hl nid (.lor x y) = some r) (hcc : r.c) : StepOk P gl K w0 hl fr g w nid r ((execOp a.eval o).run P w) := by
  simp only [stp] at h
  split at h
  · rename_i p c q d hx hy
    obtain rfl := Option.some.inj h
    cases ho : o.op <;> simp only [ho, cmp, Bool.false_eq_true] at hc
    rename_i C X Y
    simp only [Bool.and_eq_true] at hc
    obtain ⟨⟨h1, h2⟩, h3⟩ := hc
    split at h3
    · have hC := (evs_sound hH hE h1 hx hcc.1).1.bool_inv
      refine .pure hH rfl rfl (v := .bool (p || q)) ?_ (.pv .bool) (by simp only [DV.nm])
      simp only [execOp, ho, Sem.run_bind, hC, asBool, Sem.run_pure, Result.andThen_ok]
      cases p with
      | false =>
        have hX := (evs_sound hH hE h2 hy (hcc.2 rfl)).1.bool_inv
        simp [hX]
      | true => simp [Act.eval]
    · simp at h3
  · simp at h
theorem st_pick {c x y : O} (hc : cmp P o.op (.pick c x y) = true) (h : stp gl e hl nid (.pick c x y) = some r) (hcc : r.c) : StepOk P gl K w0 hl fr g w nid r ((execOp a.eval o).run P w) := by
  simp only [stp] at h
  split at h
  · rename_i b cc p cp q cq hz hx hy
    obtain rfl := Option.some.inj h
    cases ho : o.op <;> simp only [ho, cmp, Bool.false_eq_true] at hc
    simp only [Bool.and_eq_true] at hc
    obtain ⟨⟨h1, h2⟩, h3⟩ := hc
    have hC := (evs_sound hH hE h1 hz hcc.1).1.bool_inv
    refine .pure hH rfl rfl (v := .bool (if b then p else q)) ?_ (.pv .bool) (by simp only [DV.nm])
    simp only [execOp, ho, Sem.run_bind, hC, asBool, Sem.run_pure, Result.andThen_ok]
    cases b with
    | true => simp [(evs_sound hH hE h2 hx (hcc.2.1 rfl)).1.bool_inv]
    | false => simp [(evs_sound hH hE h3 hy (hcc.2.2 rfl)).1.bool_inv]
  · simp at h
theorem st_un {op : UnOp} {x : O} (hc : cmp P o.op (.un op x) = true) (h : stp gl e hl nid (.un op x) = some r) (hcc : r.c) : StepOk P gl K w0 hl fr g w nid r ((execOp a.eval o).run P w) := by
  simp only [stp] at h
  split at h
  · rename_i d c hx
    simp only [Option.map_eq_some_iff] at h
    obtain ⟨q, hq, rfl⟩ := h
    cases ho : o.op <;> simp only [ho, cmp, Bool.false_eq_true] at hc
    simp only [Bool.and_eq_true, beq_iff_eq] at hc
    obtain ⟨rfl, h1⟩ := hc
    have hX := (evs_sound hH hE h1 hx hcc).1
    unfold un at hq
    split at hq
    · rename_i b
      split at hq
      · obtain rfl := Option.some.inj hq
        refine .pure hH rfl rfl (v := .bool (!b)) ?_ (.pv .bool) (by simp only [DV.nm])
        simp [execOp, ho, hX.bool_inv, Op.unary]
      · simp at hq
    · rename_i k z
      split at hq
      · obtain rfl := Option.some.inj hq
        refine .pure hH rfl rfl (v := .int k (k.wrap (0 - z))) ?_ (.pv (.int (wrap_range _ _).1 (wrap_range _ _).2)) (by simp only [DV.nm])
        simp [execOp, ho, hX.int_inv.1, Op.unary, Op.intArith]
      · obtain rfl := Option.some.inj hq
        refine .pure hH rfl rfl (v := .int k _) ?_ (.pv (.int (wrap_range _ _).1 (wrap_range _ _).2)) (by simp only [DV.nm])
        simp [execOp, ho, hX.int_inv.1, Op.unary, Op.intBits]
      · simp at hq
    · simp at hq
  · simp at h
theorem st_bin {op : BinOp} {x y : O} (hc : cmp P o.op (.bin op x y) = true) (h : stp gl e hl nid (.bin op x y) = some r) (hcc : r.c) : StepOk P gl K w0 hl fr g w nid r ((execOp a.eval o).run P w) := by
  simp only [stp] at h
  split at h
  · rename_i d1 c1 d2 c2 hx hy
    simp only [Option.map_eq_some_iff] at h
    obtain ⟨q, hq, rfl⟩ := h
    cases ho : o.op <;> simp only [ho, cmp, Bool.false_eq_true] at hc
    simp only [Bool.and_eq_true, beq_iff_eq] at hc
    obtain ⟨⟨rfl, h1⟩, h2⟩ := hc
    rename_i t X Y u
    obtain ⟨v, h3, h4, h5⟩ := bin_sound (P := P) (w := w) (t := t) (X := X) (Y := Y) (evs_sound hH hE h1 hx hcc.1).1 (evs_sound hH hE h2 hy hcc.2.1).1 hq hcc.2.2
    refine .pure hH rfl rfl (v := v) ?_ h4 (h5 _)
    rw [Sem.run_bind] at h3
    simp only [execOp, ho, Sem.run_bind]
    rw [h3]; rfl
  · simp at h
theorem st_beq {neg : Bool} {x y : O} (hc : cmp P o.op (.beq neg x y) = true) (h : stp gl e hl nid (.beq neg x y) = some r) (hcc : r.c) : StepOk P gl K w0 hl fr g w nid r ((execOp a.eval o).run P w) := by
  simp only [stp] at h
  split at h
  · rename_i p c1 q c2 hx hy
    obtain rfl := Option.some.inj h
    cases ho : o.op <;> simp only [ho, cmp, Bool.false_eq_true] at hc
    simp only [Bool.and_eq_true, beq_iff_eq] at hc
    obtain ⟨⟨⟨rfl, h1⟩, h2⟩, h3⟩ := hc
    rename_i t X Y u
    have hX := (evs_sound hH hE h1 hx hcc.1).1.bool_inv
    have hY := (evs_sound hH hE h2 hy hcc.2).1.bool_inv
    refine .pure hH rfl rfl (v := .bool ((p == q) != neg)) ?_ (.pv .bool) (by simp only [DV.nm])
    have hT := isBoo_some h3
    have he : (Op.equal t (.bool p) (.bool q)).run P w = .ok (p == q) w := by
      show (Op.equalIn (9999 + 1) t (.bool p) (.bool q)).run P w = _
      rw [Op.equalIn, Sem.run_bind, run_underlying hT]
      rfl
    cases neg <;> simp [execOp, ho, hX, hY, eqGuard, binOp, he]
  · simp at h
theorem st_conv {k : IntKind} {x : O} (hc : cmp P o.op (.conv k x) = true) (h : stp gl e hl nid (.conv k x) = some r) (hcc : r.c) : StepOk P gl K w0 hl fr g w nid r ((execOp a.eval o).run P w) := by
  simp only [stp] at h
  split at h
  · rename_i k' m c hx
    obtain rfl := Option.some.inj h
    cases ho : o.op <;> simp only [ho, cmp, Bool.false_eq_true] at hc
    simp only [Bool.and_eq_true, beq_iff_eq] at hc
    obtain ⟨⟨h1, h2⟩, h3⟩ := hc
    obtain ⟨k2, h2⟩ := Option.isSome_iff_exists.1 h2
    have hX := (evs_sound hH hE h1 hx hcc).1.int_inv.1
    refine .pure hH rfl rfl (v := .int k (k.wrap m)) ?_ (.pv (.int (wrap_range _ _).1 (wrap_range _ _).2)) (by simp only [DV.nm])
    simp [execOp, ho, hX, convert, run_underlying (inK_some h2), run_underlying (inK_some h3), Conv.intToInt]
  · simp at h
theorem st_idc {x : O} (hc : cmp P o.op (.idc x) = true) (h : stp gl e hl nid (.idc x) = some r) (hcc : r.c) : StepOk P gl K w0 hl fr g w nid r ((execOp a.eval o).run P w) := by
  simp only [stp] at h
  split at h
  · rename_i s c hx
    obtain rfl := Option.some.inj h
    cases ho : o.op <;> simp only [ho, cmp, Bool.false_eq_true] at hc
    simp only [Bool.and_eq_true] at hc
    obtain ⟨⟨h1, h2⟩, h3⟩ := hc
    have hX := evs_sound hH hE h1 hx hcc
    refine .pure hH rfl rfl (v := .string s) ?_ (by rw [← hX.1.str_inv.1]; exact hX.1) (by simp only [DV.nm])
    simp [execOp, ho, hX.1.str_inv.1, convert, run_underlying (isStr_some h2), run_underlying (isStr_some h3)]
  · simp at h
end
end Go.Proofs.YthocoandbiaoiaaDoorV

namespace Go.Proofs.YthocoandbiaoiaaDoorV
open Go
theorem DV.nm_ptr {p : Nat → Prop} {i o : Nat} : (DV.ptr i o).nm p ↔ p i := by rw [DV.nm]
theorem DV.nm_mrow {p : Nat → Prop} {i a b d : Nat} : (DV.mrow i a b d).nm p ↔ p i := by rw [DV.nm]
theorem DV.nm_own {p : Nat → Prop} {i s : Nat} {xs : List PV} : (DV.own i s xs).nm p ↔ p i := by rw [DV.nm]
theorem DV.nm_mref {p : Nat → Prop} {i : Nat} : (DV.mref i).nm p ↔ p i := by rw [DV.nm]
theorem DV.nm_stmp {p : Nat → Prop} {i j : Nat} : (DV.stmp i j).nm p ↔ p i := by rw [DV.nm]
theorem DV.nm_pv {p : Nat → Prop} {x : PV} : (DV.pv x).nm p := by simp only [DV.nm]
theorem DV.nm_eptr {p : Nat → Prop} {x : List PV} : (DV.eptr x).nm p := by simp only [DV.nm]
theorem DV.nm_flit {p : Nat → Prop} {s : Nat} {x : List PV} : (DV.flit s x).nm p := by simp only [DV.nm]
theorem DV.nm_junk {p : Nat → Prop} : DV.junk.nm p := by simp only [DV.nm]
theorem nm_nilS {p : Nat → Prop} {s : Nat} : (DV.nilS s).nm p := by simp only [DV.nm]
theorem nm_nilP {p : Nat → Prop} : DV.nilP.nm p := by simp only [DV.nm]
theorem nm_nilF {p : Nat → Prop} : DV.nilF.nm p := by simp only [DV.nm]
theorem nm_nilM {p : Nat → Prop} : DV.nilM.nm p := by simp only [DV.nm]
theorem nm_nilI {p : Nat → Prop} : DV.nilI.nm p := by simp only [DV.nm]
theorem nm_gd {p : Nat → Prop} {b : Bool} {d : DV} : (DV.gd b d).nm p ↔ d.nm p := by rw [DV.nm]
theorem lst_some {m : Mem} {sz : Nat} {xs : List PV} {v : Value} (h : PRep m (.lst sz xs) v) (hne : xs ≠ []) : ∃ A n c, v = .slice (some A) n c := by
  obtain ⟨A, n, c, rfl, vs, _, _, _, _, _, _, _, _, h | ⟨B, o, rfl, _⟩⟩ := h.lst_inv
  · exact absurd h hne
  · exact ⟨_, _, _, rfl⟩
def nilV : Nat → Value
  | 0 => .slice none 0 0
  | 1 => .pointer none
  | 2 => .map none
  | _ => .nilFunc
def NilV : Nat → Bool → Value → Prop
  | 0, b, v => ∃ A n c, v = .slice A n c ∧ A.isNone = b
  | 1, b, v => ∃ A : Option Addr, v = .pointer A ∧ A.isNone = b
  | 2, b, v => ∃ A : Option Nat, v = .map A ∧ A.isNone = b
  | _, true, v => v = .nilFunc
  | _, false, v => ∃ f x y, v = .func f x y
theorem nilV_of {g : Gh} {k : Nat} {d : DV} {v : Value} {b : Bool} {c : Prop} (hd : DRep g d v) (h : isNil k d = some (b, c)) (hc : c) : NilV k b v ∧ k ≤ 3 := by
  unfold isNil at h
  split at h <;> simp only [Option.some.injEq, Prod.mk.injEq, reduceCtorEq] at h
  all_goals
    obtain ⟨rfl, rfl⟩ := h
  · cases hd; exact ⟨⟨_, _, _, rfl, rfl⟩, by omega⟩
  · cases hd; exact ⟨⟨_, _, _, rfl, rfl⟩, by omega⟩
  · cases hd; exact ⟨⟨_, _, _, rfl, rfl⟩, by omega⟩
  · cases hd
    obtain ⟨A, n, c, rfl⟩ := lst_some (by assumption) hc
    exact ⟨⟨_, _, _, rfl, rfl⟩, by omega⟩
  · obtain ⟨A, n, c, rfl⟩ := lst_some hd.pv_inv hc
    exact ⟨⟨_, _, _, rfl, rfl⟩, by omega⟩
  · cases hd; exact ⟨⟨_, rfl, rfl⟩, by omega⟩
  · cases hd; exact ⟨⟨_, rfl, rfl⟩, by omega⟩
  · cases hd; exact ⟨⟨_, rfl, rfl⟩, by omega⟩
  · cases hd; exact ⟨⟨_, rfl, rfl⟩, by omega⟩
  · cases hd; exact ⟨⟨_, rfl, rfl⟩, by omega⟩
  · cases hd; exact ⟨rfl, by omega⟩
  · cases hd; exact ⟨⟨_, _, _, rfl⟩, by omega⟩
theorem nilC_eq {Y : Operand} {k : Nat} (h : nilC Y k = true) : Y = .const (nilV k) ∧ k ≤ 3 := by
  unfold nilC at h
  split at h <;> simp only [beq_iff_eq, Bool.false_eq_true] at h <;> subst h <;> exact ⟨rfl, by omega⟩
theorem eq_slice {P : Program} {w : World} {t e : TypeId} (h : P.underlying t = some (.slice e)) (A : Option Addr) (n c : Nat) : (Op.equal t (.slice A n c) (.slice none 0 0)).run P w = .ok A.isNone w := by
  show (Op.equalIn (9999 + 1) t _ _).run P w = _
  rw [Op.equalIn, Sem.run_bind, run_underlying h]
  cases A <;> rfl
theorem eq_ptr {P : Program} {w : World} {t e : TypeId} (h : P.underlying t = some (.pointer e)) (A : Option Addr) : (Op.equal t (.pointer A) (.pointer none)).run P w = .ok A.isNone w := by
  show (Op.equalIn (9999 + 1) t _ _).run P w = _
  rw [Op.equalIn, Sem.run_bind, run_underlying h]
  cases A <;> rfl
theorem eq_map {P : Program} {w : World} {t e u : TypeId} (h : P.underlying t = some (.map e u)) (A : Option Nat) : (Op.equal t (.map A) (.map none)).run P w = .ok A.isNone w := by
  show (Op.equalIn (9999 + 1) t _ _).run P w = _
  rw [Op.equalIn, Sem.run_bind, run_underlying h]
  cases A <;> rfl
theorem eq_fn {P : Program} {w : World} {t : TypeId} {x y z} (h : P.underlying t = some (.func x y z)) : (Op.equal t .nilFunc .nilFunc).run P w = .ok true w := by
  show (Op.equalIn (9999 + 1) t _ _).run P w = _
  rw [Op.equalIn, Sem.run_bind, run_underlying h]
  rfl
theorem eq_fn' {P : Program} {w : World} {t : TypeId} {x y z} (h : P.underlying t = some (.func x y z)) (f a b) : (Op.equal t (.func f a b) .nilFunc).run P w = .ok false w := by
  show (Op.equalIn (9999 + 1) t _ _).run P w = _
  rw [Op.equalIn, Sem.run_bind, run_underlying h]
  rfl
theorem isNil_sound {P : Program} {w : World} {k : Nat} {v : Value} {b : Bool} (hv : NilV k b v) (hk : k ≤ 3) {t : TypeId} (ht : nilK P t k = true) (neg : Bool) (X Y : Operand) :
    (do eqGuard (if neg then .neq else .eql) t X Y v (nilV k); binOp (if neg then .neq else .eql) t v (nilV k) : Sem Value).run P w = .ok (.bool (b != neg)) w := by
  unfold nilK at ht
  split at ht <;> simp only [beq_iff_eq, Bool.false_eq_true] at ht
  · subst ht; rename_i hu
    obtain ⟨A, n, c, rfl, rfl⟩ := hv
    cases neg <;> simp [eqGuard, binOp, nilV, eq_slice hu]
  · subst ht; rename_i hu
    obtain ⟨A, rfl, rfl⟩ := hv
    cases neg <;> simp [eqGuard, binOp, nilV, eq_ptr hu]
  · subst ht; rename_i hu
    obtain ⟨A, rfl, rfl⟩ := hv
    cases neg <;> simp [eqGuard, binOp, nilV, eq_map hu]
  · subst ht; rename_i hu
    cases b with
    | true => obtain rfl : v = .nilFunc := hv; cases neg <;> simp [eqGuard, binOp, nilV, eq_fn hu]
    | false => obtain ⟨f, x, y, rfl⟩ : ∃ f x y, v = .func f x y := hv; cases neg <;> simp [eqGuard, binOp, nilV, eq_fn' hu]
theorem isAg_sound {g : Gh} {d : DV} {v : Value} (h : d.isAg = true) (hd : DRep g d v) : ∃ vs, v = .agg vs := by
  unfold DV.isAg at h
  split at h
  · obtain ⟨vs, h, _⟩ := hd.pv_inv.agg_inv; exact ⟨vs, h⟩
  · cases hd; exact ⟨_, rfl⟩
  · simp at h
section
variable {P : Program} {gl : Glob} {K : Nat → Prop} {w0 : World} {hl : Nat → Option Ob} {fr : Nat → Prop} {g : Gh} {w : World} {n : NT} {e : Env} {a : Act} {nid : Nat}
variable (hH : SimH gl K w0 hl fr g w) (hE : SimE n (eget e) fr g a) {o : Oper} {r : Stp}
include hH hE
theorem st_isnil {neg : Bool} {k : Nat} {x : O} (hc : cmp P o.op (.isnil neg k x) = true) (h : stp gl e hl nid (.isnil neg k x) = some r) (hcc : r.c) : StepOk P gl K w0 hl fr g w nid r ((execOp a.eval o).run P w) := by
  cases ho : o.op <;> simp only [ho, cmp, Bool.false_eq_true] at hc
  rename_i t X Y u
  simp only [Bool.and_eq_true, beq_iff_eq] at hc
  obtain ⟨⟨⟨rfl, h1⟩, h2⟩, h3⟩ := hc
  simp only [stp] at h
  split at h
  · rename_i d c hx
    simp only [Option.map_eq_some_iff] at h
    obtain ⟨⟨b, c'⟩, hd, rfl⟩ := h
    obtain ⟨rfl, _⟩ := nilC_eq h2
    obtain ⟨h4, h5⟩ := nilV_of (evs_sound hH hE h1 hx hcc.1).1 hd hcc.2
    refine .pure hH rfl rfl (v := .bool (b != neg)) ?_ (.pv .bool) DV.nm_pv
    have := isNil_sound (w := w) h4 h5 h3 neg X (.const (nilV k))
    simp only [execOp, ho, Sem.run_bind, Act.eval] at this ⊢
    rw [this]; rfl
  · simp at h
theorem st_nilc {x : O} (hc : cmp P o.op (.nilc x) = true) (h : stp gl e hl nid (.nilc x) = some r) (hcc : r.c) : StepOk P gl K w0 hl fr g w nid r ((execOp a.eval o).run P w) := by
  simp only [stp] at h
  split at h <;> simp only [Option.some.injEq, reduceCtorEq] at h
  all_goals
    subst h
    rename_i hx
    cases ho : o.op <;> simp only [ho, cmp, Bool.false_eq_true] at hc
    have hX := evs_sound hH hE hc hx hcc
    refine .pure hH rfl rfl ?_ hX.1 hX.2
    rcases hX with ⟨h1, _⟩
    generalize hv : a.eval _ = v at h1
    cases h1
    simp [execOp, ho, hv]
theorem st_fad {off : Nat} {x : O} (hc : cmp P o.op (.fad off x) = true) (h : stp gl e hl nid (.fad off x) = some r) (hcc : r.c) : StepOk P gl K w0 hl fr g w nid r ((execOp a.eval o).run P w) := by
  cases ho : o.op <;> simp only [ho, cmp, Bool.false_eq_true] at hc
  rename_i t X i
  simp only [Bool.and_eq_true] at hc
  obtain ⟨h1, h2⟩ := hc
  obtain ⟨fs, f, h3, h4, h5, h6⟩ := fieldOk_sound h2
  simp only [Bool.and_eq_true, Bool.not_eq_true'] at h6
  obtain ⟨inf, hi⟩ := Option.isSome_iff_exists.1 h6.2
  have hne : inf.size ≠ 0 := by
    intro hz
    have := h6.1
    simp [sizeIs, hi, hz] at this
  have hrun := fun A w => fad_run (P := P) (w := w) (A := A) h3 h4 (n := inf.size) (by simp [hi]) hne
  simp only [stp] at h
  split at h <;> simp only [Option.some.injEq, reduceCtorEq] at h
  · subst h
    rename_i hx
    have hX := evs_sound hH hE h1 hx hcc
    rcases hX with ⟨h7, h8⟩
    generalize hv : a.eval X = v at h7
    cases h7
    rename_i id o' c B hB
    refine .pure hH rfl rfl (v := .pointer (some ⟨B, o' + off, none⟩)) ?_ (.ptr hB) (DV.nm_ptr.2 (by first | exact DV.nm_ptr.1 h8 | exact DV.nm_mrow.1 h8))
    simp only [execOp, ho, hv, Sem.run_bind, hrun, Result.andThen_ok, Sem.run_pure, h5, addr_add]
  · subst h
    rename_i hx
    have hX := evs_sound hH hE h1 hx hcc
    rcases hX with ⟨h7, h8⟩
    generalize hv : a.eval X = v at h7
    cases h7
    rename_i cs c B o' hB
    refine .pure hH rfl rfl (v := .pointer (some ⟨B, o' + off, none⟩)) ?_ (.eptr fun j c hj => ?_) (by first | exact DV.nm_pv | exact DV.nm_eptr)
    · simp only [execOp, ho, hv, Sem.run_bind, hrun, Result.andThen_ok, Sem.run_pure, h5, addr_add]
    · rw [List.getElem?_drop] at hj
      have := hB _ _ hj
      rwa [← Nat.add_assoc] at this
theorem st_fld {off : Nat} {k : Option Nat} {x : O} (hc : cmp P o.op (.fld off k x) = true) (h : stp gl e hl nid (.fld off k x) = some r) (hcc : r.c) : StepOk P gl K w0 hl fr g w nid r ((execOp a.eval o).run P w) := by
  cases ho : o.op <;> simp only [ho, cmp, Bool.false_eq_true] at hc
  rename_i t X i
  simp only [Bool.and_eq_true] at hc
  obtain ⟨h1, h2⟩ := hc
  obtain ⟨fs, f, h3, h4, h5, h6⟩ := fieldOk_sound h2
  obtain ⟨td, h7, h8⟩ := shapeOk_sound h6
  simp only [stp] at h
  split at h
  · rename_i d c hx
    by_cases hag : d.isAg = true
    case neg => simp [hag] at h
    simp only [hag, if_true] at h
    simp only [Option.map_eq_some_iff] at h
    obtain ⟨v, hv, rfl⟩ := h
    have hX := evs_sound hH hE h1 hx hcc
    obtain ⟨vs, hvs⟩ := isAg_sound hag hX.1
    obtain ⟨u, h9, h10, h11⟩ := fld_sound (P := P) (w := w) hX.1 hv hX.2 hvs h3 h4 h5 h7 (by cases k <;> exact h8)
    refine .pure hH rfl rfl (v := u) ?_ h10 h11
    simp only [execOp, ho, Sem.run_bind, h9, Result.andThen_ok, Sem.run_pure]
  · simp at h
theorem st_load {k : Option Nat} {x : O} (hc : cmp P o.op (.load k x) = true) (h : stp gl e hl nid (.load k x) = some r) (hcc : r.c) : StepOk P gl K w0 hl fr g w nid r ((execOp a.eval o).run P w) := by
  cases ho : o.op <;> simp only [ho, cmp, Bool.false_eq_true] at hc
  rename_i t X
  simp only [Bool.and_eq_true] at hc
  obtain ⟨h1, h2⟩ := hc
  obtain ⟨td, h7, h8⟩ := shapeOk_sound h2
  simp only [stp] at h
  split at h
  · rename_i d c hx
    split at h
    · rename_i cs rd hat
      simp only [Option.map_eq_some_iff] at h
      obtain ⟨v, hv, rfl⟩ := h
      have hX := evs_sound hH hE h1 hx hcc
      obtain ⟨u, h9, h10, h11⟩ := load_sound (P := P) hH hX.1 hat hv h7 (by cases k with | none => exact h8 | some n => exact ⟨h8.1, h8.2.2⟩)
      refine ⟨_, u, w, g, ?_, .inl rfl, hH, GLe.refl _ _ _, h10, h11⟩
      simp only [execOp, ho, Sem.run_bind, h9, Result.andThen_ok, Sem.run_pure]
    · simp at h
  · simp at h
theorem st_iad {sz : Nat} {x i : O} (hc : cmp P o.op (.iad sz x i) = true) (h : stp gl e hl nid (.iad sz x i) = some r) (hcc : r.c) : StepOk P gl K w0 hl fr g w nid r ((execOp a.eval o).run P w) := by
  cases ho : o.op <;> simp only [ho, cmp, Bool.false_eq_true] at hc
  rename_i t X I
  simp only [Bool.and_eq_true] at hc
  obtain ⟨⟨h1, h2⟩, h3⟩ := hc
  split at h3
  · rename_i el hel
    have hrun := fun A n c k (i : Int) w h0 h1 => iad_run (P := P) (w := w) (A := A) (n := n) (c := c) (k := k) (i := i) (slE_some hel) (sizeIs_sound h3) h0 h1
    simp only [stp] at h
    split at h
    · rename_i d c k i c' hx hi
      have hI := fun hcc => (evs_sound hH hE h2 hi hcc).1.int_inv.1
      split at h
      · rename_i id off len sz'
        split at h
        · obtain rfl := Option.some.inj h
          subst sz'
          have hX := evs_sound hH hE h1 hx hcc.1
          have hI := hI hcc.2.1
          rcases hX with ⟨h7, h8⟩
          obtain ⟨B, cap, hv, hB⟩ : ∃ B cap, a.eval X = .slice (some ⟨B, off, none⟩) len cap ∧ g.μ id = some B := by
            generalize a.eval X = v at h7
            cases h7
            exact ⟨_, _, rfl, by assumption⟩
          refine .pure hH rfl rfl (v := .pointer (some ⟨B, off + i.toNat * sz, none⟩)) ?_ (.ptr hB) (DV.nm_ptr.2 (by first | exact DV.nm_ptr.1 h8 | exact DV.nm_mrow.1 h8))
          simp only [execOp, ho, hv, hI, Sem.run_bind, hrun _ _ _ _ _ _ hcc.2.2.1 hcc.2.2.2, Result.andThen_ok, Sem.run_pure, addr_add]
        · simp at h
      · split at h
        · rename_i sz' xs hel2
          split at h
          · obtain rfl := Option.some.inj h
            subst sz'
            have hX := evs_sound hH hE h1 hx hcc.1
            have hI := hI hcc.2.1
            have hp := elems_sound hel2 hX.1
            obtain ⟨A, n, cp, hA, _⟩ := hp.lst_inv
            rw [hA] at hp
            have hn : xs.length = n := by cases hp; assumption
            obtain ⟨B, o', hA', hcells⟩ := hp.lst_at (nth_get hcc.2.2.1 hcc.2.2.2)
            subst hA'
            refine .pure hH rfl rfl (v := .pointer (some ⟨B, o' + i.toNat * sz, none⟩)) ?_ (.eptr hcells) (by first | exact DV.nm_pv | exact DV.nm_eptr)
            have := hrun ⟨B, o', none⟩ n cp k i w hcc.2.2.1 (by rw [← hn]; exact hcc.2.2.2)
            simp only [execOp, ho, hA, hI, Sem.run_bind, this, Result.andThen_ok, Sem.run_pure, addr_add]
          · simp at h
        · simp at h
    · simp at h
  · simp at h3
theorem st_iada {len sz : Nat} {x i : O} (hc : cmp P o.op (.iada len sz x i) = true) (h : stp gl e hl nid (.iada len sz x i) = some r) (hcc : r.c) : StepOk P gl K w0 hl fr g w nid r ((execOp a.eval o).run P w) := by
  cases ho : o.op <;> simp only [ho, cmp, Bool.false_eq_true] at hc
  rename_i t X I
  simp only [Bool.and_eq_true] at hc
  obtain ⟨⟨h1, h2⟩, h3⟩ := hc
  split at h3
  · rename_i len' el hel
    simp only [Bool.and_eq_true, beq_iff_eq] at h3
    obtain ⟨rfl, h3⟩ := h3
    have hrun := fun A k (i : Int) w h0 h1 => iada_run (P := P) (w := w) (A := A) (k := k) (i := i) (arE_some hel) (sizeIs_sound h3) h0 h1
    simp only [stp] at h
    split at h
    · rename_i id off c k i c' hx hi
      obtain rfl := Option.some.inj h
      have hI := (evs_sound hH hE h2 hi hcc.2.1).1.int_inv.1
      rcases evs_sound hH hE h1 hx hcc.1 with ⟨h7, h8⟩
      generalize hv : a.eval X = v at h7
      cases h7
      rename_i B hB
      refine .pure hH rfl rfl (v := .pointer (some ⟨B, off + i.toNat * sz, none⟩)) ?_ (.ptr hB) (DV.nm_ptr.2 (by first | exact DV.nm_ptr.1 h8 | exact DV.nm_mrow.1 h8))
      simp only [execOp, ho, hv, hI, Sem.run_bind, hrun _ _ _ _ hcc.2.2.1 hcc.2.2.2, Result.andThen_ok, Sem.run_pure, addr_add]
    · rename_i cs c k i c' hx hi
      obtain rfl := Option.some.inj h
      have hI := (evs_sound hH hE h2 hi hcc.2.1).1.int_inv.1
      rcases evs_sound hH hE h1 hx hcc.1 with ⟨h7, h8⟩
      generalize hv : a.eval X = v at h7
      cases h7
      rename_i B o' hB
      refine .pure hH rfl rfl (v := .pointer (some ⟨B, o' + i.toNat * sz, none⟩)) ?_ (.eptr fun j c hj => ?_) (by first | exact DV.nm_pv | exact DV.nm_eptr)
      · simp only [execOp, ho, hv, hI, Sem.run_bind, hrun _ _ _ _ hcc.2.2.1 hcc.2.2.2, Result.andThen_ok, Sem.run_pure, addr_add]
      · rw [List.getElem?_drop] at hj
        have := hB _ _ hj
        rwa [← Nat.add_assoc] at this
    · simp at h
  · simp at h3
theorem st_ixs {x i : O} (hc : cmp P o.op (.ixs x i) = true) (h : stp gl e hl nid (.ixs x i) = some r) (hcc : r.c) : StepOk P gl K w0 hl fr g w nid r ((execOp a.eval o).run P w) := by
  cases ho : o.op <;> simp only [ho, cmp, Bool.false_eq_true] at hc
  simp only [Bool.and_eq_true] at hc
  obtain ⟨⟨h1, h2⟩, h3⟩ := hc
  simp only [stp] at h
  split at h
  · rename_i s c k i c' hx hi
    obtain rfl := Option.some.inj h
    have hX := (evs_sound hH hE h1 hx hcc.1).1.str_inv.1
    have hI := (evs_sound hH hE h2 hi hcc.2.1).1.int_inv.1
    refine .pure hH rfl rfl (v := .int .u8 (bt s i)) ?_ (.pv (.int ?_ ?_)) (by first | exact DV.nm_pv | exact DV.nm_eptr)
    · simp only [execOp, ho, hX, hI, Sem.run_bind, ixs_run (isStr_some h3) hcc.2.2.1 hcc.2.2.2, Result.andThen_ok, Sem.run_pure]
    · simp [bt, IntKind.min, IntKind.signed]
    · have := (s.data.toList.getD i.toNat 0).toNat_lt
      simp only [bt, IntKind.max, IntKind.signed, IntKind.bits, Bool.false_eq_true, if_false]
      omega
  · simp at h
theorem st_mkf {f : Fn} {xs ys : List O} (hc : cmp P o.op (.mkf f xs ys) = true) (h : stp gl e hl nid (.mkf f xs ys) = some r) (hcc : r.c) : StepOk P gl K w0 hl fr g w nid r ((execOp a.eval o).run P w) := by
  cases ho : o.op <;> simp only [ho, cmp, Bool.false_eq_true] at hc
  rename_i f' A C
  simp only [Bool.and_eq_true, beq_iff_eq] at hc
  obtain ⟨⟨rfl, h1⟩, h2⟩ := hc
  simp only [stp] at h
  split at h
  · rename_i as c ks c' hx hy
    obtain rfl := Option.some.inj h
    obtain ⟨k1, k2, k3⟩ := evAll_sound hH hE h1 hx hcc.1
    obtain ⟨k4, k5, k6⟩ := evAll_sound hH hE h2 hy hcc.2
    refine .pure hH rfl rfl (v := .func f' (A.map a.eval) (C.map a.eval)) ?_ (.fn (by simp [k1]) (by simp [k4]) (fun j d v hd hv => ?_) (fun j d v hd hv => ?_)) (DV.nm_fn.2 ⟨k3, k6⟩)
    · simp [execOp, ho, Instr.makeFunc]
    · rw [Array.getElem?_map, Option.map_eq_some_iff] at hv
      obtain ⟨X, hX, rfl⟩ := hv
      exact k2 j d X hd (by simpa using hX)
    · rw [Array.getElem?_map, Option.map_eq_some_iff] at hv
      obtain ⟨X, hX, rfl⟩ := hv
      exact k5 j d X hd (by simpa using hX)
  · simp at h
theorem st_ext {x : O} {i : Nat} (hc : cmp P o.op (.ext x i) = true) (h : stp gl e hl nid (.ext x i) = some r) (hcc : r.c) : StepOk P gl K w0 hl fr g w nid r ((execOp a.eval o).run P w) := by
  cases ho : o.op <;> simp only [ho, cmp, Bool.false_eq_true] at hc
  rename_i X i
  simp only [Bool.and_eq_true, beq_iff_eq] at hc
  obtain ⟨he, h1⟩ := hc; subst he
  simp only [stp] at h
  split at h
  · rename_i vs c hx
    simp only [Option.map_eq_some_iff] at h
    obtain ⟨d, hd, rfl⟩ := h
    rcases evs_sound hH hE h1 hx hcc with ⟨h7, h8⟩
    generalize hv : a.eval X = v at h7
    cases h7
    rename_i us hl hcs
    have hlt : i < us.size := by rw [← hl]; exact (List.getElem?_eq_some_iff.1 hd).1
    have hu : us[i]? = some us[i] := by simp [hlt]
    refine .pure hH rfl rfl (v := us[i]) ?_ (hcs i _ _ hd hu) (DV.nm_tup.1 h8 _ (List.mem_of_getElem? hd))
    simp [execOp, ho, hv, Instr.extract, hu]
  · simp at h
end
end Go.Proofs.YthocoandbiaoiaaDoorV

namespace Go.Proofs.YthocoandbiaoiaaDoorV
open Go
theorem run_sliceBound {P : Program} {w : World} (k : IntKind) (i : Int) (y : Nat) (c : BoundsCode) (h0 : 0 ≤ i) (h1 : i ≤ (y : Int)) : (Instr.sliceBound (.int k i) y c).run P w = .ok i.toNat w := by
  simp [Instr.sliceBound, asIntOf, h0, h1]
theorem step_builtin {P : Program} {w : World} {a : Act} {o : Oper} {b : Builtin} {xs : Array Operand} {ts : Array TypeId} (ho : o.op = .call ⟨.builtin b, xs, ts⟩) :
    ∃ cs, (execOp a.eval o).run P w = (builtin b ts o.type cs (xs.map a.eval)).run P w := by
  refine ⟨xs.map fun x => match x with | .const _ => true | _ => false, ?_⟩
  simp only [execOp, ho, resolve, Sem.run_bind, Sem.run_pure, Result.andThen_ok, invoke]
  rfl
section
variable {P : Program} {gl : Glob} {K : Nat → Prop} {w0 : World} {hl : Nat → Option Ob} {fr : Nat → Prop} {g : Gh} {w : World} {n : NT} {e : Env} {a : Act} {nid : Nat}
variable (hH : SimH gl K w0 hl fr g w) (hE : SimE n (eget e) fr g a) {o : Oper} {r : Stp}
include hH hE
theorem evInt_sound {X : Operand} {x : O} (hx : oOk X x = true) {i : Int} {c : Prop} (h : evInt gl e x = some (i, c)) (hc : c) : ∃ k, a.eval X = .int k i := by
  unfold evInt at h
  split at h
  · rename_i k j c' hv
    simp only [Option.some.injEq, Prod.mk.injEq] at h
    obtain ⟨rfl, rfl⟩ := h
    exact ⟨k, (evs_sound hH hE hx hv hc).1.int_inv.1⟩
  · simp at h
theorem bounds_sound {L Hi : Option Operand} {lo hi : Option O} (h1 : optOk L lo = true) (h2 : optOk Hi hi = true) {l k : Int} {cl ch : Prop} {len cap : Nat} (h3 : evLo gl e lo = some (l, cl)) (h4 : evHi gl e len hi = some (k, ch)) (hcl : cl) (hch : ch)
    (h0 : 0 ≤ l) (hlk : l ≤ k) (hk : k ≤ (len : Int)) (hcap : len ≤ cap) (b : Bool) :
    (Instr.sliceBounds b len cap (L.map a.eval) (Hi.map a.eval) none).run P w = .ok (l.toNat, k.toNat, cap) w := by
  have hH' : (match Hi.map a.eval with | some v => Instr.sliceBound v cap (if b then .sliceAcap else .sliceAlen) | none => pure len : Sem Nat).run P w = .ok k.toNat w := by
    cases Hi <;> cases hi <;> simp only [optOk, Bool.false_eq_true] at h2
    · simp only [evHi, Option.some.injEq, Prod.mk.injEq] at h4
      obtain ⟨rfl, _⟩ := h4
      simp
    · obtain ⟨kk, hv⟩ := evInt_sound hH hE h2 h4 hch
      simp only [Option.map_some, hv]
      exact run_sliceBound _ _ _ _ (by omega) (by omega)
  have hL' : (match L.map a.eval with | some v => Instr.sliceBound v k.toNat (if (none : Option Value).isSome then .slice3C else .sliceB) | none => pure 0 : Sem Nat).run P w = .ok l.toNat w := by
    cases L <;> cases lo <;> simp only [optOk, Bool.false_eq_true] at h1
    · simp only [evLo, Option.some.injEq, Prod.mk.injEq] at h3
      obtain ⟨rfl, _⟩ := h3
      simp
    · obtain ⟨kk, hv⟩ := evInt_sound hH hE h1 h3 hcl
      simp only [Option.map_some, hv]
      exact run_sliceBound _ _ _ _ h0 (by omega)
  simp only [Instr.sliceBounds, Sem.run_bind, Sem.run_pure, Result.andThen_ok]
  cases Hi <;> cases L <;> simp only [Option.map_some, Option.map_none, Option.isSome_none, Bool.false_eq_true, if_false, Sem.run_bind, Sem.run_pure, Result.andThen_ok] at hH' hL' ⊢ <;> simp_all
theorem st_cut {sz : Nat} {x : O} {lo hi : Option O} (hc : cmp P o.op (.cut sz x lo hi) = true) (h : stp gl e hl nid (.cut sz x lo hi) = some r) (hcc : r.c) : StepOk P gl K w0 hl fr g w nid r ((execOp a.eval o).run P w) := by
  cases ho : o.op <;> simp only [ho, cmp, Bool.false_eq_true] at hc
  rename_i t X L Hi M
  simp only [Bool.and_eq_true] at hc
  obtain ⟨⟨⟨⟨h1, h2⟩, h3⟩, h4⟩, h5⟩ := hc
  cases M with
  | some _ => simp at h4
  | none =>
  split at h5
  · rename_i el hel
    simp only [stp] at h
    split at h
    case h_2 => simp at h
    rename_i d c hx
    split at h
    case h_2 => simp at h
    rename_i sz' xs hd
    split at h
    case h_2 => simp at h
    rename_i l cl k ch h6 h7
    split at h
    case isFalse => simp at h
    rename_i he
    subst he
    obtain rfl := Option.some.inj h
    obtain ⟨c1, c2, c3, c4, c5, c6⟩ := hcc
    have hp := elems_sound hd (evs_sound hH hE h1 hx c1).1
    obtain ⟨A, m, cp, hv, _, hm, hmc, _⟩ := hp.lst_inv
    rw [hv] at hp
    have hb := bounds_sound (P := P) hH hE h2 h3 h6 h7 c2 c3 c4 c5 c6 (by omega : xs.length ≤ cp) true
    have hp' := hp.cut (l := l.toNat) (k := k.toNat) (by omega) (by omega)
    obtain ⟨inf, hi', hsz⟩ := Option.map_eq_some_iff.1 (sizeIs_sound h5)
    have hs : (sizeOf el).run P w = .ok sz' w := by simp [sizeOf, typeInfo, hi', hsz]
    refine .pure hH rfl rfl ?_ (.pv hp') DV.nm_pv
    rw [hm] at hb
    simp only [execOp, ho, hv, Instr.sliceAt, Instr.slice, Sem.run_bind, run_underlying (slE_some hel), Result.andThen_ok, Option.map_none, hb, hs, Sem.run_pure]
  · simp at h5
theorem st_cut3 {sz : Nat} {x lo hi mx : O} (hc : cmp P o.op (.cut3 sz x lo hi mx) = true) (h : stp gl e hl nid (.cut3 sz x lo hi mx) = some r) (hcc : r.c) : StepOk P gl K w0 hl fr g w nid r ((execOp a.eval o).run P w) := by
  cases ho : o.op <;> simp only [ho, cmp, Bool.false_eq_true] at hc
  rename_i t X L Hi M
  simp only [Bool.and_eq_true] at hc
  obtain ⟨⟨⟨⟨h1, h2⟩, h3⟩, h4⟩, h5⟩ := hc
  cases L <;> simp only [optOk, Bool.false_eq_true] at h2
  cases Hi <;> simp only [optOk, Bool.false_eq_true] at h3
  cases M <;> simp only [optOk, Bool.false_eq_true] at h4
  rename_i L Hi M
  split at h5
  · rename_i el hel
    simp only [stp] at h
    split at h
    case h_2 => simp at h
    rename_i d c hx
    split at h
    case h_2 => simp at h
    rename_i sz' xs hd
    split at h
    case h_2 => simp at h
    rename_i l cl k ch q cq h6 h7 h8
    split at h
    case isFalse => simp at h
    rename_i he
    subst he
    obtain rfl := Option.some.inj h
    obtain ⟨c1, c2, c3, c4, c5, c6, c7, c8⟩ := hcc
    have hp := elems_sound hd (evs_sound hH hE h1 hx c1).1
    obtain ⟨A, m, cp, hv, _, hm, hmc, _⟩ := hp.lst_inv
    rw [hv] at hp
    obtain ⟨k1, hv1⟩ := evInt_sound hH hE h2 h6 c2
    obtain ⟨k2, hv2⟩ := evInt_sound hH hE h3 h7 c3
    obtain ⟨k3, hv3⟩ := evInt_sound hH hE h4 h8 c4
    have b1 := run_sliceBound (P := P) (w := w) k3 q cp .slice3Acap (by omega) (by omega)
    have b2 := run_sliceBound (P := P) (w := w) k2 k q.toNat .slice3B (by omega) (by omega)
    have b3 := run_sliceBound (P := P) (w := w) k1 l k.toNat .slice3C (by omega) (by omega)
    have hb : (Instr.sliceBounds true m cp (some (.int k1 l)) (some (.int k2 k)) (some (.int k3 q))).run P w = .ok (l.toNat, k.toNat, q.toNat) w := by
      simp only [Instr.sliceBounds, Sem.run_bind, b1, b2, b3, Result.andThen_ok, Sem.run_pure, Option.isSome_some, if_true]
    have hp' := hp.cut3 (l := l.toNat) (k := k.toNat) (q := q.toNat) (by omega) (by omega) (by omega) (by omega)
    obtain ⟨inf, hi', hsz⟩ := Option.map_eq_some_iff.1 (sizeIs_sound h5)
    have hs : (sizeOf el).run P w = .ok sz' w := by simp [sizeOf, typeInfo, hi', hsz]
    refine .pure hH rfl rfl ?_ (.pv hp') DV.nm_pv
    simp only [execOp, ho, hv, Instr.sliceAt, Instr.slice, Sem.run_bind, run_underlying (slE_some hel), Result.andThen_ok, Option.map_some, hv1, hv2, hv3, hb, hs, Sem.run_pure]
  · simp at h5
theorem st_cuts {x : O} {lo hi : Option O} (hc : cmp P o.op (.cuts x lo hi) = true) (h : stp gl e hl nid (.cuts x lo hi) = some r) (hcc : r.c) : StepOk P gl K w0 hl fr g w nid r ((execOp a.eval o).run P w) := by
  cases ho : o.op <;> simp only [ho, cmp, Bool.false_eq_true] at hc
  rename_i t X L Hi M
  simp only [Bool.and_eq_true] at hc
  obtain ⟨⟨⟨⟨h1, h2⟩, h3⟩, h4⟩, h5⟩ := hc
  cases M with
  | some _ => simp at h4
  | none =>
  simp only [stp] at h
  split at h
  case h_2 => simp at h
  rename_i s c hx
  split at h
  case h_2 => simp at h
  rename_i l cl k ch h6 h7
  obtain rfl := Option.some.inj h
  obtain ⟨c1, c2, c3, c4, c5, c6⟩ := hcc
  obtain ⟨hX, hsz⟩ := (evs_sound hH hE h1 hx c1).1.str_inv
  have hb := bounds_sound (P := P) hH hE h2 h3 h6 h7 c2 c3 c4 c5 c6 (Nat.le_refl s.size) false
  refine .pure hH rfl rfl (v := .string (s.extract l.toNat k.toNat)) ?_ (.pv (.str ?_)) DV.nm_pv
  · simp only [execOp, ho, hX, Instr.sliceAt, Instr.slice, Sem.run_bind, run_underlying (isStr_some h5), Result.andThen_ok, Option.map_none, Option.isSome_none, Bool.false_eq_true, if_false, hb, Sem.run_pure]
  · simp only [ByteArray.size_extract]; omega
omit hH hE in
theorem cmp_len {op : Op} {x : O} (hc : cmp P op (.len x) = true) : ∃ X t, op = .call ⟨.builtin .len, ⟨[X]⟩, ⟨[t]⟩⟩ ∧ oOk X x = true ∧ ∃ e, P.underlying t = some (.slice e) := by
  unfold cmp at hc
  split at hc <;> first
    | (rename_i heq; simp only [IOp.len.injEq] at heq; subst heq
       simp only [Bool.and_eq_true, Option.isSome_iff_exists] at hc
       obtain ⟨h1, el, hel⟩ := hc
       exact ⟨_, _, rfl, h1, el, slE_some hel⟩)
    | simp_all
omit hH hE in
theorem cmp_lens {op : Op} {x : O} (hc : cmp P op (.lens x) = true) : ∃ X t, op = .call ⟨.builtin .len, ⟨[X]⟩, ⟨[t]⟩⟩ ∧ oOk X x = true ∧ P.underlying t = some .string := by
  unfold cmp at hc
  split at hc <;> first
    | (rename_i heq; simp only [IOp.lens.injEq] at heq; subst heq
       simp only [Bool.and_eq_true] at hc
       exact ⟨_, _, rfl, hc.1, isStr_some hc.2⟩)
    | simp_all
omit hH hE in
theorem cmp_mx {op : Op} {x y : O} (hc : cmp P op (.mx x y) = true) : ∃ X Y t, op = .call ⟨.builtin .max, ⟨[X, Y]⟩, t⟩ ∧ oOk X x = true ∧ oOk Y y = true := by
  unfold cmp at hc
  split at hc <;> first
    | (rename_i heq; simp only [IOp.mx.injEq] at heq; obtain ⟨rfl, rfl⟩ := heq
       simp only [Bool.and_eq_true] at hc
       exact ⟨_, _, _, rfl, hc.1, hc.2⟩)
    | simp_all
omit hH hE in
theorem cmp_mn {op : Op} {x y : O} (hc : cmp P op (.mn x y) = true) : ∃ X Y t, op = .call ⟨.builtin .min, ⟨[X, Y]⟩, t⟩ ∧ oOk X x = true ∧ oOk Y y = true := by
  unfold cmp at hc
  split at hc <;> first
    | (rename_i heq; simp only [IOp.mn.injEq] at heq; obtain ⟨rfl, rfl⟩ := heq
       simp only [Bool.and_eq_true] at hc
       exact ⟨_, _, _, rfl, hc.1, hc.2⟩)
    | simp_all
omit hH hE in
theorem cmp_app {op : Op} {sz bytes : Nat} {x y : O} (hc : cmp P op (.app sz bytes x y) = true) : ∃ X Y t, op = .call ⟨.builtin .append, ⟨[X, Y]⟩, ⟨[t, t]⟩⟩ ∧ oOk X x = true ∧ oOk Y y = true ∧ (∃ e, AppTy P t e sz bytes) ∧ 0 < bytes := by
  unfold cmp at hc
  split at hc <;> first
    | (rename_i heq; simp only [IOp.app.injEq] at heq; obtain ⟨rfl, rfl, rfl, rfl⟩ := heq
       simp only [Bool.and_eq_true, beq_iff_eq, decide_eq_true_eq] at hc
       obtain ⟨⟨⟨⟨h1, h2⟩, rfl⟩, h3⟩, h4⟩ := hc
       exact ⟨_, _, _, rfl, h1, h2, appTyOk_sound h3, h4⟩)
    | simp_all
theorem st_len {x : O} (hc : cmp P o.op (.len x) = true) (h : stp gl e hl nid (.len x) = some r) (hcc : r.c) : StepOk P gl K w0 hl fr g w nid r ((execOp a.eval o).run P w) := by
  obtain ⟨X, t, ho, h1, el, hel⟩ := cmp_len hc
  obtain ⟨cs, hrun⟩ := step_builtin (P := P) (w := w) (a := a) ho
  rw [hrun]
  simp only [stp] at h
  split at h
  · rename_i id off m sz c hx
    obtain rfl := Option.some.inj h
    rcases evs_sound hH hE h1 hx hcc with ⟨h7, h8⟩
    obtain ⟨B, cap, hv, hcp, hmx⟩ : ∃ B cap, a.eval X = .slice (some ⟨B, off, none⟩) m cap ∧ m ≤ cap ∧ cap ≤ maxLen := by
      generalize a.eval X = v at h7
      cases h7
      exact ⟨_, _, rfl, by assumption, by assumption⟩
    simp only [maxLen] at hmx
    refine .pure hH rfl rfl (v := .int .i64 m) ?_ (.pv (.int ?_ ?_)) DV.nm_pv
    · simp [builtin, Builtin.len_, hv, run_underlying hel, goInt]
    · simp only [IntKind.min, IntKind.signed, IntKind.bits, if_true]; omega
    · simp only [IntKind.max, IntKind.signed, IntKind.bits, if_true]; omega
  · rename_i d c _ hx
    simp only [Option.map_eq_some_iff] at h
    obtain ⟨⟨sz, xs⟩, hd, rfl⟩ := h
    have hp := elems_sound hd (evs_sound hH hE h1 hx hcc).1
    obtain ⟨A, m, cp, hv, _, hm, hmc, hmx, _⟩ := hp.lst_inv
    simp only [maxLen] at hmx
    refine .pure hH rfl rfl (v := .int .i64 xs.length) ?_ (.pv (.int ?_ ?_)) DV.nm_pv
    · simp [builtin, Builtin.len_, hv, run_underlying hel, goInt, hm]
    · simp only [IntKind.min, IntKind.signed, IntKind.bits, if_true]; omega
    · simp only [IntKind.max, IntKind.signed, IntKind.bits, if_true]; omega
  · simp at h
theorem st_lens {x : O} (hc : cmp P o.op (.lens x) = true) (h : stp gl e hl nid (.lens x) = some r) (hcc : r.c) : StepOk P gl K w0 hl fr g w nid r ((execOp a.eval o).run P w) := by
  obtain ⟨X, t, ho, h1, hel⟩ := cmp_lens hc
  obtain ⟨cs, hrun⟩ := step_builtin (P := P) (w := w) (a := a) ho
  rw [hrun]
  simp only [stp] at h
  split at h
  · rename_i s c hx
    obtain rfl := Option.some.inj h
    obtain ⟨hv, hmx⟩ := (evs_sound hH hE h1 hx hcc).1.str_inv
    simp only [maxLen] at hmx
    refine .pure hH rfl rfl (v := .int .i64 s.size) ?_ (.pv (.int ?_ ?_)) DV.nm_pv
    · simp [builtin, Builtin.len_, hv, run_underlying hel, goInt]
    · simp only [IntKind.min, IntKind.signed, IntKind.bits, if_true]; omega
    · simp only [IntKind.max, IntKind.signed, IntKind.bits, if_true]; omega
  · simp at h
theorem st_mx {x y : O} (hc : cmp P o.op (.mx x y) = true) (h : stp gl e hl nid (.mx x y) = some r) (hcc : r.c) : StepOk P gl K w0 hl fr g w nid r ((execOp a.eval o).run P w) := by
  obtain ⟨X, Y, t, ho, h1, h2⟩ := cmp_mx hc
  obtain ⟨cs, hrun⟩ := step_builtin (P := P) (w := w) (a := a) ho
  rw [hrun]
  simp only [stp] at h
  split at h
  · rename_i k i c k' j c' hx hy
    split at h
    case isFalse => simp at h
    rename_i he; subst he
    obtain rfl := Option.some.inj h
    obtain ⟨hv, h3⟩ := (evs_sound hH hE h1 hx hcc.1).1.int_inv
    obtain ⟨hu, h4⟩ := (evs_sound hH hE h2 hy hcc.2).1.int_inv
    refine .pure hH rfl rfl (v := .int k (max i j)) ?_ (.pv (.int ?_ ?_)) DV.nm_pv
    · have : (if i < j then j else i) = max i j := by split <;> omega
      simp [builtin, Builtin.max_, Builtin.max2, hv, hu, this]
    · omega
    · omega
  · simp at h
theorem st_mn {x y : O} (hc : cmp P o.op (.mn x y) = true) (h : stp gl e hl nid (.mn x y) = some r) (hcc : r.c) : StepOk P gl K w0 hl fr g w nid r ((execOp a.eval o).run P w) := by
  obtain ⟨X, Y, t, ho, h1, h2⟩ := cmp_mn hc
  obtain ⟨cs, hrun⟩ := step_builtin (P := P) (w := w) (a := a) ho
  rw [hrun]
  simp only [stp] at h
  split at h
  · rename_i k i c k' j c' hx hy
    split at h
    case isFalse => simp at h
    rename_i he; subst he
    obtain rfl := Option.some.inj h
    obtain ⟨hv, h3⟩ := (evs_sound hH hE h1 hx hcc.1).1.int_inv
    obtain ⟨hu, h4⟩ := (evs_sound hH hE h2 hy hcc.2).1.int_inv
    refine .pure hH rfl rfl (v := .int k (min i j)) ?_ (.pv (.int ?_ ?_)) DV.nm_pv
    · have : (if j < i then j else i) = min i j := by split <;> omega
      simp [builtin, Builtin.min_, Builtin.min2, hv, hu, this]
    · omega
    · omega
  · simp at h
omit hH hE in
theorem frl_one (fr : Nat → Prop) (i : Nat) : frl fr i 1 = fun j => fr j ∧ j ≠ i := by
  funext j
  simp only [frl, eq_iff_iff]
  constructor <;> (rintro ⟨h1, h2⟩; exact ⟨h1, by omega⟩)
omit hH hE in
theorem nm_new {fr : Nat → Prop} {i : Nat} {d : DV} (h : d.nm fun j => ¬ fr j) : d.nm fun j => ¬ (fr j ∧ j ≠ i) := DV.nm_mono (fun j hj hf => hj hf.1) d h
theorem st_app {sz bytes : Nat} {x y : O} (hc : cmp P o.op (.app sz bytes x y) = true) (h : stp gl e hl nid (.app sz bytes x y) = some r) (hcc : r.c) (hnid : fr nid) : StepOk P gl K w0 hl fr g w nid r ((execOp a.eval o).run P w) := by
  obtain ⟨X, Y, t, ho, h1, h2, ⟨el, hT⟩, hpos⟩ := cmp_app hc
  obtain ⟨cs, hrun⟩ := step_builtin (P := P) (w := w) (a := a) ho
  rw [hrun]
  have hb : ∀ xs ys : List PV, (xs.length + ys.length) * bytes ≤ 140737488355328 → xs.length + ys.length ≤ 9223372036854775807 := fun xs ys h => by
    have := Nat.le_mul_of_pos_right (xs.length + ys.length) hpos; omega
  simp only [stp] at h
  split at h
  case h_2 => simp at h
  rename_i d c b c' hx hy
  split at h
  case h_2 => simp at h
  rename_i sz' ys hel
  split at h
  · split at h
    case isFalse => simp at h
    rename_i he; subst he
    obtain rfl := Option.some.inj h
    obtain ⟨hc1, hc2, hc3⟩ := hcc
    have hpy := elems_sound hel (evs_sound hH hE h2 hy hc2).1
    have hX := (evs_sound hH hE h1 hx hc1).1
    generalize hv : a.eval X = v at hX
    cases hX
    have hz : 0 < sz' := by obtain ⟨_, _, _, _, _, _, _, _, hz, _⟩ := hpy.lst_inv; exact hz
    obtain ⟨v', w', g', k1, k2, k3, k4⟩ := app_full (P := P) (ty := o.type) hH hT (xs := []) (A := none) (n := 0) (.lst [] rfl (Nat.le_refl _) (Nat.zero_le _) hz (by simp) (by simp [flat]) (by simp [flat]) (by simp) (.inl rfl)) (fun _ => rfl) hpy (.inl hnid) (by simpa using hc3) (by have := hb [] ys; simp at this; simpa using this hc3)
    refine ⟨_, v', w', g', ?_, .inl rfl, ?_, k3, ?_, ?_⟩
    · simp [builtin, hv, k1]
    · rw [frl_one]; simpa [upf] using k2
    · simpa using k4
    · rw [frl_one]; exact DV.nm_own.2 (by simp)
  · split at h
    case isFalse => simp at h
    rename_i he; obtain ⟨rfl, rfl⟩ := he
    obtain rfl := Option.some.inj h
    obtain ⟨hc1, hc2, hc3⟩ := hcc
    have hpy := elems_sound hel (evs_sound hH hE h2 hy hc2).1
    have hX := (evs_sound hH hE h1 hx hc1).1
    generalize hv : a.eval X = v at hX
    cases hX
    rename_i B m hp
    obtain ⟨v', w', g', k1, k2, k3, k4⟩ := app_full (P := P) (ty := o.type) hH hT hp (by simp) hpy (.inl hnid) hc3 (hb _ _ hc3)
    refine ⟨_, v', w', g', ?_, .inl rfl, ?_, k3, k4, ?_⟩
    · simp [builtin, hv, k1]
    · rw [frl_one]; simpa [upf] using k2
    · rw [frl_one]; exact DV.nm_own.2 (by simp)
  · rename_i id sz'' xs
    split at h
    case h_2 => simp at h
    rename_i _ m hob
    split at h
    case isFalse => simp at h
    rename_i he; obtain ⟨rfl, rfl, rfl⟩ := he
    obtain rfl := Option.some.inj h
    obtain ⟨hc1, hc2, rfl, hc3⟩ := hcc
    have hpy := elems_sound hel (evs_sound hH hE h2 hy hc2).1
    have hX := evs_sound hH hE h1 hx hc1
    have hnf := hH.ids _ _ hob
    have hfr : (fun i => fr i ∧ i ≠ id) = fr := funext fun i => propext ⟨fun h => h.1, fun h => ⟨h, fun he => hnf (he ▸ h)⟩⟩
    obtain ⟨v', w', g', k1, k2, k3, k4⟩ := app_own (P := P) (ty := o.type) hH hT hX.1 hob hpy hc3 (hb _ _ hc3)
    rw [hfr] at k2
    refine ⟨_, v', w', g', ?_, .inl rfl, ?_, k3, k4, ?_⟩
    · simp [builtin, k1]
    · simpa [upf, frl] using k2
    · exact DV.nm_own.2 hnf
  · simp at h
end
end Go.Proofs.YthocoandbiaoiaaDoorV

namespace Go.Proofs.YthocoandbiaoiaaDoorV
open Go
theorem placesOf_struct {P : Program} {w : World} {t : TypeId} {fs : Array Field} (h : P.underlying t = some (.struct fs)) (hf : fieldsOk P t = true) :
    ∃ pl : Array (Nat × Nat), (fs.mapM (m := Sem) fun f => do pure (f.offset, ← sizeOf f.type)).run P w = .ok pl w ∧ ∀ i, pl[i]? = placesOf P t i := by
  have hst : stF P t = some fs := by simp [stF, h]
  simp only [fieldsOk, hst, List.all_eq_true] at hf
  refine ⟨fs.map fun f => (f.offset, ((P.info? f.type).map (·.size)).getD 0), ?_, fun i => ?_⟩
  · have key : ∀ l : List Field, (∀ f ∈ l, (P.info? f.type).isSome = true) → (l.mapM (m := Sem) fun f => do pure (f.offset, ← sizeOf f.type)).run P w = .ok (l.map fun f => (f.offset, ((P.info? f.type).map (·.size)).getD 0)) w := by
      intro l
      induction l with
      | nil => intro _; simp
      | cons f r ih =>
        intro hl
        obtain ⟨inf, hinf⟩ := Option.isSome_iff_exists.1 (hl f (List.mem_cons_self ..))
        have hs : (sizeOf f.type).run P w = .ok inf.size w := by simp [sizeOf, typeInfo, hinf]
        simp only [List.mapM_cons, Sem.run_bind, hs, Result.andThen_ok, Sem.run_pure, ih fun x hx => hl x (List.mem_cons_of_mem _ hx), List.map_cons, hinf, Option.map_some, Option.getD_some]
    rw [Array.mapM_eq_mapM_toList, Sem.run_map, key _ fun f hf' => hf f hf']
    simp only [Result.andThen_ok]
    congr 1
    exact Array.ext' (by simp)
  · simp only [placesOf, hst, Array.getElem?_map]
    cases hi : fs[i]? with
    | none => rfl
    | some f =>
      have hm : f ∈ fs.toList := Array.mem_toList_iff.2 (Array.mem_of_getElem? hi)
      obtain ⟨inf, hinf⟩ := Option.isSome_iff_exists.1 (hf f hm)
      simp [hinf]
theorem partsOk_sound {place : Nat → Option (Nat × Nat)} : ∀ {Ps : List (Nat × Operand)} {qs : List ((Nat × Nat) × O)}, partsOk place Ps qs = true →
    Ps.length = qs.length ∧ oOks (Ps.map (·.2)) (qs.map (·.2)) = true ∧ ∀ (j : Nat) (x : Nat × Operand) (y : (Nat × Nat) × O), Ps[j]? = some x → qs[j]? = some y → place x.1 = some y.1
  | [], [], _ => ⟨rfl, rfl, by simp⟩
  | (i, X) :: r, (p, x) :: q, h => by
    simp only [partsOk, Bool.and_eq_true, beq_iff_eq] at h
    obtain ⟨h1, h2, h3⟩ := partsOk_sound h.2
    refine ⟨by simp [h1], by simp [oOks, h.1.2, h2], fun j => ?_⟩
    cases j with
    | zero => simp only [List.getElem?_cons_zero, Option.some.injEq]; rintro _ _ rfl rfl; exact h.1.1
    | succ j => simpa using h3 j
  | [], _ :: _, h => by simp [partsOk] at h
  | _ :: _, [], h => by simp [partsOk] at h
theorem rowOk_sound (ρ : Operand → Value) : ∀ {Ps : List (Nat × Operand)} {qs : List O} {k : Nat}, rowOk k Ps qs = true →
    Ps.length = qs.length ∧ oOks (Ps.map (·.2)) qs = true ∧ Ps.map (fun x => (x.1, ρ x.2)) = ((Ps.map fun x => ρ x.2).zipIdx k).map fun x => (x.2, x.1)
  | [], [], _, _ => ⟨rfl, rfl, rfl⟩
  | (i, X) :: r, x :: q, k, h => by
    simp only [rowOk, Bool.and_eq_true, beq_iff_eq] at h
    obtain ⟨h1, h2, h3⟩ := rowOk_sound ρ h.2
    exact ⟨by simp [h1], by simp [oOks, h.1.2, h2], by simp [List.zipIdx_cons, h3, h.1.1]⟩
  | [], _ :: _, _, h => by simp [rowOk] at h
  | _ :: _, [], _, h => by simp [rowOk] at h
theorem build_run {P : Program} {w : World} {t : TypeId} {v : Value} {r : Array Value} {ps : Array (Nat × Value)} (hz : (zeroValue t).run P w = .ok v w) (hf : fieldsOk P t = true) (h : Instr.fill (placesOf P t) v.cells ps.toList = some r) :
    (Instr.build t ps).run P w = .ok (.agg r) w := by
  cases hs : stF P t with
  | some fs =>
    have hu := stF_some hs
    obtain ⟨pl, h1, h2⟩ := placesOf_struct (w := w) hu hf
    have h3 : (fun i => pl[i]?) = placesOf P t := funext h2
    simp only [Instr.build, Sem.run_bind, hz, Result.andThen_ok, run_underlying hu, h1, h3, h, Sem.run_pure]
  | none =>
    simp only [fieldsOk, hs] at hf
    split at hf
    case h_2 => simp at hf
    rename_i m el hel
    obtain ⟨inf, hinf⟩ := Option.isSome_iff_exists.1 hf
    have hu := arE_some hel
    have hs' : (sizeOf el).run P w = .ok inf.size w := by simp [sizeOf, typeInfo, hinf]
    have h3 : (fun i => some (i * inf.size, inf.size)) = placesOf P t := funext fun i => by simp [placesOf, hs, hel, hinf]
    simp only [Instr.build, Sem.run_bind, hz, Result.andThen_ok, run_underlying hu, hs', h3, h, Sem.run_pure]
section
variable {P : Program} {gl : Glob} {K : Nat → Prop} {w0 : World} {hl : Nat → Option Ob} {fr : Nat → Prop} {g : Gh} {w : World} {n : NT} {e : Env} {a : Act} {nid : Nat}
variable (hH : SimH gl K w0 hl fr g w) (hE : SimE n (eget e) fr g a) {o : Oper} {r : Stp}
include hH hE
omit hE in
theorem StepOk.newBox {cs : List DV} {vs : Array Value} {el : TypeId} {c : Prop} {rd : List Nat} {x : Result Next} {d : DV} {v : Value} (hnid : fr nid) (hlen : cs.length ≤ vs.size) (hone : ∀ v ∈ vs.toList, v.oneCell' = true)
    (hc : ∀ (j : Nat) (c : DV) (v : Value), cs[j]? = some c → vs[j]? = some v → DRep g c v) (hn : ∀ c ∈ cs, c.nm fun i => ¬ fr i)
    (hx : x = .ok (.value v) (w.alloc (.cells vs el))) (hd : ∀ g' : Gh, g'.μ nid = some w.heap.size → DRep g' d v) (hnm : d.nm fun i => ¬ (fr i ∧ i ≠ nid)) :
    StepOk P gl K w0 hl fr g w nid { v := d, up := [(nid, .box cs)], rd := rd, al := 1, c := c } x := by
  obtain ⟨g', h1, h2, h3⟩ := hH.newBox hnid (e := el) hlen hone hc hn
  refine ⟨_, v, _, g', hx, .inl rfl, ?_, h2, hd g' h3, ?_⟩
  · rw [frl_one]; exact h1
  · rw [frl_one]; exact hnm
theorem st_alloc {z : List DV} (hc : cmp P o.op (.alloc z) = true) (h : stp gl e hl nid (.alloc z) = some r) (hnid : fr nid) : StepOk P gl K w0 hl fr g w nid r ((execOp a.eval o).run P w) := by
  cases ho : o.op <;> simp only [ho, cmp, Bool.false_eq_true] at hc
  rename_i t
  obtain ⟨v, h1, h2⟩ := zeroOk_sound hc
  obtain ⟨h3, h4, h5, h6⟩ := vOks_rep (g := g) h2
  obtain rfl := Option.some.inj h
  refine StepOk.newBox hH hnid (vs := v.cells) (el := t) (v := .pointer (some ⟨w.heap.size, 0, none⟩)) (by rw [show z.length = v.cells.size by simpa using h3]; exact Nat.le_refl _) h5 (fun j c v hc hv => h4 j c v hc (by simpa using hv)) (fun c hc => h6 _ c hc) ?_ (fun g' h => .ptr h) (DV.nm_ptr.2 (by simp))
  simp [execOp, ho, Instr.alloc, h1, newVar, newRow]
theorem st_box {k : Nat} {x : O} (hc : cmp P o.op (.box k x) = true) (h : stp gl e hl nid (.box k x) = some r) (hcc : r.c) (hnid : fr nid) : StepOk P gl K w0 hl fr g w nid r ((execOp a.eval o).run P w) := by
  cases ho : o.op <;> simp only [ho, cmp, Bool.false_eq_true] at hc
  rename_i t X
  simp only [stp] at h
  split at h
  case h_2 => simp at h
  rename_i d c hx
  split at h
  case isFalse => simp at h
  rename_i hk
  obtain rfl := Option.some.inj h
  obtain ⟨h1, h2⟩ := evs_sound hH hE hc hx hcc
  obtain ⟨h3, h4, h5, h6⟩ := dcells_sound h1 (by omega) h2
  refine StepOk.newBox hH hnid (vs := (a.eval X).cells) (el := t) (v := .pointer (some ⟨w.heap.size, 0, none⟩)) (Nat.le_of_eq h3) h4 h5 h6 ?_ (fun g' h => .ptr h) (DV.nm_ptr.2 (by simp))
  simp [execOp, ho, Instr.box, newVar, newRow]
theorem st_store {k : Nat} {x y : O} (hc : cmp P o.op (.store k x y) = true) (h : stp gl e hl nid (.store k x y) = some r) (hcc : r.c) : StepOk P gl K w0 hl fr g w nid r ((execOp a.eval o).run P w) := by
  cases ho : o.op <;> simp only [ho, cmp, Bool.false_eq_true] at hc
  rename_i t X Y
  simp only [Bool.and_eq_true] at hc
  obtain ⟨⟨h1, h2⟩, h3⟩ := hc
  simp only [stp] at h
  split at h
  case h_2 => simp at h
  rename_i id off c d c' hx hy
  split at h
  case h_2 => simp at h
  rename_i cs hob
  split at h
  case isFalse => simp at h
  rename_i hk
  obtain rfl := Option.some.inj h
  obtain ⟨w', k1, k2⟩ := store_sound (P := P) hH hob (evs_sound hH hE h1 hx hcc.1).1 (evs_sound hH hE h2 hy hcc.2).1 (evs_sound hH hE h2 hy hcc.2).2 hk.2.2 hk.2.1 hk.1 (sizeIs_sound h3)
  refine ⟨.skip, undef, w', g, ?_, .inr ⟨rfl, rfl⟩, ?_, GLe.refl _ _ _, .junk, DV.nm_junk⟩
  · simp [execOp, ho, k1]
  · simpa [upf, frl] using k2
theorem st_build {z : List DV} {qs : List ((Nat × Nat) × O)} (hc : cmp P o.op (.build z qs) = true) (h : stp gl e hl nid (.build z qs) = some r) (hcc : r.c) : StepOk P gl K w0 hl fr g w nid r ((execOp a.eval o).run P w) := by
  cases ho : o.op <;> simp only [ho, cmp, Bool.false_eq_true] at hc
  rename_i t ps
  simp only [Bool.and_eq_true] at hc
  obtain ⟨⟨h1, h2⟩, h3⟩ := hc
  obtain ⟨zv, k1, k2⟩ := zeroOk_sound h1
  obtain ⟨k3, k4, k5, k6⟩ := vOks_rep (g := g) k2
  obtain ⟨k7, k8, k9⟩ := partsOk_sound h3
  simp only [stp] at h
  split at h
  case h_2 => simp at h
  rename_i ds c hx
  simp only [Option.map_eq_some_iff] at h
  obtain ⟨cs, hf, rfl⟩ := h
  obtain ⟨m1, m2, m3⟩ := evAll_sound hH hE k8 hx hcc
  have m1' : ds.length = ps.size := by simpa using m1
  have k7' : ps.size = qs.length := by simpa using k7
  obtain ⟨rs, f1, f2, f3, f4, f5⟩ := fill_rep (g := g) (p := fun i => ¬ fr i) (place := placesOf P t) (ps := (qs.map (·.1)).zip ds) (qs := (ps.map fun x => (x.1, a.eval x.2)).toList) (z := z) (r := cs) (zs := zv.cells)
    (by simp; omega) (fun j x y hx hy => by
      rw [List.getElem?_zip_eq_some] at hx
      simp only [List.getElem?_map, Array.toList_map, Option.map_eq_some_iff] at hx hy
      obtain ⟨⟨q, hq, hq'⟩, hd⟩ := hx
      obtain ⟨p, hp, rfl⟩ := hy
      refine ⟨by rw [← hq']; exact k9 j p q hp hq, ?_, m3 _ (List.mem_of_getElem? hd)⟩
      exact m2 j _ p.2 hd (by simp only [List.getElem?_map, hp, Option.map_some]))
    (by simpa using k3) k5 (fun j c v hc hv => k4 j c v hc (by simpa using hv)) (fun c hc => k6 _ c hc) hf
  have hm := mkAgg_sound f2 f3 f4 f5
  refine .pure hH rfl rfl (v := .agg rs) ?_ hm.1 hm.2
  have := build_run (w := w) (k1 w) h2 f1
  simp only [execOp, ho, Sem.run_bind, this, Result.andThen_ok, Sem.run_pure]
theorem st_lit {sz : Nat} {qs : List O} (hc : cmp P o.op (.lit sz qs) = true) (h : stp gl e hl nid (.lit sz qs) = some r) (hcc : r.c) : StepOk P gl K w0 hl fr g w nid r ((execOp a.eval o).run P w) := by
  cases ho : o.op <;> simp only [ho, cmp, Bool.false_eq_true] at hc
  rename_i t len ps
  simp only [Bool.and_eq_true, beq_iff_eq, decide_eq_true_eq] at hc
  obtain ⟨⟨⟨h1, rfl⟩, h2⟩, h3⟩ := hc
  split at h1
  case h_2 => simp at h1
  obtain ⟨el, hT⟩ := appTyOk_sound h1
  obtain ⟨k1, k2, k3⟩ := rowOk_sound a.eval h3
  simp only [stp] at h
  split at h
  case h_2 => simp at h
  rename_i ds c hx
  split at h
  case h_2 => simp at h
  rename_i xs hp
  split at h
  case isFalse => simp at h
  rename_i hall
  simp only [Bool.and_eq_true, List.all_eq_true, beq_iff_eq, decide_eq_true_eq] at hall
  obtain rfl := Option.some.inj h
  obtain ⟨m1, m2, m3⟩ := evAll_sound hH hE k2 hx hcc
  obtain ⟨n1, n2⟩ := toPVall_sound hp
  have m1' : ds.length = ps.size := by simpa using m1
  have k1' : ps.size = qs.length := by simpa using k1
  obtain ⟨v', w', g', f1, f2, f3, f4⟩ := lit_sound (P := P) hH hT hall.2 (xs := xs) (vs := ps.toList.map fun x => a.eval x.2) (by simp; omega) (by rw [n1, m1', k1']; exact h2)
    (fun j p v hp hv => by
      simp only [List.getElem?_map, Option.map_eq_some_iff] at hv
      obtain ⟨q, hq, rfl⟩ := hv
      have hlt : j < ds.length := by rw [← n1]; exact (List.getElem?_eq_some_iff.1 hp).1
      have hd : ds[j]? = some ds[j] := List.getElem?_eq_getElem hlt
      exact n2 j _ p _ hd hp (m2 j _ q.2 hd (by simp only [List.getElem?_map, hq, Option.map_some]))) hall.1
  refine ⟨_, v', w', g', ?_, .inl rfl, f2, f3, f4, DV.nm_flit⟩
  have hps : (ps.map fun x => (x.1, a.eval x.2)) = ((ps.toList.map fun x => a.eval x.2).zipIdx.map fun x => (x.2, x.1)).toArray := by
    rw [← k3]; exact Array.ext' (by simp)
  have hlen : (ps.toList.map fun x => a.eval x.2).length = qs.length := by simp; omega
  rw [hlen] at f1
  simp only [execOp, ho, Sem.run_bind]
  have hps' := hps
  rw [hps', f1]
  simp
omit hH hE in
theorem dflat_length {sz : Nat} : ∀ {ds : List DV}, (∀ d ∈ ds, (dcells d).length = sz) → (ds.flatMap dcells).length = ds.length * sz
  | [], _ => by simp
  | x :: xs, h => by
    rw [List.flatMap_cons, List.length_append, h x (List.mem_cons_self ..), dflat_length fun y hy => h y (List.mem_cons_of_mem _ hy), List.length_cons, Nat.add_mul]; omega
omit hH hE in
theorem dflat_get {sz : Nat} : ∀ {ds : List DV}, (∀ d ∈ ds, (dcells d).length = sz) → ∀ {i j : Nat} {d : DV}, ds[i]? = some d → j < sz → (ds.flatMap dcells)[i * sz + j]? = (dcells d)[j]?
  | [], _, i, j, d, hi, _ => by simp at hi
  | y :: r, h, i, j, d, hi, hj => by
    have hy := h y (List.mem_cons_self ..)
    rw [List.flatMap_cons]
    rcases i with _ | i
    · simp at hi; subst hi
      rw [Nat.zero_mul, Nat.zero_add, List.getElem?_append_left (by omega)]
    · simp at hi
      rw [List.getElem?_append_right (by rw [Nat.add_mul]; omega), hy, show (i + 1) * sz + j - sz = i * sz + j by rw [Nat.add_mul]; omega]
      exact dflat_get (fun d hd => h d (List.mem_cons_of_mem _ hd)) hi hj
theorem st_litm {sz : Nat} {qs : List O} (hc : cmp P o.op (.litm sz qs) = true) (h : stp gl e hl nid (.litm sz qs) = some r) (hcc : r.c) (hnid : fr nid) : StepOk P gl K w0 hl fr g w nid r ((execOp a.eval o).run P w) := by
  cases ho : o.op <;> simp only [ho, cmp, Bool.false_eq_true] at hc
  rename_i t len ps
  simp only [Bool.and_eq_true, beq_iff_eq, decide_eq_true_eq] at hc
  obtain ⟨⟨⟨h1, rfl⟩, h2⟩, h3⟩ := hc
  split at h1
  case h_2 => simp at h1
  obtain ⟨el, hT⟩ := appTyOk_sound h1
  obtain ⟨k1, k2, k3⟩ := rowOk_sound a.eval h3
  simp only [stp] at h
  split at h
  case h_2 => simp at h
  rename_i ds c hx
  split at h
  case isFalse => simp at h
  rename_i hall
  simp only [Bool.and_eq_true, List.all_eq_true, beq_iff_eq, decide_eq_true_eq] at hall
  obtain rfl := Option.some.inj h
  obtain ⟨m1, m2, m3⟩ := evAll_sound hH hE k2 hx hcc
  have m1' : ds.length = ps.size := by simpa using m1
  have k1' : ps.size = qs.length := by simpa using k1
  have hlen : (ps.toList.map fun x => a.eval x.2).length = qs.length := by simp; omega
  have hdv : ∀ (j : Nat) (d : DV) (v : Value), ds[j]? = some d → (ps.toList.map fun x => a.eval x.2)[j]? = some v → DRep g d v ∧ 0 < (dcells d).length ∧ (dcells d).length = sz ∧ d.nm fun i => ¬ fr i := fun j d v hd hv => by
    have hm := List.mem_of_getElem? hd
    have hz := hall.1 d hm
    simp only [List.getElem?_map, Option.map_eq_some_iff] at hv
    obtain ⟨q, hq, rfl⟩ := hv
    exact ⟨m2 j d q.2 hd (by simp only [List.getElem?_map, hq, Option.map_some]), by omega, hz, m3 d hm⟩
  have hcs : ∀ v ∈ ps.toList.map (fun x => a.eval x.2), v.cells.size = sz := fun v hv => by
    obtain ⟨j, hj, rfl⟩ := List.getElem_of_mem hv
    have hlt : j < ds.length := by omega
    obtain ⟨d1, d2, d3, d4⟩ := hdv j _ _ (List.getElem?_eq_getElem hlt) (List.getElem?_eq_getElem hj)
    rw [← (dcells_sound d1 d2 d4).1]; exact d3
  obtain ⟨row, f1, f2, f3⟩ := row_run (P := P) w hT hcs (by rw [hlen]; exact h2)
  have hfl : (ds.flatMap dcells).length = qs.length * sz := by rw [dflat_length hall.1, m1', k1']
  rw [hlen] at f1 f2
  have hcell : ∀ (q : Nat), q < qs.length * sz → ∃ (d : DV) (v : Value), DRep g d v ∧ 0 < (dcells d).length ∧ (d.nm fun i => ¬ fr i) ∧ (ds.flatMap dcells)[q]? = (dcells d)[q % sz]? ∧ row[q]? = v.cells[q % sz]? := fun q hq => by
    have hi1 : q / sz < qs.length := Nat.div_lt_of_lt_mul (by rw [Nat.mul_comm]; exact hq)
    have hj1 : q % sz < sz := Nat.mod_lt _ hall.2
    have hqe : q / sz * sz + q % sz = q := by rw [Nat.mul_comm]; exact Nat.div_add_mod q sz
    have hlt : q / sz < ds.length := by omega
    have hlt2 : q / sz < (ps.toList.map fun x => a.eval x.2).length := by omega
    obtain ⟨d1, d2, d3, d4⟩ := hdv _ _ _ (List.getElem?_eq_getElem hlt) (List.getElem?_eq_getElem hlt2)
    have a1 := dflat_get hall.1 (List.getElem?_eq_getElem hlt) hj1
    have a2 := f3 _ (q % sz) _ (List.getElem?_eq_getElem hlt2) hj1
    rw [hqe] at a1 a2
    exact ⟨_, _, d1, d2, d4, a1, a2⟩
  refine StepOk.newBox hH hnid (vs := row) (el := el) (v := .slice (some ⟨w.heap.size, 0, none⟩) qs.length qs.length) ?_ ?_ ?_ ?_ ?_ (fun g' h => ?_) (DV.nm_mrow.2 (by simp))
  · rw [hfl, f2]; exact Nat.le_refl _
  · intro v hv
    obtain ⟨q, hq, rfl⟩ := List.getElem_of_mem hv
    have hq' : q < row.size := by simpa using hq
    obtain ⟨d, u, d1, d2, d4, -, e2⟩ := hcell q (by omega)
    rw [Array.getElem?_eq_getElem hq'] at e2
    have := (dcells_sound d1 d2 d4).2.1 _ (by rw [Array.mem_toList_iff]; exact Array.mem_of_getElem? e2.symm)
    simpa using this
  · intro j c v hc hv
    obtain ⟨d, u, d1, d2, d4, e1, e2⟩ := hcell j (by rw [← hfl]; exact (List.getElem?_eq_some_iff.1 hc).1)
    exact (dcells_sound d1 d2 d4).2.2.1 _ c v (by rw [← e1]; exact hc) (by rw [← e2]; exact hv)
  · intro c hc
    obtain ⟨j, hj, rfl⟩ := List.getElem_of_mem hc
    obtain ⟨d, u, d1, d2, d4, e1, -⟩ := hcell j (by rw [← hfl]; exact hj)
    rw [List.getElem?_eq_getElem hj] at e1
    exact (dcells_sound d1 d2 d4).2.2.2 _ (List.mem_of_getElem? e1.symm)
  · have hps : (ps.map fun x => (x.1, a.eval x.2)) = ((ps.toList.map fun x => a.eval x.2).zipIdx.map fun x => (x.2, x.1)).toArray := by
      rw [← k3]; exact Array.ext' (by simp)
    simp only [execOp, ho, Sem.run_bind]
    rw [hps, f1]
    simp
  · rw [m1', k1']
    refine .mrow h (Nat.le_refl _) ?_
    have : qs.length ≤ qs.length * sz := Nat.le_mul_of_pos_right _ hall.2
    simp only [maxLen]; omega
theorem st_mkz {bytes : Nat} {z : PV} {x : O} (hc : cmp P o.op (.mkz bytes z x) = true) (h : stp gl e hl nid (.mkz bytes z x) = some r) (hcc : r.c) : StepOk P gl K w0 hl fr g w nid r ((execOp a.eval o).run P w) := by
  cases ho : o.op <;> simp only [ho, cmp, Bool.false_eq_true] at hc
  rename_i t L C
  simp only [Bool.and_eq_true] at hc
  obtain ⟨⟨h1, h2⟩, h3⟩ := hc
  split at h3
  case h_2 => simp at h3
  rename_i el hel
  simp only [Bool.and_eq_true, beq_iff_eq, decide_eq_true_eq] at h3
  obtain ⟨⟨⟨⟨h4, h5⟩, h6⟩, h8⟩, h9⟩ := h3
  obtain ⟨inf, zv, hi, hz, k2⟩ := zeroOk_info h4
  obtain ⟨k3, k4, k5, k6⟩ := vOks_rep (g := g) k2
  simp only [stp] at h
  split at h
  case h_2 => simp at h
  rename_i kk m c hx
  obtain rfl := Option.some.inj h
  obtain ⟨hc1, hc2, hc3⟩ := hcc
  have hL := (evs_sound hH hE h1 hx hc1).1.int_inv.1
  have hC := (evs_sound hH hE h2 hx hc1).1.int_inv.1
  have hsz : inf.size = 1 := by simpa [hi] using sizeIs_sound h5
  have hby : inf.bytes = bytes := by simpa [hi] using h6
  obtain ⟨q, rfl⟩ := Int.eq_ofNat_of_zero_le hc2
  have hq : q * bytes ≤ 140737488351232 := by have h := hc3; rw [← Int.natCast_mul] at h; omega
  have hq' : q ≤ 140737488351232 := Nat.le_trans (Nat.le_mul_of_pos_right q h9) hq
  have hzs : zv.cells.size = 1 := by
    have : [DV.pv z].length = zv.cells.size := by simpa using k3
    simpa using this.symm
  have hrun := run_make (P := P) w t el inf zv (slE_some hel) hi hz kk kk q q hc2 (Int.le_refl _) (by rw [hby, ← Int.natCast_mul, Nat.mul_comm]; omega) (by omega)
  rw [hsz, Nat.mul_one] at hrun
  have hnat : ((q : Int)).toNat = q := by simp
  have hz1 : z.cells.length = 1 ∧ z.one = true ∧ z.cells = [z] := by cases z <;> simp_all [PV.scal, PV.cells, PV.one]
  have hfl : flat (List.replicate q z) = List.replicate q z := by
    have : ∀ n : Nat, flat (List.replicate n z) = List.replicate n z := fun n => by
      induction n with
      | zero => rfl
      | succ n ih => rw [List.replicate_succ, flat_cons, ih, hz1.2.2]; rfl
    exact this q
  have hsize : (madeCells zv.cells q).size = q := by simp [madeCells]
  have hval : ∀ (j : Nat) (v : Value), (madeCells zv.cells q)[j]? = some v → zv.cells.toList[0]? = some v := by
    intro j v hv
    simp only [madeCells, Array.getElem?_map, Option.map_eq_some_iff] at hv
    obtain ⟨i, hi, rfl⟩ := hv
    rw [hzs, getElem!_pos zv.cells _ (by omega)]
    simp [hzs, Nat.mod_one]
  obtain ⟨g', f1, f2, f3⟩ := hH.newMem (madeCells zv.cells q) el
  refine ⟨_, .slice (some ⟨w.heap.size, 0, none⟩) q q, _, g', ?_, .inl rfl, f1, f2, ?_, DV.nm_flit⟩
  · simp only [execOp, ho, hL, hC, Sem.run_bind, hrun, hnat, Result.andThen_ok, Sem.run_pure]
  · rw [hnat]
    refine .flit (.lst (madeCells zv.cells q).toList (by simp) (Nat.le_refl _) (by unfold maxLen; omega) (by omega) (fun y hy => ?_) (fun c hc => ?_) ?_ (fun j u v hu hv => ?_) (.inr ⟨_, 0, rfl, fun j v hv => by rw [Nat.zero_add]; exact f3 j v (by simpa using hv)⟩))
    · rw [(List.mem_replicate.1 hy).2]; exact hz1.1
    · rw [hfl] at hc; rw [(List.mem_replicate.1 hc).2]; exact hz1.2.1
    · rw [hfl]; simp [hsize]
    · rw [hfl] at hu
      have hu' : u = z := (List.mem_replicate.1 (List.mem_of_getElem? hu)).2
      subst hu'
      have := k4 0 (.pv u) v (by simp) (hval j v (by simpa using hv))
      exact this.pv_inv.mono f2.m
theorem st_mks {sz bytes : Nat} {z : List DV} {x : O} (hc : cmp P o.op (.mks sz bytes z x) = true) (h : stp gl e hl nid (.mks sz bytes z x) = some r) (hcc : r.c) (hnid : fr nid) : StepOk P gl K w0 hl fr g w nid r ((execOp a.eval o).run P w) := by
  cases ho : o.op <;> simp only [ho, cmp, Bool.false_eq_true] at hc
  rename_i t L C
  simp only [Bool.and_eq_true] at hc
  obtain ⟨⟨h1, h2⟩, h3⟩ := hc
  split at h3
  case h_2 => simp at h3
  rename_i el hel
  simp only [Bool.and_eq_true, beq_iff_eq, decide_eq_true_eq] at h3
  obtain ⟨⟨⟨⟨⟨h4, h5⟩, h6⟩, h7⟩, h8⟩, h9⟩ := h3
  obtain ⟨inf, zv, hi, hz, k2⟩ := zeroOk_info h4
  obtain ⟨k3, k4, k5, k6⟩ := vOks_rep (g := g) k2
  simp only [stp] at h
  split at h
  case h_2 => simp at h
  rename_i kk m c hx
  obtain rfl := Option.some.inj h
  obtain ⟨hc1, hc2, hc3⟩ := hcc
  have hL := (evs_sound hH hE h1 hx hc1).1.int_inv.1
  have hC := (evs_sound hH hE h2 hx hc1).1.int_inv.1
  have hsz : inf.size = sz := by simpa [hi] using sizeIs_sound h5
  have hby : inf.bytes = bytes := by simpa [hi] using h6
  obtain ⟨q, rfl⟩ := Int.eq_ofNat_of_zero_le hc2
  have hq : q * bytes ≤ 140737488351232 := by have h := hc3; rw [← Int.natCast_mul] at h; omega
  have hq' : q ≤ 140737488351232 := Nat.le_trans (Nat.le_mul_of_pos_right q h9) hq
  have hzs : zv.cells.size = sz := by
    have : z.length = zv.cells.size := by simpa using k3
    omega
  have hrun := run_make (P := P) w t el inf zv (slE_some hel) hi hz kk kk q q hc2 (Int.le_refl _) (by rw [hby, ← Int.natCast_mul, Nat.mul_comm]; omega) (by omega)
  rw [hsz] at hrun
  have hcell : ∀ (m : Nat) (j : Nat), (List.replicate m z).flatten[j]? = if j < m * sz then z[j % sz]? else none := by
    intro m
    induction m with
    | zero => intro j; simp
    | succ m ih =>
      intro j
      rw [List.replicate_succ, List.flatten_cons, List.getElem?_append, h7]
      split
      · rename_i hj
        rw [Nat.mod_eq_of_lt hj, if_pos (by rw [Nat.succ_mul]; omega)]
      · rename_i hj
        rw [ih]
        have : j % sz = (j - sz) % sz := by rw [Nat.mod_eq_sub_mod (by omega)]
        rw [this, Nat.succ_mul]
        by_cases hjm : j < m * sz + sz
        · rw [if_pos hjm, if_pos (by omega)]
        · rw [if_neg hjm, if_neg (by omega)]
  have hnat : ((q : Int)).toNat = q := by simp
  have hval : ∀ (j : Nat) (v : Value), (madeCells zv.cells (q * sz))[j]? = some v → j < q * sz ∧ zv.cells.toList[j % sz]? = some v := by
    intro j v hv
    simp only [madeCells, Array.getElem?_map, Option.map_eq_some_iff] at hv
    obtain ⟨i, hi, rfl⟩ := hv
    have hj : j < q * sz := by have := (Array.getElem?_eq_some_iff.1 hi).1; simpa using this
    have : i = j := by simpa [hj] using hi.symm
    subst this
    have hlt : i % sz < zv.cells.size := by rw [hzs]; exact Nat.mod_lt _ h8
    refine ⟨hj, ?_⟩
    rw [hzs, getElem!_pos zv.cells _ hlt]
    simp [hlt]
  refine StepOk.newBox hH hnid (vs := madeCells zv.cells (q * sz)) (el := el) (v := .slice (some ⟨w.heap.size, 0, none⟩) q q) ?_ ?_ ?_ ?_ ?_ (fun g' h => ?_) (DV.nm_mrow.2 (by simp))
  · simp [madeCells, h7, hnat, hzs]
  · intro v hv
    obtain ⟨j, hj, rfl⟩ := List.getElem_of_mem hv
    exact k5 _ (List.mem_of_getElem? (hval j _ (by simp)).2)
  · intro j c v hc hv
    obtain ⟨hj, hv'⟩ := hval j v hv
    rw [hnat, hcell, if_pos hj] at hc
    exact k4 _ c v hc hv'
  · intro c hc
    obtain ⟨j, hj, rfl⟩ := List.getElem_of_mem hc
    have h1 := List.getElem?_eq_getElem hj
    generalize (List.replicate (q : Int).toNat z).flatten[j] = d at h1
    rw [hnat, hcell] at h1
    split at h1
    · exact k6 _ _ (List.mem_of_getElem? h1)
    · simp at h1
  · simp only [execOp, ho, hL, hC, Sem.run_bind, hrun, hnat, Result.andThen_ok, Sem.run_pure]
  · rw [hnat]; exact .mrow h (Nat.le_refl _) (by simp only [maxLen]; omega)
end
end Go.Proofs.YthocoandbiaoiaaDoorV
