import PyProof.Rows.All
import Wide.All
import OpenK.AllK
import Wide.FinOn
import PyProof.EqAt
import PyProof.EqKinds
import PyProof.TupleCall
import Open.SpecLaws
import KE.OsGo
import HandS.ForSpec
import HandS.ForMost
import HandS.Walk
import HandS.Conv
import PySem.Challenge.RW_stonewalk_s03_count_solvable
set_option Elab.async false
set_option linter.all false
set_option maxRecDepth 100000
set_option maxHeartbeats 4000000
namespace Sw
open Ks577 (Graph Configuration pebblesAt isAdjacent neighbourhood distance)

/-! ### edges -/
def pairsOf : List Nat → List (Nat × Nat)
  | a :: b :: r => (a, b) :: pairsOf r
  | _ => []
def isEdge (n : Nat) (p : Nat × Nat) : Bool := decide (p.1 < p.2) && decide (p.2 < n)
def isBelow (p q : Nat × Nat) : Bool := if p.1 ≠ q.1 then decide (p.1 < q.1) else decide (p.2 < q.2)
def rises (ps : List (Nat × Nat)) : List Bool := (List.range (ps.length - 1)).map fun i => isBelow (ps.getD i (0, 0)) (ps.getD (i + 1) (0, 0))
def areEdges (n : Nat) (es : List Nat) : Bool := if es.length % 2 ≠ 0 then false else if ((pairsOf es).map (isEdge n)).all id then (rises (pairsOf es)).all id else false
def isGraph (n : Nat) (es : List Nat) : Bool := (decide (1 ≤ n) && decide (n ≤ 5)) && areEdges n es
def risingB : List (Nat × Nat) → Bool
  | p :: q :: r => isBelow p q && risingB (q :: r)
  | _ => true
theorem pairs_len : ∀ es : List Nat, (pairsOf es).length = es.length / 2
  | [] => rfl
  | [_] => by simp [pairsOf]
  | a :: b :: r => by
    show (pairsOf r).length + 1 = (r.length + 1 + 1) / 2
    rw [pairs_len r]
    omega
theorem pairs_get : ∀ (es : List Nat) (i : Nat), 2 * i + 1 < es.length → (pairsOf es)[i]? = some (es.getD (2 * i) 0, es.getD (2 * i + 1) 0)
  | [], i, h => by simp at h
  | [_], i, h => by simp at h
  | a :: b :: r, 0, h => rfl
  | a :: b :: r, i + 1, h => by
    have ih := pairs_get r i (by simp at h; omega)
    show (pairsOf r)[i]? = _
    rw [ih, show 2 * (i + 1) = 2 * i + 1 + 1 by omega]
    rfl
theorem rises_eq : ∀ ps : List (Nat × Nat), (rises ps).all id = risingB ps
  | [] => rfl
  | [_] => rfl
  | p :: q :: r => by
    have ih := rises_eq (q :: r)
    show (rises (p :: q :: r)).all id = (isBelow p q && risingB (q :: r))
    rw [← ih]
    show ((List.range (r.length + 1)).map fun i => isBelow ((p :: q :: r).getD i (0, 0)) ((p :: q :: r).getD (i + 1) (0, 0))).all id = (isBelow p q && ((List.range r.length).map fun i => isBelow ((q :: r).getD i (0, 0)) ((q :: r).getD (i + 1) (0, 0))).all id)
    rw [List.range_succ_eq_map, List.map_cons, List.all_cons, List.map_map]
    rfl
theorem below_iff (u v : Nat) (q : Nat × Nat) : isBelow (u, v) q = decide (u < q.1 ∨ (u = q.1 ∧ v < q.2)) := by
  unfold isBelow
  by_cases h : u = q.1
  · subst h
    rw [if_neg (by simp)]
    by_cases h2 : v < q.2 <;> simp [h2]
  · rw [if_pos h]
    by_cases h2 : u < q.1 <;> simp [h, h2]
theorem parse_eq (n : Nat) : ∀ es : List Nat, Ks577.parseEdges n es = if areEdges n es = true then some (pairsOf es) else none
  | [] => rfl
  | [_] => rfl
  | u :: v :: rest => by
    have ih := parse_eq n rest
    have hodd : (u :: v :: rest).length % 2 = rest.length % 2 := by simp; omega
    unfold Ks577.parseEdges
    by_cases c : v ≤ u ∨ n ≤ v
    · rw [if_pos c, if_neg]
      unfold areEdges
      rw [hodd]
      have : isEdge n (u, v) = false := by
        unfold isEdge
        simp
        omega
      simp [pairsOf, this]
    · rw [if_neg c, ih]
      have he : isEdge n (u, v) = true := by
        unfold isEdge
        simp
        omega
      unfold areEdges
      rw [hodd]
      by_cases ho : rest.length % 2 ≠ 0
      · simp [ho]
      · have ho' : rest.length % 2 = 0 := by omega
        simp only [ho', ne_eq, not_true_eq_false, if_false]
        show _ = if (if ((isEdge n (u, v) :: (pairsOf rest).map (isEdge n)).all id) = true then (rises ((u, v) :: pairsOf rest)).all id else false) = true then _ else none
        rw [List.all_cons, he, id, Bool.true_and, rises_eq, rises_eq]
        by_cases h2 : ((pairsOf rest).map (isEdge n)).all id = true
        · rw [if_pos h2, if_pos h2]
          cases hp : pairsOf rest with
          | nil =>
            simp [risingB, pairsOf, hp]
          | cons q r =>
            have hr : risingB ((u, v) :: q :: r) = (isBelow (u, v) q && risingB (q :: r)) := rfl
            rw [hr, below_iff]
            by_cases h3 : risingB (q :: r) = true
            · simp only [h3, if_true, Bool.and_true, decide_eq_true_eq]
              show _ = if _ then some (pairsOf (u :: v :: rest)) else none
              show _ = if _ then some ((u, v) :: pairsOf rest) else none
              rw [hp]
            · simp [h3]
        · rw [if_neg h2, if_neg h2]
          simp
theorem edges_ok {n : Nat} {es : List Nat} (h : areEdges n es = true) : ∀ p ∈ pairsOf es, p.1 < p.2 ∧ p.2 < n := by
  intro p hp
  unfold areEdges at h
  split at h
  · cases h
  · split at h
    · rename_i _ h2
      rw [List.all_map, List.all_eq_true] at h2
      have := h2 p hp
      unfold isEdge at this
      simpa using this
    · cases h
/-! ### graphs -/
def adjacentTo (v : Nat) (ps : List (Nat × Nat)) : List Nat := ps.flatMap fun p => (if p.1 = v then [p.2] else []) ++ (if p.2 = v then [p.1] else [])
def graphOf (n : Nat) (es : List Nat) : List (List Nat) := (List.range n).map fun v => adjacentTo v (pairsOf es)
theorem mem_adj {v x : Nat} {ps : List (Nat × Nat)} : x ∈ adjacentTo v ps ↔ ∃ p ∈ ps, (p.1 = v ∧ p.2 = x) ∨ (p.1 = x ∧ p.2 = v) := by
  unfold adjacentTo
  rw [List.mem_flatMap]
  refine exists_congr fun p => and_congr_right fun _ => ?_
  rw [List.mem_append]
  by_cases h1 : p.1 = v <;> by_cases h2 : p.2 = v <;> simp [h1, h2, eq_comm]
theorem adj_iff {n v x : Nat} {ps : List (Nat × Nat)} : x ∈ adjacentTo v ps ↔ isAdjacent ⟨n, ps⟩ v x = true := by
  rw [mem_adj]
  unfold isAdjacent
  simp
/-- a graph in rows: each vertex below the number of rows, and edges go both ways -/
structure Rows (g : List (List Nat)) : Prop where
  low : ∀ r ∈ g, ∀ x ∈ r, x < g.length
def Adj (g : List (List Nat)) (u v : Nat) : Prop := v ∈ g.getD u []
theorem graph_len (n : Nat) (es : List Nat) : (graphOf n es).length = n := by simp [graphOf]
theorem graph_row {n : Nat} (es : List Nat) {u : Nat} (h : u < n) : (graphOf n es).getD u [] = adjacentTo u (pairsOf es) := by
  unfold graphOf
  rw [List.getD_eq_getElem?_getD, List.getElem?_map, List.getElem?_range h]
  rfl
theorem graph_rows {n : Nat} {es : List Nat} (h : areEdges n es = true) : Rows (graphOf n es) := ⟨fun r hr x hx => by
  rw [graph_len]
  unfold graphOf at hr
  rw [List.mem_map] at hr
  obtain ⟨v, _, rfl⟩ := hr
  obtain ⟨p, hp, h2⟩ := mem_adj.mp hx
  have := edges_ok h p hp
  omega⟩
theorem adj_spec {n : Nat} {es : List Nat} {u v : Nat} (hu : u < n) : v ∈ (graphOf n es).getD u [] ↔ isAdjacent ⟨n, pairsOf es⟩ u v = true := by
  rw [graph_row es hu, adj_iff]
theorem isAdj_symm (G : Graph) (u v : Nat) : isAdjacent G u v = isAdjacent G v u := by
  unfold isAdjacent
  congr
  funext e
  rw [Bool.or_comm]
theorem isAdj_low {n : Nat} {es : List Nat} (h : areEdges n es = true) {u v : Nat} (a : isAdjacent ⟨n, pairsOf es⟩ u v = true) : u < n ∧ v < n := by
  rw [← adj_iff, mem_adj] at a
  obtain ⟨p, hp, h2⟩ := a
  have := edges_ok h p hp
  omega
end Sw
namespace Sw
open Ks577 (Graph Configuration pebblesAt isAdjacent neighbourhood distance)

/-! ### distances: the program's -/
def innerSet (d : List Int) (step : Int) (r : List Nat) (acc : List Int) : List Int := r.foldl (fun acc o => if d.getD o 0 = -1 then acc.set o (step + 1) else acc) acc
def oneTurn (g : List (List Nat)) (d : List Int) (step : Int) (acc : List Int) (v : Nat) : List Int := if d.getD v 0 = step then innerSet d step (g.getD v []) acc else acc
def oneFarther (g : List (List Nat)) (d : List Int) (step : Int) : List Int := (List.range g.length).foldl (oneTurn g d step) d
def distStart (n v : Nat) : List Int := (List.replicate n (-1 : Int)).set v 0
def distUpTo (g : List (List Nat)) (v k : Nat) : List Int := (List.range k).foldl (fun d (s : Nat) => oneFarther g d (s : Int)) (distStart g.length v)
def distancesFrom (g : List (List Nat)) (v : Nat) : List Int := distUpTo g v g.length
theorem inner_len (d : List Int) (step : Int) : ∀ (r : List Nat) (acc : List Int), (innerSet d step r acc).length = acc.length
  | [], _ => rfl
  | o :: r, acc => by
    show (innerSet d step r (if d.getD o 0 = -1 then acc.set o (step + 1) else acc)).length = _
    rw [inner_len d step r]
    split <;> simp
theorem turn_len (g : List (List Nat)) (d : List Int) (step : Int) (acc : List Int) (v : Nat) : (oneTurn g d step acc v).length = acc.length := by
  unfold oneTurn
  split
  · exact inner_len _ _ _ _
  · rfl
theorem fold_len {α : Type} (f : List Int → α → List Int) (hf : ∀ a x, (f a x).length = a.length) : ∀ (l : List α) (acc : List Int), (l.foldl f acc).length = acc.length
  | [], _ => rfl
  | x :: r, acc => by
    rw [List.foldl_cons, fold_len f hf r, hf]
theorem one_len (g : List (List Nat)) (d : List Int) (step : Int) : (oneFarther g d step).length = d.length := fold_len _ (turn_len g d step) _ _
theorem start_len (n v : Nat) : (distStart n v).length = n := by simp [distStart]
theorem upTo_succ (g : List (List Nat)) (v k : Nat) : distUpTo g v (k + 1) = oneFarther g (distUpTo g v k) (k : Int) := by
  unfold distUpTo
  rw [List.range_succ, List.foldl_append]
  rfl
theorem upTo_len (g : List (List Nat)) (v k : Nat) : (distUpTo g v k).length = g.length := by
  unfold distUpTo
  rw [fold_len (fun d (s : Nat) => oneFarther g d (s : Int)) (fun a s => one_len g a s), start_len]
theorem getD_set (l : List Int) (i x : Nat) (y : Int) (h : x < l.length) : (l.set i y).getD x 0 = if i = x then y else l.getD x 0 := by
  rw [List.getD_eq_getElem?_getD, List.getElem?_set, List.getD_eq_getElem?_getD]
  split
  · subst_vars
    simp [h]
  · rfl
theorem ite_iff {A : Type} {p q : Prop} [Decidable p] [Decidable q] {a b : A} (h : p ↔ q) : (if p then a else b) = if q then a else b := by
  by_cases c : p
  · rw [if_pos c, if_pos (h.mp c)]
  · rw [if_neg c, if_neg fun z => c (h.mpr z)]
theorem inner_get (d : List Int) (step : Int) (x : Nat) : ∀ (r : List Nat) (acc : List Int), x < acc.length → (innerSet d step r acc).getD x 0 = if d.getD x 0 = -1 ∧ x ∈ r then step + 1 else acc.getD x 0
  | [], acc, _ => by simp [innerSet]
  | o :: r, acc, h => by
    show (innerSet d step r (if d.getD o 0 = -1 then acc.set o (step + 1) else acc)).getD x 0 = _
    by_cases c : d.getD o 0 = -1
    · rw [if_pos c, inner_get d step x r _ (by simpa using h), getD_set _ _ _ _ h]
      by_cases h1 : o = x
      · subst h1
        rw [if_pos rfl, if_pos (show d.getD o 0 = -1 ∧ o ∈ o :: r from ⟨c, by simp⟩)]
        split <;> rfl
      · rw [if_neg h1]
        have : x ∈ o :: r ↔ x ∈ r := by
          rw [List.mem_cons]
          exact ⟨fun z => z.elim (fun e => absurd e.symm h1) id, .inr⟩
        exact ite_iff (and_congr_right fun _ => this.symm)
    · rw [if_neg c, inner_get d step x r _ h]
      by_cases h1 : o = x
      · subst h1
        rw [if_neg (fun z => c z.1), if_neg (fun z => c z.1)]
      · have : x ∈ o :: r ↔ x ∈ r := by
          rw [List.mem_cons]
          exact ⟨fun z => z.elim (fun e => absurd e.symm h1) id, .inr⟩
        exact ite_iff (and_congr_right fun _ => this.symm)
theorem turns_get (g : List (List Nat)) (d : List Int) (step : Int) (x : Nat) : ∀ (l : List Nat) (acc : List Int), x < acc.length →
    (l.foldl (oneTurn g d step) acc).getD x 0 = if d.getD x 0 = -1 ∧ ∃ v ∈ l, d.getD v 0 = step ∧ x ∈ g.getD v [] then step + 1 else acc.getD x 0
  | [], acc, _ => by simp
  | v :: l, acc, h => by
    rw [List.foldl_cons, turns_get g d step x l _ (by rw [turn_len]; exact h)]
    unfold oneTurn
    by_cases c : d.getD v 0 = step
    · rw [if_pos c, inner_get d step x _ _ h]
      by_cases h1 : d.getD x 0 = -1 ∧ x ∈ g.getD v []
      · rw [if_pos h1, if_pos (show d.getD x 0 = -1 ∧ ∃ u ∈ v :: l, _ from ⟨h1.1, v, by simp, c, h1.2⟩)]
        split <;> rfl
      · rw [if_neg h1]
        refine ite_iff (and_congr_right fun hx => ?_)
        constructor
        · rintro ⟨u, hu, r⟩
          exact ⟨u, List.mem_cons_of_mem _ hu, r⟩
        · rintro ⟨u, hu, r⟩
          rcases List.mem_cons.mp hu with rfl | hu
          · exact absurd ⟨hx, r.2⟩ h1
          · exact ⟨u, hu, r⟩
    · rw [if_neg c]
      refine ite_iff (and_congr_right fun hx => ?_)
      constructor
      · rintro ⟨u, hu, r⟩
        exact ⟨u, List.mem_cons_of_mem _ hu, r⟩
      · rintro ⟨u, hu, r⟩
        rcases List.mem_cons.mp hu with rfl | hu
        · exact absurd r.1 c
        · exact ⟨u, hu, r⟩
theorem one_get (g : List (List Nat)) (d : List Int) (step : Int) (x : Nat) (h : x < d.length) :
    (oneFarther g d step).getD x 0 = if d.getD x 0 = -1 ∧ ∃ v, v < g.length ∧ d.getD v 0 = step ∧ x ∈ g.getD v [] then step + 1 else d.getD x 0 := by
  unfold oneFarther
  rw [turns_get g d step x _ _ h]
  simp only [List.mem_range]

/-! ### distances: the specification's -/
def Rch (G : Graph) (u s v : Nat) : Prop := v ∈ neighbourhood G s [u]
def expand (G : Graph) (vs : List Nat) : List Nat := (List.range G.vertexCount).filter fun v => vs.contains v || vs.any fun u => isAdjacent G u v
theorem nb_succ (G : Graph) : ∀ (s : Nat) (vs : List Nat), neighbourhood G (s + 1) vs = expand G (neighbourhood G s vs)
  | 0, vs => rfl
  | s + 1, vs => by
    have ih := nb_succ G s (expand G vs)
    show neighbourhood G (s + 1) (expand G vs) = expand G (neighbourhood G s (expand G vs))
    exact ih
theorem rch_zero {G : Graph} {u v : Nat} : Rch G u 0 v ↔ v = u := by
  show v ∈ [u] ↔ _
  simp
theorem rch_succ {G : Graph} {u s v : Nat} : Rch G u (s + 1) v ↔ v < G.vertexCount ∧ (Rch G u s v ∨ ∃ w, Rch G u s w ∧ isAdjacent G w v = true) := by
  unfold Rch
  rw [nb_succ]
  unfold expand
  rw [List.mem_filter, List.mem_range, Bool.or_eq_true, List.contains_iff_mem, List.any_eq_true]
theorem rch_low {G : Graph} {u s v : Nat} (hu : u < G.vertexCount) (h : Rch G u s v) : v < G.vertexCount := by
  cases s with
  | zero =>
    rw [rch_zero] at h
    omega
  | succ s => exact (rch_succ.mp h).1
theorem rch_mono {G : Graph} {u s v : Nat} (hu : u < G.vertexCount) (h : Rch G u s v) : Rch G u (s + 1) v := rch_succ.mpr ⟨rch_low hu h, .inl h⟩
theorem rch_le {G : Graph} {u s t v : Nat} (hu : u < G.vertexCount) (h : Rch G u s v) (l : s ≤ t) : Rch G u t v := by
  induction l with
  | refl => exact h
  | step _ ih => exact rch_mono hu ih
theorem rch_start {G : Graph} {u v : Nat} (hv : ∀ a b, isAdjacent G a b = true → a < G.vertexCount ∧ b < G.vertexCount) : ∀ {s : Nat} {w : Nat}, u < G.vertexCount → isAdjacent G u w = true → Rch G w s v → Rch G u (s + 1) v
  | 0, w, hu, ha, h => by
    rw [rch_zero] at h
    subst h
    exact rch_succ.mpr ⟨(hv _ _ ha).2, .inr ⟨u, rch_zero.mpr rfl, ha⟩⟩
  | s + 1, w, hu, ha, h => by
    obtain ⟨h1, h2⟩ := rch_succ.mp h
    rcases h2 with h2 | ⟨x, h2, h3⟩
    · exact rch_mono hu (rch_start hv hu ha h2)
    · exact rch_succ.mpr ⟨h1, .inr ⟨x, rch_start (v := x) hv hu ha h2, h3⟩⟩
theorem rch_symm {G : Graph} (hv : ∀ a b, isAdjacent G a b = true → a < G.vertexCount ∧ b < G.vertexCount) {u : Nat} : ∀ {s : Nat} {v : Nat}, u < G.vertexCount → v < G.vertexCount → Rch G u s v → Rch G v s u
  | 0, v, hu, _, h => by
    rw [rch_zero] at h ⊢
    exact h.symm
  | s + 1, v, hu, hv2, h => by
    obtain ⟨h1, h2⟩ := rch_succ.mp h
    rcases h2 with h2 | ⟨x, h2, h3⟩
    · exact rch_mono hv2 (rch_symm hv hu hv2 h2)
    · exact rch_start hv hv2 (by rw [isAdj_symm]; exact h3) (rch_symm hv hu (hv _ _ h3).1 h2)
/-- the first number of steps at which v is reached, of those below k -/
def firstOf (G : Graph) (u v k : Nat) : Option Nat := (List.range k).find? fun s => (neighbourhood G s [u]).contains v
theorem first_none {G : Graph} {u v k : Nat} : firstOf G u v k = none ↔ ∀ s, s < k → ¬ Rch G u s v := by
  unfold firstOf
  rw [List.find?_eq_none]
  simp only [List.mem_range, List.contains_iff_mem]
  rfl
theorem first_some {G : Graph} {u v k s : Nat} : firstOf G u v k = some s ↔ s < k ∧ Rch G u s v ∧ ∀ t, t < s → ¬ Rch G u t v := by
  unfold firstOf
  rw [List.find?_range_eq_some]
  simp only [List.mem_range, List.contains_iff_mem, Bool.not_eq_true', Bool.eq_false_iff, ne_eq]
  constructor
  · rintro ⟨a, b, c⟩
    exact ⟨b, a, c⟩
  · rintro ⟨a, b, c⟩
    exact ⟨b, a, c⟩
def dOf : Option Nat → Int
  | some s => (s : Int)
  | none => -1
theorem dOf_neg {o : Option Nat} : dOf o = -1 ↔ o = none := by
  cases o with
  | none => simp [dOf]
  | some s =>
    constructor
    · intro h
      have h : (s : Int) = -1 := h
      omega
    · intro h
      cases h
theorem dOf_nat {o : Option Nat} {k : Nat} : dOf o = (k : Int) ↔ o = some k := by
  cases o with
  | none =>
    constructor
    · intro h
      have h : (-1 : Int) = (k : Int) := h
      omega
    · intro h
      cases h
  | some s =>
    constructor
    · intro h
      have h : (s : Int) = (k : Int) := h
      rw [show s = k by omega]
    · intro h
      rw [Option.some.inj h]
      rfl
end Sw
namespace Sw
open Ks577 (Graph Configuration pebblesAt isAdjacent neighbourhood distance)

/-- rows and a graph of the specification that say the same -/
structure Ties (g : List (List Nat)) (G : Graph) : Prop where
  cnt : G.vertexCount = g.length
  adj : ∀ u v, u < g.length → (v ∈ g.getD u [] ↔ isAdjacent G u v = true)
  low : ∀ u v, isAdjacent G u v = true → u < G.vertexCount ∧ v < G.vertexCount
theorem ties_of {n : Nat} {es : List Nat} (h : areEdges n es = true) : Ties (graphOf n es) ⟨n, pairsOf es⟩ where
  cnt := (graph_len n es).symm
  adj := fun u v hu => adj_spec (by rwa [graph_len] at hu)
  low := fun u v a => isAdj_low h a
theorem firstOf_succ {G : Graph} {u v k : Nat} : firstOf G u v (k + 1) = match firstOf G u v k with | some s => some s | none => if v ∈ neighbourhood G k [u] then some k else none := by
  unfold firstOf
  rw [List.range_succ, List.find?_append]
  cases (List.range k).find? fun s => (neighbourhood G s [u]).contains v with
  | some s => rfl
  | none =>
    by_cases c : v ∈ neighbourhood G k [u]
    · simp [c]
    · simp [c]
theorem upTo_first {g : List (List Nat)} {G : Graph} (T : Ties g G) {u : Nat} (hu : u < g.length) : ∀ (k x : Nat), x < g.length → (distUpTo g u k).getD x 0 = dOf (firstOf G u x (k + 1))
  | 0, x, hx => by
    show (distStart g.length u).getD x 0 = _
    unfold distStart
    rw [getD_set _ _ _ _ (by simpa using hx), firstOf_succ]
    show _ = dOf (if x ∈ [u] then some 0 else none)
    by_cases c : u = x
    · subst c
      simp [dOf]
    · rw [if_neg c, if_neg (by simpa using fun e => c e.symm)]
      rw [List.getD_eq_getElem?_getD, List.getElem?_replicate, if_pos hx]
      rfl
  | k + 1, x, hx => by
    rw [upTo_succ, one_get _ _ _ _ (by rw [upTo_len]; exact hx), firstOf_succ]
    have ih := upTo_first T hu k
    rw [ih x hx]
    have hu' : u < G.vertexCount := by rw [T.cnt]; exact hu
    cases hf : firstOf G u x (k + 1) with
    | some s =>
      rw [if_neg]
      intro z
      have := dOf_neg.mp z.1
      cases this
    | none =>
      have hn := first_none.mp hf
      have key : (∃ v, v < g.length ∧ (distUpTo g u k).getD v 0 = (k : Int) ∧ x ∈ g.getD v []) ↔ x ∈ neighbourhood G (k + 1) [u] := by
        constructor
        · rintro ⟨v, hv, h1, h2⟩
          rw [ih v hv, dOf_nat, first_some] at h1
          exact rch_succ.mpr ⟨by rw [T.cnt]; exact hx, .inr ⟨v, h1.2.1, (T.adj v x hv).mp h2⟩⟩
        · intro h
          obtain ⟨_, h2⟩ := rch_succ.mp h
          rcases h2 with h2 | ⟨w, h2, h3⟩
          · exact absurd h2 (hn k (by omega))
          · have hw : w < g.length := by rw [← T.cnt]; exact (T.low _ _ h3).1
            refine ⟨w, hw, ?_, (T.adj w x hw).mpr h3⟩
            rw [ih w hw, dOf_nat, first_some]
            refine ⟨by omega, h2, fun t ht ht2 => ?_⟩
            exact hn (t + 1) (by omega) (rch_succ.mpr ⟨by rw [T.cnt]; exact hx, .inr ⟨w, ht2, h3⟩⟩)
      by_cases c : x ∈ neighbourhood G (k + 1) [u]
      · rw [if_pos ⟨rfl, key.mpr c⟩]
        show (k : Int) + 1 = dOf (if x ∈ neighbourhood G (k + 1) [u] then some (k + 1) else none)
        rw [if_pos c]
        show (k : Int) + 1 = ((k + 1 : Nat) : Int)
        omega
      · rw [if_neg fun z => c (key.mp z.2)]
        show dOf none = dOf (if x ∈ neighbourhood G (k + 1) [u] then some (k + 1) else none)
        rw [if_neg c]
/-! ### no vertex is n steps away -/
theorem count_lt {α : Type} {p q : α → Bool} : ∀ {l : List α}, (∀ a ∈ l, p a = true → q a = true) → (∃ a ∈ l, q a = true ∧ p a = false) → l.countP p < l.countP q
  | [], _, ⟨a, h, _⟩ => nomatch h
  | x :: l, h1, ⟨a, ha, h2⟩ => by
    have mono : l.countP p ≤ l.countP q := List.countP_mono_left fun b hb => h1 b (List.mem_cons_of_mem _ hb)
    rw [List.countP_cons, List.countP_cons]
    rcases List.mem_cons.mp ha with rfl | ha
    · rw [h2.1, h2.2]
      simp
      omega
    · have ih := count_lt (p := p) (q := q) (l := l) (fun b hb => h1 b (List.mem_cons_of_mem _ hb)) ⟨a, ha, h2⟩
      have hx := h1 x (by simp)
      cases hp : p x with
      | true => rw [hx hp]; simp; omega
      | false =>
        cases q x <;> simp <;> omega
theorem back_chain {G : Graph} {u : Nat} (hu : u < G.vertexCount) : ∀ (j s x : Nat), Rch G u (s + j) x → (∀ t, t < s + j → ¬ Rch G u t x) → ∃ w, w < G.vertexCount ∧ Rch G u s w ∧ ∀ t, t < s → ¬ Rch G u t w
  | 0, s, x, h, hn => ⟨x, rch_low hu h, h, hn⟩
  | j + 1, s, x, h, hn => by
    have h : Rch G u (s + j + 1) x := h
    obtain ⟨hx, h2⟩ := rch_succ.mp h
    rcases h2 with h2 | ⟨w, h2, h3⟩
    · exact absurd h2 (hn (s + j) (by omega))
    · refine back_chain hu j s w h2 fun t ht ht2 => ?_
      exact hn (t + 1) (by omega) (rch_succ.mpr ⟨hx, .inr ⟨w, ht2, h3⟩⟩)
theorem not_far {G : Graph} {u x : Nat} (hu : u < G.vertexCount) (h : Rch G u G.vertexCount x) (hn : ∀ t, t < G.vertexCount → ¬ Rch G u t x) : False := by
  have grow : ∀ s, s ≤ G.vertexCount → s + 1 ≤ (List.range G.vertexCount).countP fun v => (neighbourhood G s [u]).contains v := by
    intro s
    induction s with
    | zero =>
      intro _
      refine List.countP_pos_iff.mpr ⟨u, List.mem_range.mpr hu, ?_⟩
      rw [List.contains_iff_mem]
      exact rch_zero.mpr rfl
    | succ s ih =>
      intro hs
      refine Nat.lt_of_le_of_lt (ih (by omega)) (count_lt (fun a _ ha => ?_) ?_)
      · rw [List.contains_iff_mem] at ha ⊢
        exact rch_mono hu ha
      · obtain ⟨j, hj⟩ : ∃ j, G.vertexCount = s + 1 + j := ⟨G.vertexCount - (s + 1), by omega⟩
        obtain ⟨w, hw, h1, h2⟩ := back_chain hu j (s + 1) x (by rw [← hj]; exact h) (by rw [← hj]; exact hn)
        refine ⟨w, List.mem_range.mpr hw, ?_, ?_⟩
        · rw [List.contains_iff_mem]
          exact h1
        · rw [Bool.eq_false_iff, ne_eq, List.contains_iff_mem]
          exact h2 s (by omega)
  have := grow G.vertexCount (Nat.le_refl _)
  have := List.countP_le_length (l := List.range G.vertexCount) (p := fun v => (neighbourhood G G.vertexCount [u]).contains v)
  rw [List.length_range] at this
  omega
theorem dist_get {g : List (List Nat)} {G : Graph} (T : Ties g G) {u x : Nat} (hu : u < g.length) (hx : x < g.length) : (distancesFrom g u).getD x 0 = dOf (distance G u x) := by
  unfold distancesFrom
  rw [upTo_first T hu _ x hx, firstOf_succ]
  have e : distance G u x = firstOf G u x g.length := by
    unfold distance firstOf
    rw [T.cnt]
  rw [e]
  cases hf : firstOf G u x g.length with
  | some s => rfl
  | none =>
    rw [if_neg]
    intro h
    have hn := first_none.mp hf
    rw [← T.cnt] at hn h hu
    exact not_far hu h hn
theorem dist_symm {g : List (List Nat)} {G : Graph} (T : Ties g G) {u v : Nat} (hu : u < g.length) (hv : v < g.length) : distance G u v = distance G v u := by
  have e : ∀ s, (neighbourhood G s [u]).contains v = (neighbourhood G s [v]).contains u := by
    intro s
    rw [Bool.eq_iff_iff, List.contains_iff_mem, List.contains_iff_mem]
    rw [← T.cnt] at hu hv
    exact ⟨fun h => rch_symm T.low hu hv h, fun h => rch_symm T.low hv hu h⟩
  unfold distance
  congr
  funext s
  exact e s
/-! ### the calls on distances -/
def isConnected (g : List (List Nat)) : Bool := !(distancesFrom g 0).contains (-1)
def coverNumberFrom (g : List (List Nat)) (v : Nat) : Nat := ((distancesFrom g v).map fun d => 2 ^ d.toNat).sum
theorem dist_len (g : List (List Nat)) (v : Nat) : (distancesFrom g v).length = g.length := upTo_len _ _ _
theorem dist_map {g : List (List Nat)} {G : Graph} (T : Ties g G) {u : Nat} (hu : u < g.length) : distancesFrom g u = (List.range g.length).map fun x => dOf (distance G u x) := by
  apply List.ext_getElem?
  intro i
  by_cases hi : i < g.length
  · have h1 := dist_get T hu hi
    rw [List.getElem?_map, List.getElem?_range hi]
    rw [List.getD_eq_getElem?_getD] at h1
    have : i < (distancesFrom g u).length := by rw [dist_len]; exact hi
    rw [List.getElem?_eq_getElem this] at h1 ⊢
    simp at h1 ⊢
    exact h1
  · rw [List.getElem?_eq_none (by rw [dist_len]; omega), List.getElem?_eq_none (by simp; omega)]
theorem connected_eq {g : List (List Nat)} {G : Graph} (T : Ties g G) (h0 : 0 < g.length) : isConnected g = Ks578.isConnected G := by
  unfold isConnected Ks578.isConnected
  rw [dist_map T h0, T.cnt, Bool.eq_iff_iff, Bool.not_eq_true', Bool.eq_false_iff, ne_eq, List.contains_iff_mem, List.all_eq_true, List.mem_map]
  constructor
  · intro h x hx
    rw [← Option.ne_none_iff_isSome]
    intro e
    exact h ⟨x, hx, by rw [e]; rfl⟩
  · rintro h ⟨x, hx, e⟩
    have := h x hx
    rw [dOf_neg.mp e] at this
    cases this
theorem coverFrom_eq {g : List (List Nat)} {G : Graph} (T : Ties g G) {v : Nat} (hv : v < g.length) : coverNumberFrom g v = Ks579.coverFrom G v := by
  unfold coverNumberFrom Ks579.coverFrom
  rw [dist_map T hv, List.map_map, T.cnt]
  congr 1
  apply List.map_congr_left
  intro x hx
  rw [List.mem_range] at hx
  rw [dist_symm T hx hv]
  show 2 ^ (dOf (distance G v x)).toNat = _
  cases distance G v x <;> rfl
theorem foldl_max : ∀ (l : List Nat) (b m : Nat), (∀ y ∈ l, y ≤ m) → b ≤ m → (m ∈ l ∨ b = m) → l.foldl max b = m
  | [], b, m, _, _, h => by
    rcases h with h | h
    · nomatch h
    · exact h
  | x :: l, b, m, hl, hb, h => by
    rw [List.foldl_cons]
    have hx := hl x (by simp)
    refine foldl_max l (max b x) m (fun y hy => hl y (List.mem_cons_of_mem _ hy)) (by omega) ?_
    rcases h with h | h
    · rcases List.mem_cons.mp h with h | h
      · subst h
        exact .inr (by omega)
      · exact .inl h
    · exact .inr (by omega)
theorem coverNumber_eq {g : List (List Nat)} {G : Graph} (T : Ties g G) {m : Nat} (hm : m ∈ (List.range g.length).map (coverNumberFrom g)) (hx : ∀ y ∈ (List.range g.length).map (coverNumberFrom g), y ≤ m) : Ks579.coverNumber G = m := by
  unfold Ks579.coverNumber
  have e : (List.range G.vertexCount).map (Ks579.coverFrom G) = (List.range g.length).map (coverNumberFrom g) := by
    rw [T.cnt]
    apply List.map_congr_left
    intro v hv
    exact (coverFrom_eq T (List.mem_range.mp hv)).symm
  rw [e]
  exact foldl_max _ 0 m hx (Nat.zero_le _) (.inl hm)
end Sw
namespace Sw
open Ks577 (Graph Configuration pebblesAt isAdjacent neighbourhood distance)

/-! ### moves -/
def moved (p : List Nat) (s t : Nat) : List Nat := (p.set s (p.getD s 0 - 2)).set t ((p.set s (p.getD s 0 - 2)).getD t 0 + 1)
def movesAt (g : List (List Nat)) (p : List Nat) (s : Nat) : List (List Nat) := if 2 ≤ p.getD s 0 then (g.getD s []).map (moved p s) else []
def movesFrom (g : List (List Nat)) (p : List Nat) : List (List Nat) := (List.range g.length).flatMap (movesAt g p)
def putOne (acc : List (List Nat)) (x : List Nat) : List (List Nat) := if x ∈ acc then acc else acc ++ [x]
def behindOne (g : List (List Nat)) (ps : List (List Nat)) : List (List Nat) := ps.foldl (fun acc p => (movesFrom g p).foldl putOne acc) []
def levelAt (g : List (List Nat)) (p : List Nat) : Nat → List (List Nat)
  | 0 => [p]
  | k + 1 => behindOne g (levelAt g p k)
def foundTo (g : List (List Nat)) (p : List Nat) : Nat → List (List Nat)
  | 0 => [p]
  | k + 1 => foundTo g p k ++ levelAt g p (k + 1)
def allBehind (g : List (List Nat)) (p : List Nat) : List (List Nat) := foundTo g p p.sum
theorem mem_putOne {acc : List (List Nat)} {x y : List Nat} : y ∈ putOne acc x ↔ y ∈ acc ∨ y = x := by
  unfold putOne
  split
  · rename_i h
    constructor
    · exact .inl
    · rintro (h2 | rfl)
      · exact h2
      · exact h
  · rw [List.mem_append, List.mem_singleton]
theorem mem_putAll {y : List Nat} : ∀ {l acc : List (List Nat)}, y ∈ l.foldl putOne acc ↔ y ∈ acc ∨ y ∈ l
  | [], acc => by simp
  | x :: l, acc => by
    rw [List.foldl_cons, mem_putAll, mem_putOne, List.mem_cons]
    constructor
    · rintro ((h | h) | h)
      · exact .inl h
      · exact .inr (.inl h)
      · exact .inr (.inr h)
    · rintro (h | h | h)
      · exact .inl (.inl h)
      · exact .inl (.inr h)
      · exact .inr h
theorem mem_turns {g : List (List Nat)} {y : List Nat} : ∀ {l acc : List (List Nat)}, y ∈ l.foldl (fun acc p => (movesFrom g p).foldl putOne acc) acc ↔ y ∈ acc ∨ ∃ p ∈ l, y ∈ movesFrom g p
  | [], acc => by simp
  | x :: l, acc => by
    rw [List.foldl_cons, mem_turns, mem_putAll]
    constructor
    · rintro ((h | h) | ⟨p, hp, h⟩)
      · exact .inl h
      · exact .inr ⟨x, by simp, h⟩
      · exact .inr ⟨p, List.mem_cons_of_mem _ hp, h⟩
    · rintro (h | ⟨p, hp, h⟩)
      · exact .inl (.inl h)
      · rcases List.mem_cons.mp hp with rfl | hp
        · exact .inl (.inr h)
        · exact .inr ⟨p, hp, h⟩
theorem mem_behind {g : List (List Nat)} {y : List Nat} {l : List (List Nat)} : y ∈ behindOne g l ↔ ∃ p ∈ l, y ∈ movesFrom g p := by
  unfold behindOne
  rw [mem_turns]
  simp
theorem nodup_put {acc : List (List Nat)} (h : acc.Nodup) (x : List Nat) : (putOne acc x).Nodup := by
  unfold putOne
  split
  · exact h
  · rename_i c
    rw [List.nodup_append]
    refine ⟨h, by simp, fun a ha b hb => ?_⟩
    rw [List.mem_singleton] at hb
    subst hb
    intro e
    subst e
    exact c ha
theorem nodup_all : ∀ (l : List (List Nat)) {acc : List (List Nat)}, acc.Nodup → (l.foldl putOne acc).Nodup
  | [], _, h => h
  | x :: l, _, h => nodup_all l (nodup_put h x)
theorem nodup_turns (g : List (List Nat)) : ∀ (l : List (List Nat)) {acc : List (List Nat)}, acc.Nodup → (l.foldl (fun acc p => (movesFrom g p).foldl putOne acc) acc).Nodup
  | [], _, h => h
  | x :: l, _, h => nodup_turns g l (nodup_all _ h)
theorem nodup_behind (g : List (List Nat)) (l : List (List Nat)) : (behindOne g l).Nodup := nodup_turns g l List.nodup_nil
/-! what a move leaves: the length, and one pebble fewer -/
theorem set_sum : ∀ {l : List Nat} {i y : Nat}, i < l.length → (l.set i y).sum + l.getD i 0 = l.sum + y
  | [], i, y, h => by simp at h
  | a :: r, 0, y, h => by
    simp
    omega
  | a :: r, i + 1, y, h => by
    have ih := set_sum (l := r) (i := i) (y := y) (by simpa using h)
    simp at ih ⊢
    omega
theorem moved_len (p : List Nat) (s t : Nat) : (moved p s t).length = p.length := by simp [moved]
theorem moved_sum {p : List Nat} {s t : Nat} (hs : s < p.length) (ht : t < p.length) (h : 2 ≤ p.getD s 0) : (moved p s t).sum + 1 = p.sum := by
  have h1 := set_sum (l := p) (y := p.getD s 0 - 2) hs
  have h2 := set_sum (l := p.set s (p.getD s 0 - 2)) (i := t) (y := (p.set s (p.getD s 0 - 2)).getD t 0 + 1) (by simpa using ht)
  unfold moved
  omega
theorem mem_moves {g : List (List Nat)} {p y : List Nat} : y ∈ movesFrom g p ↔ ∃ s t, s < g.length ∧ 2 ≤ p.getD s 0 ∧ t ∈ g.getD s [] ∧ y = moved p s t := by
  unfold movesFrom movesAt
  rw [List.mem_flatMap]
  constructor
  · rintro ⟨s, hs, h⟩
    split at h
    · rename_i c
      obtain ⟨t, ht, rfl⟩ := List.mem_map.mp h
      exact ⟨s, t, List.mem_range.mp hs, c, ht, rfl⟩
    · nomatch h
  · rintro ⟨s, t, hs, c, ht, rfl⟩
    refine ⟨s, List.mem_range.mpr hs, ?_⟩
    rw [if_pos c]
    exact List.mem_map.mpr ⟨t, ht, rfl⟩
theorem Rows.at {g : List (List Nat)} (R : Rows g) {s t : Nat} (h : t ∈ g.getD s []) : t < g.length := by
  rw [List.getD_eq_getElem?_getD] at h
  cases e : g[s]? with
  | none =>
    rw [e] at h
    nomatch h
  | some r =>
    rw [e] at h
    exact R.low r (List.mem_of_getElem? e) t h
theorem moves_ok {g : List (List Nat)} (R : Rows g) {p y : List Nat} (hp : p.length = g.length) (h : y ∈ movesFrom g p) : y.length = g.length ∧ y.sum + 1 = p.sum := by
  obtain ⟨s, t, hs, c, ht, rfl⟩ := mem_moves.mp h
  refine ⟨(moved_len _ _ _).trans hp, moved_sum (by omega) ?_ c⟩
  have := R.at ht
  omega
theorem level_ok {g : List (List Nat)} (R : Rows g) {p : List Nat} (hp : p.length = g.length) : ∀ (k : Nat) (y : List Nat), y ∈ levelAt g p k → y.length = g.length ∧ y.sum + k = p.sum
  | 0, y, h => by
    have h : y ∈ [p] := h
    rw [List.mem_singleton] at h
    subst h
    exact ⟨hp, rfl⟩
  | k + 1, y, h => by
    have h : y ∈ behindOne g (levelAt g p k) := h
    obtain ⟨q, hq, h2⟩ := mem_behind.mp h
    have ih := level_ok R hp k q hq
    have := moves_ok R ih.1 h2
    exact ⟨this.1, by omega⟩
/-! a bound on how many -/
def code (y : List Nat) : Nat := y.foldr (fun x a => x + 13 * a) 0
theorem code_inj : ∀ {y z : List Nat}, y.length = z.length → (∀ x ∈ y, x ≤ 12) → (∀ x ∈ z, x ≤ 12) → code y = code z → y = z
  | [], [], _, _, _, _ => rfl
  | [], _ :: _, h, _, _, _ => by simp at h
  | _ :: _, [], h, _, _, _ => by simp at h
  | a :: y, b :: z, h, h1, h2, e => by
    have e : a + 13 * code y = b + 13 * code z := e
    have ha := h1 a (by simp)
    have hb := h2 b (by simp)
    have e1 : a = b := by omega
    have e2 : code y = code z := by omega
    rw [e1, code_inj (by simpa using h) (fun x hx => h1 x (List.mem_cons_of_mem _ hx)) (fun x hx => h2 x (List.mem_cons_of_mem _ hx)) e2]
theorem code_lt : ∀ {y : List Nat}, (∀ x ∈ y, x ≤ 12) → code y < 13 ^ y.length
  | [], _ => by simp [code]
  | a :: y, h => by
    have ih := code_lt (y := y) fun x hx => h x (List.mem_cons_of_mem _ hx)
    have ha := h a (by simp)
    show a + 13 * code y < 13 ^ (y.length + 1)
    rw [Nat.pow_succ]
    omega
theorem nodup_bound : ∀ (n : Nat) {l : List Nat}, l.Nodup → (∀ x ∈ l, x < n) → l.length ≤ n
  | 0, l, _, h => by
    cases l with
    | nil => simp
    | cons a r => exact absurd (h a (by simp)) (by omega)
  | n + 1, l, hn, h => by
    have ih := nodup_bound n (l := l.erase n) (hn.erase n) fun x hx => by
      have h1 := (List.Nodup.mem_erase_iff hn).mp hx
      have := h x h1.2
      omega
    have := List.length_erase (a := n) (l := l)
    split at this <;> omega
theorem mem_le_sum : ∀ {l : List Nat} {x : Nat}, x ∈ l → x ≤ l.sum
  | a :: l, x, h => by
    rcases List.mem_cons.mp h with rfl | h
    · simp
    · have := mem_le_sum h
      simp
      omega
theorem few {l : List (List Nat)} {n : Nat} (hd : l.Nodup) (hn : n ≤ 5) (h : ∀ y ∈ l, y.length = n ∧ y.sum ≤ 12) : l.length ≤ 371293 := by
  have h1 : (l.map code).Nodup := by
    rw [List.Nodup, List.pairwise_map]
    refine List.Pairwise.imp_of_mem (fun {a b} ha hb ne e => ne ?_) hd
    have hA := h a ha
    have hB := h b hb
    exact code_inj (hA.1.trans hB.1.symm) (fun x hx => Nat.le_trans (mem_le_sum hx) hA.2) (fun x hx => Nat.le_trans (mem_le_sum hx) hB.2) e
  have h2 := nodup_bound 371293 h1 fun x hx => by
    obtain ⟨y, hy, rfl⟩ := List.mem_map.mp hx
    have hY := h y hy
    have h3 := code_lt (y := y) fun x hx => Nat.le_trans (mem_le_sum hx) hY.2
    rw [hY.1] at h3
    have : 13 ^ n ≤ 13 ^ 5 := Nat.pow_le_pow_right (by omega) hn
    exact Nat.lt_of_lt_of_le h3 this
  simpa using h2
theorem putAll_le (l acc : List (List Nat)) : acc.length ≤ (l.foldl putOne acc).length := by
  induction l generalizing acc with
  | nil => exact Nat.le_refl _
  | cons x l ih =>
    refine Nat.le_trans ?_ (ih _)
    unfold putOne
    split <;> simp
theorem level_few {g : List (List Nat)} (R : Rows g) {p : List Nat} (hg : g.length ≤ 5) (hp : p.length = g.length) (hs : p.sum ≤ 12) (k : Nat) : (levelAt g p k).length ≤ 371293 := by
  cases k with
  | zero => show 1 ≤ 371293; omega
  | succ k =>
    refine few (n := g.length) (nodup_behind g _) hg fun y hy => ?_
    have := level_ok R hp (k + 1) y hy
    exact ⟨this.1, by omega⟩
theorem found_few {g : List (List Nat)} (R : Rows g) {p : List Nat} (hg : g.length ≤ 5) (hp : p.length = g.length) (hs : p.sum ≤ 12) : ∀ k, (foundTo g p k).length ≤ (k + 1) * 371293
  | 0 => by show 1 ≤ _; omega
  | k + 1 => by
    have ih := found_few R hg hp hs k
    have := level_few R hg hp hs (k + 1)
    show (foundTo g p k ++ levelAt g p (k + 1)).length ≤ _
    rw [List.length_append]
    omega
theorem mem_found {g : List (List Nat)} {p y : List Nat} : ∀ {k : Nat}, y ∈ foundTo g p k ↔ ∃ j, j ≤ k ∧ y ∈ levelAt g p j
  | 0 => by
    constructor
    · intro h
      exact ⟨0, Nat.le_refl _, h⟩
    · rintro ⟨j, hj, h⟩
      obtain rfl : j = 0 := by omega
      exact h
  | k + 1 => by
    show y ∈ foundTo g p k ++ levelAt g p (k + 1) ↔ _
    rw [List.mem_append, mem_found]
    constructor
    · rintro (⟨j, hj, h⟩ | h)
      · exact ⟨j, by omega, h⟩
      · exact ⟨k + 1, Nat.le_refl _, h⟩
    · rintro ⟨j, hj, h⟩
      by_cases c : j = k + 1
      · subst c
        exact .inr h
      · exact .inl ⟨j, by omega, h⟩
/-! ### the specification's levels -/
def specAt (G : Graph) : List (List Nat) → Nat → List (List Nat)
  | l, 0 => l
  | l, k + 1 => specAt G ((l.flatMap (Ks577.successors G)).eraseDups) k
theorem spec_nil (G : Graph) : ∀ k, specAt G [] k = []
  | 0 => rfl
  | k + 1 => spec_nil G k
theorem mem_levels {G : Graph} {y : List Nat} : ∀ {f : Nat} {l : List (List Nat)}, (∃ lv ∈ Ks577.levelsFrom G l f, y ∈ lv) ↔ ∃ k, k < f ∧ y ∈ specAt G l k
  | 0, l => by
    constructor
    · rintro ⟨lv, h, _⟩
      nomatch h
    · rintro ⟨k, h, _⟩
      omega
  | f + 1, l => by
    unfold Ks577.levelsFrom
    by_cases c : l.isEmpty = true
    · rw [if_pos c]
      have : l = [] := by simpa using c
      subst this
      constructor
      · rintro ⟨lv, h, _⟩
        nomatch h
      · rintro ⟨k, _, h⟩
        rw [spec_nil] at h
        nomatch h
    · rw [if_neg c]
      have ih := mem_levels (G := G) (y := y) (f := f) (l := (l.flatMap (Ks577.successors G)).eraseDups)
      constructor
      · rintro ⟨lv, h, hy⟩
        rcases List.mem_cons.mp h with rfl | h
        · exact ⟨0, by omega, hy⟩
        · obtain ⟨k, hk, h2⟩ := ih.mp ⟨lv, h, hy⟩
          exact ⟨k + 1, by omega, h2⟩
      · rintro ⟨k, hk, h⟩
        cases k with
        | zero => exact ⟨l, by simp, h⟩
        | succ k =>
          obtain ⟨lv, h2, hy⟩ := ih.mpr ⟨k, by omega, h⟩
          exact ⟨lv, List.mem_cons_of_mem _ h2, hy⟩
theorem spec_succ (G : Graph) : ∀ (k : Nat) (l : List (List Nat)), specAt G l (k + 1) = ((specAt G l k).flatMap (Ks577.successors G)).eraseDups
  | 0, l => rfl
  | k + 1, l => spec_succ G k _
theorem mem_succ {g : List (List Nat)} {G : Graph} (T : Ties g G) {p y : List Nat} : y ∈ Ks577.successors G p ↔ y ∈ movesFrom g p := by
  rw [mem_moves]
  unfold Ks577.successors Ks577.possibleMoves
  rw [List.mem_map]
  constructor
  · rintro ⟨m, hm, rfl⟩
    obtain ⟨u, hu, h⟩ := List.mem_flatMap.mp hm
    obtain ⟨v, hv, rfl⟩ := List.mem_map.mp h
    rw [List.mem_filter] at hv
    have hu : u < g.length := by rw [← T.cnt]; exact List.mem_range.mp hu
    have h2 := hv.2
    unfold Ks577.canMove at h2
    rw [Bool.and_eq_true, decide_eq_true_eq] at h2
    exact ⟨u, v, hu, h2.2, (T.adj u v hu).mpr h2.1, rfl⟩
  · rintro ⟨s, t, hs, c, ht, rfl⟩
    refine ⟨(s, t), ?_, rfl⟩
    have ha := (T.adj s t hs).mp ht
    refine List.mem_flatMap.mpr ⟨s, List.mem_range.mpr (by rw [T.cnt]; exact hs), ?_⟩
    refine List.mem_map.mpr ⟨t, ?_, rfl⟩
    rw [List.mem_filter]
    refine ⟨List.mem_range.mpr (T.low _ _ ha).2, ?_⟩
    unfold Ks577.canMove
    rw [ha, Bool.true_and, decide_eq_true_eq]
    exact c
theorem level_spec {g : List (List Nat)} {G : Graph} (T : Ties g G) {p : List Nat} : ∀ (k : Nat) (y : List Nat), y ∈ specAt G [p] k ↔ y ∈ levelAt g p k
  | 0, y => Iff.rfl
  | k + 1, y => by
    rw [spec_succ, List.mem_eraseDups, List.mem_flatMap]
    show _ ↔ y ∈ behindOne g (levelAt g p k)
    rw [mem_behind]
    refine exists_congr fun q => ?_
    rw [level_spec T k q, mem_succ T]
theorem levels_all {g : List (List Nat)} {G : Graph} (T : Ties g G) {p : List Nat} (f : List Nat → Bool) : ((Ks577.levels G p).any fun lv => lv.any f) = (allBehind g p).any f := by
  rw [Bool.eq_iff_iff, List.any_eq_true, List.any_eq_true]
  constructor
  · rintro ⟨lv, h, h2⟩
    obtain ⟨y, hy, hf⟩ := List.any_eq_true.mp h2
    obtain ⟨k, hk, h3⟩ := mem_levels.mp ⟨lv, h, hy⟩
    exact ⟨y, mem_found.mpr ⟨k, by omega, (level_spec T k y).mp h3⟩, hf⟩
  · rintro ⟨y, hy, hf⟩
    obtain ⟨k, hk, h3⟩ := mem_found.mp hy
    obtain ⟨lv, h, h2⟩ := mem_levels.mpr ⟨k, Nat.lt_succ_of_le hk, (level_spec T k y).mpr h3⟩
    exact ⟨lv, h, List.any_eq_true.mpr ⟨y, h2, hf⟩⟩
/-! ### what is reached -/
def hasPebble (ps : List (List Nat)) (v : Nat) : Bool := (ps.map fun p => decide (0 < p.getD v 0)).any id
def reachedFrom (g : List (List Nat)) (p : List Nat) : List Nat := (List.range g.length).map fun v => if hasPebble (allBehind g p) v = true then 1 else 0
def isSolved (g : List (List Nat)) (p : List Nat) : Bool := !(reachedFrom g p).contains 0
def isCovering (p : List Nat) : Bool := (p.map fun x => decide (0 < x)).all id
def canBeCovered (g : List (List Nat)) (p : List Nat) : Bool := ((allBehind g p).map isCovering).any id
theorem has_eq {g : List (List Nat)} {G : Graph} (T : Ties g G) (p : List Nat) (v : Nat) : hasPebble (allBehind g p) v = Ks577.canReach G p v 1 := by
  unfold hasPebble Ks577.canReach Ks577.minMoves
  rw [List.findIdx?_isSome, List.any_map]
  exact (levels_all T fun d => decide (1 ≤ pebblesAt d v)).symm
theorem reached_eq {g : List (List Nat)} {G : Graph} (T : Ties g G) (p : List Nat) : reachedFrom g p = (List.range g.length).map fun v => if Ks577.canReach G p v 1 = true then 1 else 0 := by
  unfold reachedFrom
  apply List.map_congr_left
  intro v _
  rw [has_eq T]
theorem solved_eq {g : List (List Nat)} {G : Graph} (T : Ties g G) (p : List Nat) : isSolved g p = Ks579.isSolvable G p := by
  unfold isSolved Ks579.isSolvable
  rw [reached_eq T, T.cnt, Bool.eq_iff_iff, Bool.not_eq_true', Bool.eq_false_iff, ne_eq, List.contains_iff_mem, List.mem_map, List.all_eq_true]
  constructor
  · intro h v hv
    by_cases c : Ks577.canReach G p v 1 = true
    · exact c
    · exact absurd ⟨v, hv, by rw [if_neg c]⟩ h
  · rintro h ⟨v, hv, e⟩
    rw [if_pos (h v hv)] at e
    cases e
theorem covered_eq {g : List (List Nat)} {G : Graph} (T : Ties g G) (p : List Nat) : canBeCovered g p = Ks579.canCover G p := by
  unfold canBeCovered Ks579.canCover
  rw [List.any_map, levels_all T]
  congr 1
  funext d
  show (d.map fun x => decide (0 < x)).all id = _
  rw [List.all_map]
  rfl
end Sw
namespace Sw
open Ks577 (Graph Configuration pebblesAt isAdjacent neighbourhood distance)

/-! ### all placings -/
def oneMore (total : Nat) (row : List Nat) : List (List Nat) := (List.range (total - row.sum + 1)).map fun m => row ++ [m]
def withOneMore (rows : List (List Nat)) (total : Nat) : List (List Nat) := rows.flatMap (oneMore total)
def prefixes (total : Nat) : Nat → List (List Nat)
  | 0 => [[]]
  | k + 1 => withOneMore (prefixes total k) total
def lastOn (total : Nat) (row : List Nat) : List Nat := row ++ [total - row.sum]
def allPlacings (n total : Nat) : List (List Nat) := (prefixes total (n - 1)).map (lastOn total)
def solvedPlacings (g : List (List Nat)) (total : Nat) : List (List Nat) := (allPlacings g.length total).filter (isSolved g)
theorem prefix_ok {total : Nat} : ∀ {k : Nat} {row : List Nat}, row ∈ prefixes total k → row.length = k ∧ row.sum ≤ total
  | 0, row, h => by
    have h : row ∈ [[]] := h
    rw [List.mem_singleton] at h
    subst h
    exact ⟨rfl, Nat.zero_le _⟩
  | k + 1, row, h => by
    have h : row ∈ (prefixes total k).flatMap (oneMore total) := h
    obtain ⟨r, hr, h2⟩ := List.mem_flatMap.mp h
    obtain ⟨m, hm, rfl⟩ := List.mem_map.mp h2
    have ih := prefix_ok hr
    rw [List.mem_range] at hm
    simp
    omega
theorem flatMap_map {A B C : Type} (l : List A) (f : A → List B) (h : B → C) : (l.flatMap f).map h = l.flatMap fun a => (f a).map h := by
  induction l with
  | nil => rfl
  | cons a l ih => simp [List.flatMap_cons, ih]
theorem map_flatMap {A B C : Type} (l : List A) (f : A → B) (h : B → List C) : (l.map f).flatMap h = l.flatMap fun a => h (f a) := by
  induction l with
  | nil => rfl
  | cons a l ih => simp [List.flatMap_cons, ih]
theorem flatMap_flatMap {A B C : Type} (l : List A) (f : A → List B) (h : B → List C) : (l.flatMap f).flatMap h = l.flatMap fun a => (f a).flatMap h := by
  induction l with
  | nil => rfl
  | cons a l ih => simp [List.flatMap_cons, ih]
theorem flatMap_same {A B : Type} {l : List A} {f h : A → List B} (e : ∀ a ∈ l, f a = h a) : l.flatMap f = l.flatMap h := by
  induction l with
  | nil => rfl
  | cons a l ih =>
    rw [List.flatMap_cons, List.flatMap_cons, e a (by simp), ih fun b hb => e b (List.mem_cons_of_mem _ hb)]
/-- from the left -/
theorem prefix_left : ∀ (k total : Nat), prefixes total (k + 1) = (List.range (total + 1)).flatMap fun a => (prefixes (total - a) k).map (a :: ·)
  | 0, total => by
    show withOneMore [[]] total = _
    unfold withOneMore oneMore
    rw [List.flatMap_cons]
    show (List.range (total + 1)).map (fun m => [m]) ++ [] = (List.range (total + 1)).flatMap fun a => [[a]]
    rw [List.append_nil]
    induction (List.range (total + 1)) with
    | nil => rfl
    | cons a l ih =>
      rw [List.map_cons, List.flatMap_cons, ih]
      rfl
  | k + 1, total => by
    have ih := prefix_left k total
    show withOneMore (prefixes total (k + 1)) total = _
    unfold withOneMore
    rw [ih, flatMap_flatMap]
    refine flatMap_same fun a ha => ?_
    rw [map_flatMap]
    show _ = (withOneMore (prefixes (total - a) k) (total - a)).map (a :: ·)
    unfold withOneMore
    rw [flatMap_map]
    refine flatMap_same fun r hr => ?_
    unfold oneMore
    rw [List.map_map, show total - (a :: r).sum + 1 = total - a - r.sum + 1 by simp; omega]
    rfl
theorem config_one : ∀ t : Nat, Ks578.configurations 1 t = [[t]] := by
  intro t
  show ((List.range (t + 1)).flatMap fun first => (if t - first = 0 then [[]] else []).map fun rest => first :: rest) = [[t]]
  rw [List.range_succ, List.flatMap_append]
  have e : ((List.range t).flatMap fun first => (if t - first = 0 then ([[]] : List (List Nat)) else []).map fun rest => first :: rest) = [] := by
    rw [List.flatMap_eq_nil_iff]
    intro a ha
    rw [List.mem_range] at ha
    rw [if_neg (by omega)]
    rfl
  rw [e]
  simp
theorem config_eq : ∀ (k total : Nat), Ks578.configurations (k + 1) total = (prefixes total k).map (lastOn total)
  | 0, total => by
    rw [config_one]
    rfl
  | k + 1, total => by
    show ((List.range (total + 1)).flatMap fun first => (Ks578.configurations (k + 1) (total - first)).map fun rest => first :: rest) = _
    rw [prefix_left, flatMap_map]
    refine flatMap_same fun a ha => ?_
    rw [config_eq k (total - a), List.map_map, List.map_map]
    refine List.map_congr_left fun r hr => ?_
    show a :: (r ++ [total - a - r.sum]) = (a :: r) ++ [total - (a :: r).sum]
    rw [show total - (a :: r).sum = total - a - r.sum by simp; omega]
    rfl
theorem placings_eq {n : Nat} (h : 1 ≤ n) (total : Nat) : allPlacings n total = Ks578.configurations n total := by
  obtain ⟨k, rfl⟩ : ∃ k, n = k + 1 := ⟨n - 1, by omega⟩
  rw [config_eq]
  rfl
theorem placing_ok {n total : Nat} (h : 1 ≤ n) {c : List Nat} (hc : c ∈ allPlacings n total) : c.length = n ∧ c.sum = total := by
  obtain ⟨r, hr, rfl⟩ := List.mem_map.mp hc
  have := prefix_ok hr
  unfold lastOn
  simp
  omega
theorem config_mem : ∀ {n : Nat} (c : List Nat), c.length = n → c ∈ Ks578.configurations n c.sum
  | 0, c, h => by
    cases c with
    | nil => show [] ∈ (if (0 : Nat) = 0 then [[]] else ([] : List (List Nat))); simp
    | cons a r => simp at h
  | n + 1, c, h => by
    cases c with
    | nil => simp at h
    | cons a r =>
      have ih := config_mem (n := n) r (by simpa using h)
      refine List.mem_flatMap.mpr ⟨a, List.mem_range.mpr (by simp; omega), List.mem_map.mpr ⟨r, ?_, rfl⟩⟩
      rw [show (a :: r).sum - a = r.sum by simp]
      exact ih
/-! a bound on how many -/
theorem nodup_prefix (total : Nat) : ∀ k, (prefixes total k).Nodup
  | 0 => by show ([[]] : List (List Nat)).Nodup; simp
  | k + 1 => by
    have ih := nodup_prefix total k
    show ((prefixes total k).flatMap (oneMore total)).Nodup
    rw [List.Nodup, List.pairwise_flatMap]
    constructor
    · intro r _
      unfold oneMore
      rw [List.pairwise_map]
      refine List.Pairwise.imp (fun {a b} h e => ?_) (List.nodup_range (n := total - r.sum + 1))
      have := List.append_inj_right e rfl
      simp at this
      exact h this
    · refine List.Pairwise.imp_of_mem (fun {a b} ha hb h x hx y hy e => ?_) ih
      subst e
      obtain ⟨m, _, rfl⟩ := List.mem_map.mp hx
      obtain ⟨m', _, e⟩ := List.mem_map.mp hy
      have hA := prefix_ok ha
      have hB := prefix_ok hb
      exact h (List.append_inj_left e (by omega)).symm
theorem prefix_few {total k : Nat} (hk : k ≤ 5) (ht : total ≤ 12) : (prefixes total k).length ≤ 371293 :=
  few (n := k) (nodup_prefix total k) hk fun y hy => by
    have := prefix_ok hy
    exact ⟨this.1, by omega⟩
theorem placings_few {n total : Nat} (hn : n ≤ 5) (ht : total ≤ 12) : (allPlacings n total).length ≤ 371293 := by
  unfold allPlacings
  rw [List.length_map]
  exact prefix_few (by omega) ht
/-! ### the calls on placings -/
theorem solved_placings_eq {g : List (List Nat)} {G : Graph} (T : Ties g G) (h : 1 ≤ g.length) (total : Nat) : solvedPlacings g total = Ks579.solvableConfigurations G total := by
  unfold solvedPlacings Ks579.solvableConfigurations
  rw [placings_eq h, T.cnt]
  congr 1
  funext p
  exact solved_eq T p
theorem found_self {g : List (List Nat)} (p : List Nat) : p ∈ allBehind g p := mem_found.mpr ⟨0, Nat.zero_le _, by show p ∈ [p]; simp⟩
theorem ones_solved (g : List (List Nat)) : isSolved g (List.replicate g.length 1) = true := by
  unfold isSolved reachedFrom
  rw [Bool.not_eq_true', Bool.eq_false_iff, ne_eq, List.contains_iff_mem, List.mem_map]
  rintro ⟨v, hv, e⟩
  rw [if_pos] at e
  · cases e
  · unfold hasPebble
    rw [List.any_map, List.any_eq_true]
    refine ⟨_, found_self _, ?_⟩
    show decide (0 < (List.replicate g.length 1).getD v 0) = true
    rw [List.getD_eq_getElem?_getD, List.getElem?_replicate, if_pos (List.mem_range.mp hv)]
    rfl
theorem zeros_not (g : List (List Nat)) (h : 1 ≤ g.length) {p : List Nat} (hp : p.sum = 0) : isSolved g p = false := by
  unfold isSolved reachedFrom
  rw [Bool.not_eq_false', List.contains_iff_mem, List.mem_map]
  refine ⟨0, List.mem_range.mpr h, ?_⟩
  rw [if_neg]
  unfold hasPebble allBehind
  rw [hp, List.any_map]
  intro c
  obtain ⟨y, hy, h2⟩ := List.any_eq_true.mp c
  have hy : y ∈ [p] := hy
  rw [List.mem_singleton] at hy
  subst hy
  have h2 : 0 < y.getD 0 0 := of_decide_eq_true h2
  cases y with
  | nil => simp at h2
  | cons a r =>
    simp at hp h2
    omega
/-- the first of the totals at which there is one -/
theorem optimal_some {g : List (List Nat)} {G : Graph} (T : Ties g G) (h : 1 ≤ g.length) {t : Nat} {c : List Nat} {r : List (List Nat)} (ht : 1 ≤ t) (ht2 : t ≤ g.length) (hn : ∀ s, 1 ≤ s → s < t → solvedPlacings g s = []) (hs : solvedPlacings g t = c :: r) :
    Ks579.optimalConfiguration G = some (t, c) := by
  unfold Ks579.optimalConfiguration
  have hf : ∀ s, ((Ks578.configurations G.vertexCount s).find? (Ks579.isSolvable G)) = (solvedPlacings g s).head? := by
    intro s
    rw [solved_placings_eq T h]
    unfold Ks579.solvableConfigurations
    rw [List.head?_filter]
  rw [T.cnt] at hf ⊢
  have hsplit : List.range (g.length + 1) = List.range t ++ t :: (List.range (g.length - t)).map (t + 1 + ·) := by
    rw [show g.length + 1 = t + (g.length + 1 - t) by omega, List.range_add, show g.length + 1 - t = (g.length - t) + 1 by omega, List.range_succ_eq_map, List.map_cons, List.map_map]
    congr 1
    congr 1
    apply List.map_congr_left
    intro x _
    show t + (x + 1) = t + 1 + x
    omega
  rw [hsplit, List.findSome?_append]
  have e0 : (List.range t).findSome? (fun pebbles => ((Ks578.configurations g.length pebbles).find? (Ks579.isSolvable G)).map fun c => (pebbles, c)) = none := by
    rw [List.findSome?_eq_none_iff]
    intro s hs2
    rw [List.mem_range] at hs2
    rw [hf]
    by_cases c0 : s = 0
    · subst c0
      have : solvedPlacings g 0 = [] := by
        unfold solvedPlacings
        rw [List.filter_eq_nil_iff]
        intro p hp
        rw [zeros_not g h (placing_ok h hp).2]
        simp
      rw [this]
      rfl
    · rw [hn s (by omega) hs2]
      rfl
  rw [e0, Option.none_or, List.findSome?_cons, hf, hs]
  rfl
theorem solved_ones {g : List (List Nat)} (h : 1 ≤ g.length) : solvedPlacings g g.length ≠ [] := by
  intro e
  have : List.replicate g.length 1 ∈ solvedPlacings g g.length := by
    unfold solvedPlacings
    rw [List.mem_filter]
    refine ⟨?_, ones_solved g⟩
    rw [placings_eq h]
    have := config_mem (n := g.length) (List.replicate g.length 1) (by simp)
    simpa using this
  rw [e] at this
  nomatch this
end Sw
namespace Sw
open Ks577 (Graph Configuration pebblesAt isAdjacent neighbourhood distance)

/-! ### the specification's answers, in the mirror's words -/
def ofN (n : Nat) : Int := (n : Int)
theorem toNat_map (l : List Nat) : (l.map ofN).map Int.toNat = l := by
  rw [List.map_map]
  have : (Int.toNat ∘ ofN) = id := by
    funext x
    show ((x : Int)).toNat = x
    exact Int.toNat_natCast x
  rw [this, List.map_id]
theorem parse_graph (n : Nat) (es : List Nat) : Ks577.parseGraph n es = if isGraph n es = true then some ⟨n, pairsOf es⟩ else none := by
  unfold Ks577.parseGraph isGraph
  by_cases c : n < 1 ∨ Ks577.maxVertices < n
  · rw [if_pos c, if_neg]
    unfold Ks577.maxVertices at c
    simp
    omega
  · rw [if_neg c, parse_eq]
    unfold Ks577.maxVertices at c
    have e : (decide (1 ≤ n) && decide (n ≤ 5)) = true := by
      simp
      omega
    rw [e, Bool.true_and]
    split <;> rfl
theorem with_graph (n : Nat) (es : List Nat) (k : Graph → Ks577.Result) : Ks577.withGraph n es k = if isGraph n es = true then k ⟨n, pairsOf es⟩ else Ks577.number (-22) := by
  unfold Ks577.withGraph
  rw [parse_graph]
  split
  · split
    · rename_i h1 h2
      rw [if_pos h2] at h1
      cases h1
    · rfl
  · split
    · rename_i h1 h2
      rw [if_pos h2] at h1
      injection h1 with h1
      rw [h1]
    · rename_i h1 h2
      rw [if_neg h2] at h1
      cases h1
theorem graph_is {n : Nat} {es : List Nat} (h : isGraph n es = true) : 1 ≤ n ∧ n ≤ 5 ∧ areEdges n es = true := by
  unfold isGraph at h
  simpa [Bool.and_eq_true, and_assoc] using h
def isPlacing (n : Nat) (ps : List Nat) : Bool := decide (ps.length = n) && decide (ps.sum ≤ 12)
theorem with_config (n : Nat) (es ps : List Nat) (k : Graph → Configuration → Ks577.Result) : Ks577.withConfiguration n es ps k = if isGraph n es = true then (if isPlacing n ps = true then k ⟨n, pairsOf es⟩ ps else Ks577.number (-22)) else Ks577.number (-22) := by
  unfold Ks577.withConfiguration
  rw [with_graph]
  rfl
theorem number_is (z : Int) : Ks579Neutral.integers (Ks577.number z) = [z] := rfl
theorem if_integers {c : Prop} [Decidable c] {a b : Ks577.Result} : Ks579Neutral.integers (if c then a else b) = if c then Ks579Neutral.integers a else Ks579Neutral.integers b := by
  split <;> rfl
theorem spec1 (n : Nat) (es ps : List Nat) : PyKs579.is_solvable (ofN n) (es.map ofN) (ps.map ofN) =
    if isGraph n es = true then (if isPlacing n ps = true then (if Ks579.isSolvable ⟨n, pairsOf es⟩ ps = true then 1 else 0) :: ((List.range n).map fun v => if Ks577.canReach ⟨n, pairsOf es⟩ ps v 1 = true then 1 else 0).map ofN else [-22]) else [-22] := by
  show Ks579Neutral.integers (Ks579.answer (.isSolvable (ofN n).toNat ((es.map ofN).map Int.toNat) ((ps.map ofN).map Int.toNat))) = _
  rw [toNat_map, toNat_map, show (ofN n).toNat = n from Int.toNat_natCast n]
  dsimp only [Ks579.answer]
  rw [with_config, if_integers, if_integers]
  rfl
theorem spec2 (n : Nat) (es : List Nat) : PyKs579.optimal_configuration (ofN n) (es.map ofN) =
    if isGraph n es = true then (match Ks579.optimalConfiguration ⟨n, pairsOf es⟩ with | none => [-33] | some (t, c) => ofN t :: c.map ofN) else [-22] := by
  show Ks579Neutral.integers (Ks579.answer (.optimalConfiguration (ofN n).toNat ((es.map ofN).map Int.toNat))) = _
  rw [toNat_map, show (ofN n).toNat = n from Int.toNat_natCast n]
  dsimp only [Ks579.answer]
  rw [with_graph, if_integers]
  congr 1
  cases Ks579.optimalConfiguration ⟨n, pairsOf es⟩ with
  | none => rfl
  | some x => rfl
theorem spec3 (n : Nat) (k : Nat) (es : List Nat) : PyKs579.count_solvable (ofN n) (ofN k) (es.map ofN) =
    if isGraph n es = true then (if 6 < k then [-22] else [ofN (Ks579.solvableConfigurations ⟨n, pairsOf es⟩ k).length]) else [-22] := by
  show Ks579Neutral.integers (Ks579.answer (.countSolvable (ofN n).toNat (ofN k).toNat ((es.map ofN).map Int.toNat))) = _
  rw [toNat_map, show (ofN n).toNat = n from Int.toNat_natCast n, show (ofN k).toNat = k from Int.toNat_natCast k]
  dsimp only [Ks579.answer]
  rw [with_graph, if_integers, if_integers]
  rfl
theorem spec4 (n : Nat) (es ps : List Nat) : PyKs579.can_cover (ofN n) (es.map ofN) (ps.map ofN) =
    if isGraph n es = true then (if isPlacing n ps = true then [if Ks579.canCover ⟨n, pairsOf es⟩ ps = true then 1 else 0] else [-22]) else [-22] := by
  show Ks579Neutral.integers (Ks579.answer (.canCover (ofN n).toNat ((es.map ofN).map Int.toNat) ((ps.map ofN).map Int.toNat))) = _
  rw [toNat_map, toNat_map, show (ofN n).toNat = n from Int.toNat_natCast n]
  dsimp only [Ks579.answer]
  rw [with_config, if_integers, if_integers]
  rfl
theorem spec5 (n v : Nat) (es : List Nat) : PyKs579.cover_from (ofN n) (ofN v) (es.map ofN) =
    if isGraph n es = true then (if Ks578.isConnected ⟨n, pairsOf es⟩ = false then [-33] else if n ≤ v then [-2] else [ofN (Ks579.coverFrom ⟨n, pairsOf es⟩ v)]) else [-22] := by
  show Ks579Neutral.integers (Ks579.answer (.coverFrom (ofN n).toNat (ofN v).toNat ((es.map ofN).map Int.toNat))) = _
  rw [toNat_map, show (ofN n).toNat = n from Int.toNat_natCast n, show (ofN v).toNat = v from Int.toNat_natCast v]
  dsimp only [Ks579.answer, Ks579.withConnected]
  rw [with_graph, if_integers, if_integers, if_integers]
  rfl
theorem spec6 (n : Nat) (es : List Nat) : PyKs579.cover_number (ofN n) (es.map ofN) =
    if isGraph n es = true then (if Ks578.isConnected ⟨n, pairsOf es⟩ = false then [-33] else [ofN (Ks579.coverNumber ⟨n, pairsOf es⟩)]) else [-22] := by
  show Ks579Neutral.integers (Ks579.answer (.coverNumber (ofN n).toNat ((es.map ofN).map Int.toNat))) = _
  rw [toNat_map, show (ofN n).toNat = n from Int.toNat_natCast n]
  dsimp only [Ks579.answer, Ks579.withConnected]
  rw [with_graph, if_integers, if_integers]
  rfl
end Sw
namespace Sw
open PySem PySem.Spec PyProof.Rows L2

/-! ### values and heaps -/
def vn (n : Nat) : V := .int (n : Int)
theorem same_upd {H : Hp} {p : Addr} {o : HO} (h : H p = none) : Same H (upd H p o) := fun b x e => by
  rw [upd_ne (ne_of_none e h)]
  exact e
theorem same_put {H H1 : Hp} {p : Addr} {o : HO} (s : Same H H1) (h : H p = none) : Same H (upd H1 p o) := fun b x e => by
  rw [upd_ne (ne_of_none e h)]
  exact s b x e
/-- a list of lists, or of tuples, of natural numbers -/
def LX (mk : List V → HO) (H : Hp) (p : Addr) (rows : List (List Nat)) : Prop :=
  ∃ bs : List Addr, H p = some (.lst (bs.map V.ref)) ∧ Paired (fun r b => b ≠ p ∧ H b = some (mk (r.map vn))) rows bs
theorem paired_get {A B : Type} {R : A → B → Prop} : ∀ {xs : List A} {ys : List B} {i : Nat} {x : A}, Paired R xs ys → xs[i]? = some x → ∃ y, ys[i]? = some y ∧ R x y
  | _, _, _, _, .nil, e => by simp at e
  | _, _, 0, _, .cons r _, e => by simp at e; subst e; exact ⟨_, rfl, r⟩
  | _, _, i + 1, x, .cons _ t, e => by
    obtain ⟨u, h1, h2⟩ := paired_get (i := i) (x := x) t (by simpa using e)
    exact ⟨u, by simpa using h1, h2⟩
theorem paired_back {A B : Type} {R : A → B → Prop} : ∀ {xs : List A} {ys : List B} {i : Nat} {y : B}, Paired R xs ys → ys[i]? = some y → ∃ x, xs[i]? = some x ∧ R x y
  | _, _, _, _, .nil, e => by simp at e
  | _, _, 0, _, .cons r _, e => by simp at e; subst e; exact ⟨_, rfl, r⟩
  | _, _, i + 1, x, .cons _ t, e => by
    obtain ⟨u, h1, h2⟩ := paired_back (i := i) t (by simpa using e)
    exact ⟨u, by simpa using h1, h2⟩
theorem paired_app {A B : Type} {R : A → B → Prop} : ∀ {xs xs' : List A} {ys ys' : List B}, Paired R xs ys → Paired R xs' ys' → Paired R (xs ++ xs') (ys ++ ys')
  | _, _, _, _, .nil, h => h
  | _, _, _, _, .cons r t, h => .cons r (paired_app t h)
theorem LX.same {mk : List V → HO} {H H' : Hp} {p : Addr} {rows : List (List Nat)} (h : LX mk H p rows) (s : Same H H') : LX mk H' p rows := by
  obtain ⟨bs, h1, h2⟩ := h
  exact ⟨bs, s _ _ h1, Paired.mapP h2 fun r b q => ⟨q.1, s _ _ q.2⟩⟩
theorem LX.nil {mk : List V → HO} {H : Hp} {p : Addr} (h : H p = some (.lst [])) : LX mk H p [] := ⟨[], h, .nil⟩
theorem LX.push {mk : List V → HO} {H H4 : Hp} {p b : Addr} {rows : List (List Nat)} {r : List Nat} (h : LX mk H p rows) (s : Same H H4) (hb : H4 b = some (mk (r.map vn))) (ne : b ≠ p) (hz : rows.length < sizeLine) :
    ∃ acc, H4 p = some (.lst acc) ∧ acc.length < sizeLine ∧ LX mk (upd H4 p (.lst (acc ++ [.ref b]))) p (rows ++ [r]) := by
  obtain ⟨bs, h1, h2⟩ := h
  refine ⟨bs.map V.ref, s _ _ h1, ?_, bs ++ [b], ?_, paired_app (Paired.mapP h2 fun r b q => ⟨q.1, ?_⟩) (.cons ⟨ne, ?_⟩ .nil)⟩
  · rw [List.length_map, ← h2.length]
    exact hz
  · rw [upd_same, List.map_append]
    rfl
  · rw [upd_ne q.1]
    exact s _ _ q.2
  · rw [upd_ne ne]
    exact hb
theorem LX.at {mk : List V → HO} {K : PySem.W.Frag} {H : Hp} {p : Addr} {rows : List (List Nat)} (h : LX mk H p rows) : ∃ bs : List Addr, SqL K H p (bs.map V.ref) ∧ bs.length = rows.length ∧ H p = some (.lst (bs.map V.ref)) ∧
    (∀ (i : Nat) (r : List Nat), rows[i]? = some r → ∃ b, (bs.map V.ref)[i]? = some (.ref b) ∧ H b = some (mk (r.map vn))) ∧
    (∀ (i : Nat) (x : V), (bs.map V.ref)[i]? = some x → ∃ b r, x = .ref b ∧ rows[i]? = some r ∧ H b = some (mk (r.map vn))) := by
  obtain ⟨bs, h1, h2⟩ := h
  refine ⟨bs, SqL.of h1, h2.length.symm, h1, fun i r e => ?_, fun i x e => ?_⟩
  · obtain ⟨b, e2, q⟩ := paired_get h2 e
    exact ⟨b, by rw [List.getElem?_map, e2]; rfl, q.2⟩
  · rw [List.getElem?_map] at e
    cases e2 : bs[i]? with
    | none =>
      rw [e2] at e
      cases e
    | some b =>
      rw [e2] at e
      obtain ⟨r, e3, q⟩ := paired_back h2 e2
      exact ⟨b, r, (Option.some.inj e).symm, e3, q.2⟩
theorem take_more {A : Type} : ∀ {l : List A} {i : Nat} {x : A}, l[i]? = some x → l.take (i + 1) = l.take i ++ [x]
  | [], i, x, h => by simp at h
  | a :: l, 0, x, h => by
    have e : a = x := Option.some.inj h
    subst e
    rfl
  | a :: l, i + 1, x, h => by
    have ih := take_more (l := l) (i := i) (x := x) h
    show a :: l.take (i + 1) = a :: l.take i ++ [x]
    rw [ih]
    rfl
/-- a comprehension's list of flat values: behind i turns -/
def PFlat (H1 : Hp) (D : Addr) (vs : List V) (i : Nat) (H : Hp) : Prop := Same H1 H ∧ H D = some (.lst (vs.take i))
theorem pflat_0 {H1 : Hp} {D : Addr} {vs : List V} (nD : H1 D = none) : PFlat H1 D vs 0 (upd H1 D (.lst [])) := ⟨same_upd nD, upd_same⟩
theorem pflat_push {H1 H H4 : Hp} {D : Addr} {vs : List V} {i : Nat} {y : V} (nD : H1 D = none) (hz : vs.length ≤ sizeLine) (p : PFlat H1 D vs i H) (s : Same H H4) (e : vs[i]? = some y) :
    ∃ acc, H4 D = some (.lst acc) ∧ acc.length < sizeLine ∧ PFlat H1 D vs (i + 1) (upd H4 D (.lst (acc ++ [y]))) := by
  have hi : i < vs.length := (List.getElem?_eq_some_iff.mp e).1
  refine ⟨vs.take i, s _ _ p.2, ?_, same_put (p.1.trans s) nD, ?_⟩
  · rw [List.length_take]
    omega
  · rw [upd_same, take_more e]
theorem pflat_end {H1 H : Hp} {D : Addr} {vs : List V} {n : Nat} (hn : vs.length ≤ n) (p : PFlat H1 D vs n H) : Same H1 H ∧ H D = some (.lst vs) := ⟨p.1, by rw [p.2, List.take_of_length_le hn]⟩
/-- a comprehension's list of new lists, or tuples: behind i turns -/
def PRefs (mk : List V → HO) (H1 : Hp) (D : Addr) (rows : List (List Nat)) (i : Nat) (H : Hp) : Prop := Same H1 H ∧ LX mk H D (rows.take i)
theorem prefs_0 {mk : List V → HO} {H1 : Hp} {D : Addr} {rows : List (List Nat)} (nD : H1 D = none) : PRefs mk H1 D rows 0 (upd H1 D (.lst [])) := ⟨same_upd nD, LX.nil upd_same⟩
theorem LX.there {mk : List V → HO} {H : Hp} {p : Addr} {rows : List (List Nat)} (h : LX mk H p rows) : ∃ xs, H p = some (.lst xs) := by
  obtain ⟨bs, h1, _⟩ := h
  exact ⟨_, h1⟩
theorem prefs_push {mk : List V → HO} {H1 H H4 : Hp} {D b : Addr} {rows : List (List Nat)} {r : List Nat} {i : Nat} (nD : H1 D = none) (hz : rows.length ≤ sizeLine) (p : PRefs mk H1 D rows i H) (s : Same H H4) (nb : H b = none) (hb : H4 b = some (mk (r.map vn))) (e : rows[i]? = some r) :
    ∃ acc, H4 D = some (.lst acc) ∧ acc.length < sizeLine ∧ PRefs mk H1 D rows (i + 1) (upd H4 D (.lst (acc ++ [.ref b]))) := by
  have hi : i < rows.length := (List.getElem?_eq_some_iff.mp e).1
  obtain ⟨xs, hx⟩ := p.2.there
  obtain ⟨acc, h1, h2, h3⟩ := p.2.push s hb (ne_of_none hx nb).symm (by rw [List.length_take]; omega)
  exact ⟨acc, h1, h2, same_put (p.1.trans s) nD, by rw [take_more e]; exact h3⟩
theorem prefs_end {mk : List V → HO} {H1 H : Hp} {D : Addr} {rows : List (List Nat)} {n : Nat} (hn : rows.length ≤ n) (p : PRefs mk H1 D rows n H) : Same H1 H ∧ LX mk H D rows := ⟨p.1, by rw [← List.take_of_length_le hn]; exact p.2⟩
theorem small_line {n : Nat} (h : n ≤ 16000000) : n ≤ sizeLine := by
  rw [sizeLine_eq]
  omega
theorem map_at {A B : Type} {f : A → B} {l : List A} {i : Nat} {x : A} (h : l[i]? = some x) : (l.map f)[i]? = some (f x) := by
  rw [List.getElem?_map, h]
  rfl
theorem at_map {A B : Type} {f : A → B} {l : List A} {i : Nat} {y : B} (h : (l.map f)[i]? = some y) : ∃ x, l[i]? = some x ∧ y = f x := by
  rw [List.getElem?_map] at h
  cases e : l[i]? with
  | none =>
    rw [e] at h
    cases h
  | some z =>
    rw [e] at h
    exact ⟨z, rfl, (Option.some.inj h).symm⟩
/-! ### a def of the text, ready to be called -/
section
variable (P : Program) (w : World) (K : PySem.W.Frag) (mg : Str → Option Value) (base : Heap)
def Cal (k : Nat) (x : Str) (ps : List Str) (sp : Sp) : Prop := ∃ f fd, mg x = some (.ref f) ∧ PySem.W.keepIn K (.ref f) = true ∧ Binds K fd ps [] ∧ FnOk P w K mg base CX0 k f fd ps sp
end
theorem Cal.mono {P : Program} {w : World} {K : PySem.W.Frag} {mg : Str → Option Value} {base : Heap} {j k : Nat} {x : Str} {ps : List Str} {sp : Sp} (c : Cal P w K mg base j x ps sp) (h : j ≤ k) : Cal P w K mg base k x ps sp := by
  obtain ⟨f, fd, a, b, d, e⟩ := c
  exact ⟨f, fd, a, b, d, e.mono h⟩
theorem pe_cal {X : Cx} {k : Nat} {x : Str} {ps : List Str} {sp : Sp} {p pos : Pos} {e : Expr} {es : List Expr} {t : TA} (c : Cal X.prog X.w X.K X.mg X.base k x ps sp) (hr : Room k X.A) (hg : Gl X x)
    (ha : PA X (e :: es) t) (hdb : (x == ("__debug__" : Str)) = false := by decide) (he : starEach (e :: es) X.env = (false, eval e X.env) :: starEach es X.env := by rfl) (hpl : (backTo pos (starEach es X.env)).any (·.1) = false := by rfl) :
    PE X (.Call (.Name x p) (e :: es) [] pos) (tCall sp [] E0 t) := by
  obtain ⟨f, fd, a, b, d, F⟩ := c
  exact pe_call F hr hg a b d .nil pass0 ha hdb he hpl
/-- what the built-ins' names stand for: nothing of the module hides them -/
structure NB (mg : Str → Option Value) : Prop where
  len : mg "len" = none
  range : mg "range" = none
  all : mg "all" = none
  any : mg "any" = none
  sum : mg "sum" = none
  max : mg "max" = none
  list : mg "list" = none
  tuple : mg "tuple" = none
end Sw
namespace Sw
open PySem PySem.Spec PyProof.Rows L2
def topS (i : Nat) : Stmt := PySem.Challenge.pw_stonewalk_s03_count_solvable.main.body.getD i (.Pass ⟨0, 0, 0, 0⟩)
abbrev s_is_vertex_count : Stmt := topS 3
abbrev s_pairs_of : Stmt := topS 4
abbrev s_is_edge : Stmt := topS 5
abbrev s_is_below : Stmt := topS 6
abbrev s_are_rising : Stmt := topS 7
abbrev s_are_edges : Stmt := topS 8
abbrev s_is_graph : Stmt := topS 9
abbrev s_is_counted : Stmt := topS 10
abbrev s_adjacent_to : Stmt := topS 12
abbrev s_graph_of : Stmt := topS 13
abbrev s_moved : Stmt := topS 15
abbrev s_moves_from : Stmt := topS 16
abbrev s_behind_one_move : Stmt := topS 17
abbrev s_all_behind : Stmt := topS 18
abbrev s_has_pebble : Stmt := topS 20
abbrev s_reached_from : Stmt := topS 21
abbrev s_is_solved : Stmt := topS 22
abbrev s_with_one_more : Stmt := topS 24
abbrev s_all_placings : Stmt := topS 25
abbrev s_solved_placings : Stmt := topS 26
abbrev s_count_solvable : Stmt := topS 29
section
variable {P : Program} {w : World} {K : PySem.W.Frag} {mg : Str → Option Value} {base : Heap}
/-! ### lib_moves -/
theorem adjT_len (v : Nat) : ∀ ps : List (Nat × Nat), (adjacentTo v ps).length ≤ 2 * ps.length
  | [] => by simp [adjacentTo]
  | e :: r => by
    have ih := adjT_len v r
    unfold adjacentTo at ih ⊢
    rw [List.flatMap_cons, List.length_append, List.length_append, List.length_cons]
    have h1 : (if e.1 = v then [e.2] else []).length ≤ 1 := by split <;> simp
    have h2 : (if e.2 = v then [e.1] else []).length ≤ 1 := by split <;> simp
    omega
theorem sameT {K : PySem.W.Frag} {H H' : Hp} {a : Addr} {xs : List V} (e : Same H H') (h : SqT K H a xs) : SqT K H' a xs := by
  rcases h with (h | ⟨o, h⟩) | h
  · exact .inl (.inl (e _ _ h))
  · exact .inl (.inr ⟨o, e _ _ h⟩)
  · exact .inr h
theorem fold_take2 {l acc : List (List Nat)} {j : Nat} {y : List Nat} (h : l[j]? = some y) : (l.take (j + 1)).foldl putOne acc = putOne ((l.take j).foldl putOne acc) y := by
  rw [take_more h, List.foldl_append]
  rfl
theorem dec_pos (b : Nat) : decide ((0 : Int) < (b : Int)) = decide (0 < b) := by
  by_cases d : 0 < b
  · rw [decide_eq_true d, decide_eq_true (by omega)]
  · rw [decide_eq_false d, decide_eq_false (by omega)]
theorem vn_eq2 {a b : Nat} : (V.int (a : Int) = vn b) ↔ a = b := ⟨fun h => by have := V.int.inj h; omega, fun h => by rw [h]; rfl⟩
/-- a graph small enough -/
structure GOk (g : List (List Nat)) : Prop where
  rows : Rows g
  n5 : g.length ≤ 5
  slim : ∀ r ∈ g, r.length ≤ 1000
theorem gok_of {n : Nat} {es : List Nat} (h : isGraph n es = true) (hl : es.length ≤ 1000) : GOk (graphOf n es) where
  rows := graph_rows (graph_is h).2.2
  n5 := by rw [graph_len]; exact (graph_is h).2.1
  slim := fun r hr => by
    unfold graphOf at hr
    obtain ⟨v, _, rfl⟩ := List.mem_map.mp hr
    have := adjT_len v (pairsOf es)
    rw [pairs_len] at this
    omega
def keyOf (c : List Nat) : List Key := c.map fun n : Nat => (Sum.inl (n : Int) : Key)
theorem key_kV (c : List Nat) : (keyOf c).map kV = c.map vn := by
  unfold keyOf
  rw [List.map_map]
  rfl
theorem key_inj {c d : List Nat} (h : keyOf c = keyOf d) : c = d := by
  unfold keyOf at h
  refine (List.map_inj_right (f := fun n : Nat => (Sum.inl (n : Int) : Key)) fun x y e => ?_).mp h
  have := Sum.inl.inj e
  omega
def dk (c : List Nat) : List Key × V := (keyOf c, .bl true)
theorem put_dk (ds : List (List Nat)) (c : List Nat) : putK (ds.map dk) (keyOf c) (.bl true) = (putOne ds c).map dk := by
  have hany : ((ds.map dk).any fun kv => decide (kv.1 = keyOf c)) = decide (c ∈ ds) := by
    rw [Bool.eq_iff_iff, List.any_eq_true, decide_eq_true_eq]
    constructor
    · rintro ⟨kv, h, e⟩
      obtain ⟨d, hd, rfl⟩ := List.mem_map.mp h
      rw [← key_inj (of_decide_eq_true e)]
      exact hd
    · intro h
      exact ⟨dk c, List.mem_map.mpr ⟨c, h, rfl⟩, decide_eq_true rfl⟩
  unfold putK putOne
  rw [hany]
  by_cases h : c ∈ ds
  · rw [if_pos (decide_eq_true h), if_pos h, List.map_map]
    refine List.map_congr_left fun d _ => ?_
    show (if keyOf d = keyOf c then (keyOf d, V.bl true) else dk d) = dk d
    split <;> rfl
  · rw [if_neg (by rw [decide_eq_false h]; exact Bool.false_ne_true), if_neg h, List.map_append]
    rfl
theorem paired_map {A B C : Type} {R : A → B → Prop} (f : C → A) : ∀ {xs : List C} {ys : List B}, Paired R (xs.map f) ys → Paired (fun x y => R (f x) y) xs ys
  | [], _, h => by
    cases h
    exact .nil
  | x :: xs, _, h => by
    cases h with
    | cons r t => exact .cons r (paired_map f t)
theorem LX.extend {H H2 : Hp} {o D : Addr} {rows rows2 : List (List Nat)} (h : LX .tup H o rows) (s : Same H H2) (h2 : LX .tup H2 D rows2) :
    ∃ xs zs, H2 o = some (.lst xs) ∧ H2 D = some (.lst zs) ∧ xs.length = rows.length ∧ zs.length = rows2.length ∧ LX .tup (upd H2 o (.lst (xs ++ zs))) o (rows ++ rows2) := by
  obtain ⟨bs, h1, p1⟩ := h
  obtain ⟨cs, h3, p3⟩ := h2
  have ho := s _ _ h1
  refine ⟨bs.map V.ref, cs.map V.ref, ho, h3, by rw [List.length_map, ← p1.length], by rw [List.length_map, ← p3.length], bs ++ cs, ?_, paired_app (Paired.mapP p1 fun r b q => ⟨q.1, ?_⟩) (Paired.mapP p3 fun r b q => ?_)⟩
  · rw [upd_same, List.map_append]
  · rw [upd_ne q.1]
    exact s _ _ q.2
  · have ne : b ≠ o := ne_of q.2 ho (by intro z; cases z)
    refine ⟨ne, ?_⟩
    rw [upd_ne ne]
    exact q.2
theorem LX.keep {H : Hp} {o q : Addr} {x : HO} {xs : List V} {rows : List (List Nat)} (h : LX .tup H q rows) (ho : H o = some (.lst xs)) (ne : q ≠ o) : LX .tup (upd H o x) q rows := by
  obtain ⟨bs, h1, p1⟩ := h
  refine ⟨bs, by rw [upd_ne ne]; exact h1, Paired.mapP p1 fun r b z => ⟨z.1, ?_⟩⟩
  rw [upd_ne (ne_of z.2 ho (by intro z; cases z))]
  exact z.2
theorem in_nats (k : Nat) (l : List Nat) : inV (vn k) (l.map vn) = l.contains k := by
  unfold inV
  induction l with
  | nil => rfl
  | cons a r ih =>
    rw [List.map_cons, List.any_cons, ih, List.contains_cons]
    congr 1
    show ((a : Int) == (k : Int)) = (k == a)
    rw [Bool.eq_iff_iff, beq_iff_eq, beq_iff_eq]
    omega
theorem flat_nats (l : List Nat) : (l.map vn).all flatV = true := by
  rw [List.all_eq_true]
  intro x hx
  obtain ⟨i, _, rfl⟩ := List.mem_map.mp hx
  rfl
theorem vn_ints (l : List Nat) : l.map vn = (l.map fun x : Nat => (x : Int)).map V.int := by
  rw [List.map_map]
  rfl
theorem cast_sum : ∀ l : List Nat, (l.map fun x : Nat => (x : Int)).sum = ((l.sum : Nat) : Int)
  | [] => rfl
  | a :: r => by
    rw [List.map_cons, List.sum_cons, List.sum_cons, cast_sum r]
    omega
theorem all_few {g : List (List Nat)} (O : GOk g) {p : List Nat} (hpl : p.length = g.length) (hps : p.sum ≤ 12) : (allBehind g p).length ≤ 16000000 := by
  have a1 := found_few O.rows O.n5 hpl hps p.sum
  have : (p.sum + 1) * 371293 ≤ 13 * 371293 := Nat.mul_le_mul_right _ (by omega)
  unfold allBehind
  omega
theorem all_len {g : List (List Nat)} (O : GOk g) {p y : List Nat} (hpl : p.length = g.length) (h : y ∈ allBehind g p) : y.length = g.length := by
  obtain ⟨k, _, hk⟩ := mem_found.mp h
  exact (level_ok O.rows hpl k y hk).1
/-! ### is_vertex_count -/
theorem sc_is_vertex_count : FnScope ["vertex_count"] ["vertex_count"] (defScope s_is_vertex_count) := ⟨rfl, rfl, rfl, by decide +kernel, rfl, by decide +kernel, by decide +kernel⟩
def sp_is_vertex_count : Sp := fun vs H Q _ => ∃ n : Nat, vs = [vn n] ∧ Q (.bl (decide (1 ≤ n) && decide (n ≤ 5))) H
theorem ok_is_vertex_count {f : Addr} {fd : FuncData} (F : Fun K "is_vertex_count" "is_vertex_count" s_is_vertex_count f fd) {t : Tok} (m5 : mg "MOST_VERTICES" = some (.int 5 t)) : FnOk P w K mg base CX0 1 f fd ["vertex_count"] sp_is_vertex_count := by
  refine F.ok sc_is_vertex_count (fun vs H Q E h => ?_) (fun cdv A outer s H vs Q E hr h => ?_)
  · obtain ⟨n, rfl, _⟩ := h
    rfl
  · obtain ⟨n, rfl, q⟩ := h
    refine ⟨_, pss_one (ps_ret (pe_chain op_le op_le pe_int (pv 0) (pe_glob (v := .int 5) rfl m5 ⟨_, rfl⟩))), ?_⟩
    refine ⟨_, rfl, 1, (n : Int), rfl, rfl, _, rfl, ?_⟩
    by_cases c : 1 ≤ n
    · rw [if_pos (by simp; omega)]
      refine ⟨(n : Int), 5, rfl, rfl, ?_⟩
      rw [decide_eq_true c, Bool.true_and] at q
      have e : decide ((n : Int) ≤ 5) = decide (n ≤ 5) := by
        by_cases d : n ≤ 5
        · rw [decide_eq_true d, decide_eq_true (by omega)]
        · rw [decide_eq_false d, decide_eq_false (by omega)]
      show Q (.bl (decide ((n : Int) ≤ 5))) H
      rw [e]
      exact q
    · rw [if_neg (by simp; omega)]
      rw [decide_eq_false c, Bool.false_and] at q
      exact q
/-! ### pairs_of -/
theorem rgc_two {n : Nat} (h : n ≤ 1000) : RgC 0 ((n : Int) - 1) 2 (n / 2) := by
  have e : Builtin.Range.rangeSize 0 ((n : Int) - 1) 2 = ((n / 2 : Nat) : Int) := by
    unfold Builtin.Range.rangeSize
    rw [if_pos (by decide)]
    split <;> omega
  refine ⟨by decide, by decide, ?_, e⟩
  unfold Builtin.Range.small
  rw [e]
  simp only [Builtin.Range.rangeFitsLong, Bool.and_eq_true, Bool.or_eq_true, decide_eq_true_eq, beq_iff_eq, show (2 : Int) > 0 by decide, if_true]
  repeat' (first | omega | constructor)
theorem getD_at {l : List Nat} {i : Nat} (h : i < l.length) : l[i]? = some (l.getD i 0) := by
  rw [List.getD_eq_getElem?_getD, List.getElem?_eq_getElem h]
  rfl
theorem vn_at {l : List Nat} {i : Nat} {z : Int} (e : z = (i : Int)) (h : i < l.length) : atI (l.map vn) z = some (vn (l.getD i 0)) := at_of e (map_at (getD_at h))
theorem sc_pairs_of : FnScope ["edges", "at"] ["edges"] (defScope s_pairs_of) := ⟨rfl, rfl, rfl, by decide +kernel, rfl, by decide +kernel, by decide +kernel⟩
def pairRow (q : Nat × Nat) : List Nat := [q.1, q.2]
def sp_pairs_of (K : PySem.W.Frag) : Sp := fun vs H Q _ => ∃ (a : Addr) (es : List Nat), vs = [.ref a] ∧ SqL K H a (es.map vn) ∧ es.length ≤ 1000 ∧
  ∀ H' p, Same H H' → H p = none → LX .tup H' p ((pairsOf es).map pairRow) → Q (.ref p) H'
theorem ok_pairs_of {f : Addr} {fd : FuncData} (F : Fun K "pairs_of" "pairs_of" s_pairs_of f fd) (nb : NB mg) : FnOk P w K mg base CX0 1 f fd ["edges"] (sp_pairs_of K) := by
  refine F.ok sc_pairs_of (fun vs H Q E h => ?_) (fun cdv A outer s H vs Q E hr h => ?_)
  · obtain ⟨a, es, rfl, _⟩ := h
    rfl
  · obtain ⟨a, es, rfl, hS, hlen, q⟩ := h
    refine ⟨_, pss_one (ps_ret (pe_lc (own := [("at", 1)]) (g := gName 1) (by rfl) sc_pairs_of.nd
      (pi_range3 rfl nb.range (pa_cons pe_int (pa_cons (pe_op op_sub (pe_callB call_len_seq (by rfl) nb.len PySem.boot_len (pa_cons (pv 0) pa_nil)) pe_int) (pa_cons pe_int pa_nil))))
      (blkOk_by (own := [("at", 1)]) (N := ["edges", "at"]) (sc := defScope s_pairs_of) (by decide +kernel))
      (fun _ _ _ _ _ => pg_name (i := 1) sc_pairs_of.nd rfl (Or.inl rfl)) (fun _ _ _ _ _ => pts_nil)
      (fun _ _ _ _ _ => pe_tup (pa_cons (pe_ix (r := rIxL K) ix_list (pv 0) (pv 1) (fun _ _ => rfl)) (pa_cons (pe_ix (r := rIxL K) ix_list (pv 0) (pe_op op_add (pv 1) pe_int) (fun _ _ => rfl)) pa_nil))))), ?_⟩
    refine ⟨.ref a, rfl, a, _, rfl, .inl hS, _, _, rfl, rfl, _, _, _, es.length / 2, rfl, by rw [List.length_map]; exact rgc_two hlen, fun D nD => ?_⟩
    have hl : ((pairsOf es).map pairRow).length = es.length / 2 := by rw [List.length_map, pairs_len]
    refine lc_it walk_rangeC (PRefs .tup H D ((pairsOf es).map pairRow)) (prefs_0 nD) (fun _ _ _ _ => trivial) ?_ ?_
    · rintro i x H1 H2 hi p ⟨rfl, rfl⟩
      have h1 : 2 * i < es.length := by omega
      have h2 : 2 * i + 1 < es.length := by omega
      refine ⟨rfl, ?_⟩
      refine ⟨.ref a, rfl, _, rfl, a, _, _, _, rfl, rfl, p.1.seq hS, vn_at (i := 2 * i) (by omega) h1, ?_⟩
      refine ⟨.ref a, rfl, _, rfl, _, _, rfl, rfl, a, _, _, _, rfl, rfl, p.1.seq hS, vn_at (i := 2 * i + 1) (by omega) h2, ?_⟩
      refine ⟨by show 2 ≤ sizeLine; decide, fun t ht => ?_⟩
      exact prefs_push nD (small_line (by omega)) p (same_upd ht) ht (r := pairRow (es.getD (2 * i) 0, es.getD (2 * i + 1) 0)) upd_same (map_at (pairs_get es i h2))
    · intro H1 p
      obtain ⟨s1, s2⟩ := prefs_end (by omega) p
      exact q _ _ s1 nD s2
/-! ### is_edge -/
theorem sc_is_edge : FnScope ["vertex_count", "pair"] ["vertex_count", "pair"] (defScope s_is_edge) := ⟨rfl, rfl, rfl, by decide +kernel, rfl, by decide +kernel, by decide +kernel⟩
def sp_is_edge (K : PySem.W.Frag) : Sp := fun vs H Q _ => ∃ (n : Nat) (b : Addr) (e : Nat × Nat), vs = [vn n, .ref b] ∧ SqT K H b ((pairRow e).map vn) ∧ Q (.bl (isEdge n e)) H
theorem dec_nat {a b : Nat} : decide ((a : Int) < (b : Int)) = decide (a < b) := by
  by_cases d : a < b
  · rw [decide_eq_true d, decide_eq_true (by omega)]
  · rw [decide_eq_false d, decide_eq_false (by omega)]
theorem ok_is_edge {f : Addr} {fd : FuncData} (F : Fun K "is_edge" "is_edge" s_is_edge f fd) : FnOk P w K mg base CX0 1 f fd ["vertex_count", "pair"] (sp_is_edge K) := by
  refine F.ok sc_is_edge (fun vs H Q E h => ?_) (fun cdv A outer s H vs Q E hr h => ?_)
  · obtain ⟨n, b, e, rfl, _⟩ := h
    rfl
  · obtain ⟨n, b, e, rfl, hS, q⟩ := h
    refine ⟨_, pss_one (ps_ret (pe_and (pe_cmpR op_lt (pe_ix ix_tup (pv 1) pe_int (fun _ _ => rfl)) (pe_ix ix_tup (pv 1) pe_int (fun _ _ => rfl)) (nomark _))
      (pe_one (pe_cmpR op_lt (pe_ix ix_tup (pv 1) pe_int (fun _ _ => rfl)) (pv 0) (nomark _))))), ?_⟩
    have a0 : atI ((pairRow e).map vn) 0 = some (vn e.1) := rfl
    have a1 : atI ((pairRow e).map vn) 1 = some (vn e.2) := rfl
    refine ⟨_, rfl, b, _, _, _, rfl, rfl, hS, a0, _, rfl, b, _, _, _, rfl, rfl, hS, a1, _, _, rfl, rfl, _, rfl, ?_⟩
    unfold isEdge at q
    refine ite2 (fun c => ?_) (fun c => ?_)
    · rw [dec_nat] at c
      rw [c, Bool.true_and] at q
      refine ⟨_, rfl, b, _, _, _, rfl, rfl, hS, a1, _, rfl, _, _, rfl, rfl, ?_⟩
      show Q (.bl (decide ((e.2 : Int) < (n : Int)))) H
      rw [dec_nat]
      exact q
    · rw [dec_nat, Bool.not_eq_true] at c
      rw [c, Bool.false_and] at q
      exact q
/-! ### is_below -/
theorem sc_is_below : FnScope ["one", "other"] ["one", "other"] (defScope s_is_below) := ⟨rfl, rfl, rfl, by decide +kernel, rfl, by decide +kernel, by decide +kernel⟩
def sp_is_below (K : PySem.W.Frag) : Sp := fun vs H Q _ => ∃ (a b : Addr) (e d : Nat × Nat), vs = [.ref a, .ref b] ∧ SqT K H a ((pairRow e).map vn) ∧ SqT K H b ((pairRow d).map vn) ∧ Q (.bl (isBelow e d)) H
theorem ok_is_below {f : Addr} {fd : FuncData} (F : Fun K "is_below" "is_below" s_is_below f fd) : FnOk P w K mg base CX0 1 f fd ["one", "other"] (sp_is_below K) := by
  refine F.ok sc_is_below (fun vs H Q E h => ?_) (fun cdv A outer s H vs Q E hr h => ?_)
  · obtain ⟨a, b, e, d, rfl, _⟩ := h
    rfl
  · obtain ⟨a, b, e, d, rfl, hA, hB, q⟩ := h
    refine ⟨_, pss_cons (ps_if (pt_cmpR op_ne (pe_ix ix_tup (pv 0) pe_int (fun _ _ => rfl)) (pe_ix ix_tup (pv 1) pe_int (fun _ _ => rfl)) (nomark _))
        (pss_one (ps_ret (pe_cmpR op_lt (pe_ix ix_tup (pv 0) pe_int (fun _ _ => rfl)) (pe_ix ix_tup (pv 1) pe_int (fun _ _ => rfl)) (nomark _)))) pss_nil)
      (pss_one (ps_ret (pe_cmpR op_lt (pe_ix ix_tup (pv 0) pe_int (fun _ _ => rfl)) (pe_ix ix_tup (pv 1) pe_int (fun _ _ => rfl)) (nomark _)))), ?_⟩
    have a0 : ∀ e : Nat × Nat, atI ((pairRow e).map vn) 0 = some (vn e.1) := fun _ => rfl
    have a1 : ∀ e : Nat × Nat, atI ((pairRow e).map vn) 1 = some (vn e.2) := fun _ => rfl
    refine ⟨_, rfl, a, _, _, _, rfl, rfl, hA, a0 e, _, rfl, b, _, _, _, rfl, rfl, hB, a0 d, rfl, _, rfl, ?_⟩
    unfold isBelow at q
    have en : (vn e.1 = vn d.1) ↔ e.1 = d.1 := ⟨fun h => by have := V.int.inj h; omega, fun h => by rw [h]⟩
    refine ite2 (fun c => ?_) (fun c => ?_)
    · rw [if_pos (by simpa [en] using c)] at q
      refine ⟨_, rfl, a, _, _, _, rfl, rfl, hA, a0 e, _, rfl, b, _, _, _, rfl, rfl, hB, a0 d, _, _, rfl, rfl, ?_⟩
      show Q (.bl (decide ((e.1 : Int) < (d.1 : Int)))) H
      rw [dec_nat]
      exact q
    · rw [if_neg (by simpa [en] using c)] at q
      refine ⟨_, rfl, a, _, _, _, rfl, rfl, hA, a1 e, _, rfl, b, _, _, _, rfl, rfl, hB, a1 d, _, _, rfl, rfl, ?_⟩
      show Q (.bl (decide ((e.2 : Int) < (d.2 : Int)))) H
      rw [dec_nat]
      exact q
/-! ### are_rising -/
theorem sc_are_rising : FnScope ["pairs", "at"] ["pairs"] (defScope s_are_rising) := ⟨rfl, rfl, rfl, by decide +kernel, rfl, by decide +kernel, by decide +kernel⟩
def sp_are_rising : Sp := fun vs H Q _ => ∃ (a : Addr) (ps : List (Nat × Nat)), vs = [.ref a] ∧ LX .tup H a (ps.map pairRow) ∧ ps.length ≤ 1000 ∧ ∀ H', Same H H' → Q (.bl ((rises ps).all id)) H'
theorem ok_are_rising {f : Addr} {fd : FuncData} (F : Fun K "are_rising" "are_rising" s_are_rising f fd) (nb : NB mg) (cB : Cal P w K mg base 1 "is_below" ["one", "other"] (sp_is_below K)) : FnOk P w K mg base CX0 2 f fd ["pairs"] sp_are_rising := by
  refine F.ok sc_are_rising (fun vs H Q E h => ?_) (fun cdv A outer s H vs Q E hr h => ?_)
  · obtain ⟨a, ps, rfl, _⟩ := h
    rfl
  · obtain ⟨a, ps, rfl, hL, hlen, q⟩ := h
    refine ⟨_, pss_one (ps_ret (pe_callB (cr_all rfl) (by rfl) nb.all (by decide +kernel) (pa_cons (pe_lc (own := [("at", 1)]) (g := gName 1) (by rfl) sc_are_rising.nd
      (pi_range1 rfl nb.range (pa_cons (pe_op op_sub (pe_callB call_len_seq (by rfl) nb.len PySem.boot_len (pa_cons (pv 0) pa_nil)) pe_int) pa_nil))
      (blkOk_by (own := [("at", 1)]) (N := ["pairs", "at"]) (sc := defScope s_are_rising) (by decide +kernel))
      (fun _ _ _ _ _ => pg_name (i := 1) sc_are_rising.nd rfl (Or.inl rfl)) (fun _ _ _ _ _ => pts_nil)
      (fun _ _ _ _ _ => pe_cal cB hr (by rfl) (pa_cons (pe_ix (r := rIxL K) ix_list (pv 0) (pv 1) (fun _ _ => rfl)) (pa_cons (pe_ix (r := rIxL K) ix_list (pv 0) (pe_op op_add (pv 1) pe_int) (fun _ _ => rfl)) pa_nil)))) pa_nil))), ?_⟩
    obtain ⟨bs, hS, hbl, hH, hget, _⟩ := hL.at (K := K)
    rw [List.length_map] at hbl
    have hn : ((((bs.map V.ref).length : Nat) : Int) - 1).toNat = ps.length - 1 := by
      rw [List.length_map, hbl]
      omega
    refine ⟨.ref a, rfl, a, _, rfl, .inl hS, _, _, rfl, rfl, _, rfl, by omega, by rw [List.length_map]; omega, fun D nD => ?_⟩
    rw [hn]
    refine lc_range (PFlat H D ((rises ps).map V.bl)) (pflat_0 nD) ?_ ?_
    · intro i H1 hi p
      have h1 : i < ps.length := by omega
      have h2 : i + 1 < ps.length := by omega
      have g1 : ps[i]? = some (ps.getD i (0, 0)) := by
        rw [List.getD_eq_getElem?_getD, List.getElem?_eq_getElem h1]
        rfl
      have g2 : ps[i + 1]? = some (ps.getD (i + 1) (0, 0)) := by
        rw [List.getD_eq_getElem?_getD, List.getElem?_eq_getElem h2]
        rfl
      obtain ⟨b1, e1, hb1⟩ := hget i _ (map_at g1)
      obtain ⟨b2, e2, hb2⟩ := hget (i + 1) _ (map_at g2)
      refine ⟨rfl, ?_⟩
      refine ⟨.ref a, rfl, _, rfl, a, _, _, _, rfl, rfl, p.1.seq hS, at_of (j := i) (by omega) e1, ?_⟩
      refine ⟨.ref a, rfl, _, rfl, _, _, rfl, rfl, a, _, _, _, rfl, rfl, p.1.seq hS, at_of (j := i + 1) (by omega) e2, ?_⟩
      refine ⟨b1, b2, _, _, rfl, SqT.of (p.1 _ _ hb1), SqT.of (p.1 _ _ hb2), ?_⟩
      refine pflat_push nD ?_ p (Same.refl _) (map_at (x := isBelow (ps.getD i (0, 0)) (ps.getD (i + 1) (0, 0))) ?_)
      · refine small_line ?_
        unfold rises
        simp
        omega
      · unfold rises
        exact map_at (List.getElem?_range hi)
    · intro H1 p
      obtain ⟨s1, s2⟩ := pflat_end (by unfold rises; simp) p
      exact ⟨D, rises ps, rfl, SqL.of s2, q _ s1⟩
/-! ### are_edges -/
theorem sc_are_edges : FnScope ["vertex_count", "edges", "pairs", "pair"] ["vertex_count", "edges"] (defScope s_are_edges) := ⟨rfl, rfl, rfl, by decide +kernel, rfl, by decide +kernel, by decide +kernel⟩
def sp_are_edges (K : PySem.W.Frag) : Sp := fun vs H Q _ => ∃ (n : Nat) (a : Addr) (es : List Nat), vs = [vn n, .ref a] ∧ SqL K H a (es.map vn) ∧ es.length ≤ 1000 ∧ ∀ H', Same H H' → Q (.bl (areEdges n es)) H'
theorem ok_are_edges {f : Addr} {fd : FuncData} (F : Fun K "are_edges" "are_edges" s_are_edges f fd) (nb : NB mg) (cP : Cal P w K mg base 2 "pairs_of" ["edges"] (sp_pairs_of K)) (cE : Cal P w K mg base 2 "is_edge" ["vertex_count", "pair"] (sp_is_edge K)) (cR : Cal P w K mg base 2 "are_rising" ["pairs"] sp_are_rising) :
    FnOk P w K mg base CX0 3 f fd ["vertex_count", "edges"] (sp_are_edges K) := by
  refine F.ok sc_are_edges (fun vs H Q E h => ?_) (fun cdv A outer s H vs Q E hr h => ?_)
  · obtain ⟨n, a, es, rfl, _⟩ := h
    rfl
  · obtain ⟨n, a, es, rfl, hS, hlen, q⟩ := h
    refine ⟨_, pss_cons (ps_if (pt_cmpR op_ne (pe_op op_mod (pe_callB call_len_seq (by rfl) nb.len PySem.boot_len (pa_cons (pv 1) pa_nil)) pe_int) pe_int (nomark _))
        (pss_one (ps_ret pe_bl)) pss_nil)
      (pss_cons (ps_set (i := 2) sc_are_edges.nd rfl (Or.inl rfl) (pe_cal cP hr (by rfl) (pa_cons (pv 1) pa_nil)))
      (pss_cons (ps_if (pt_not (pt_val (pe_callB (cr_all rfl) (by rfl) nb.all (by decide +kernel) (pa_cons (pe_lc (own := [("pair", 3)]) (g := gName 3) (by rfl) sc_are_edges.nd
        (pi_list (pv 2))
        (blkOk_by (own := [("pair", 3)]) (N := ["vertex_count", "edges", "pairs", "pair"]) (sc := defScope s_are_edges) (by decide +kernel))
        (fun _ _ _ _ _ => pg_name (i := 3) sc_are_edges.nd rfl (Or.inl rfl)) (fun _ _ _ _ _ => pts_nil)
        (fun _ _ _ _ _ => pe_cal cE hr (by rfl) (pa_cons (pv 0) (pa_cons (pv 3) pa_nil)))) pa_nil))))
        (pss_one (ps_ret pe_bl)) pss_nil)
      (pss_one (ps_ret (pe_cal cR hr (by rfl) (pa_cons (pv 2) pa_nil)))))), ?_⟩
    refine ⟨.ref a, rfl, a, _, rfl, .inl hS, _, _, rfl, rfl, (by show (0 : Int) < 2; decide), rfl, _, rfl, ?_⟩
    rw [List.length_map]
    unfold areEdges at q
    have ev : (V.int ((es.length : Int) % 2) = V.int 0) ↔ es.length % 2 = 0 := ⟨fun h => by have := V.int.inj h; omega, fun h => by congr 1; omega⟩
    refine ite2 (fun c => ?_) (fun c => ?_)
    · rw [if_pos (by simpa [ev] using c)] at q
      exact q H (Same.refl H)
    · rw [if_neg (by simpa [ev] using c)] at q
      refine ⟨.ref a, rfl, a, es, rfl, hS, hlen, fun H1 p s1 np hp => ?_⟩
      obtain ⟨bs, hL, hbl, hH, _, hback⟩ := hp.at (K := K)
      rw [List.length_map] at hbl
      refine ⟨.ref p, rfl, p, rfl, ⟨_, hL⟩, fun D nD => ?_⟩
      have hpl := pairs_len es
      refine lc_list (K := K) (a := p) (xs := bs.map V.ref) (PFlat H1 D (((pairsOf es).map (isEdge n)).map V.bl)) (pflat_0 nD) (fun i H2 _ p2 => p2.1.seq hL) ?_ ?_
      · intro i x H2 hx p2
        obtain ⟨b, r, rfl, hr2, hb⟩ := hback i x hx
        obtain ⟨e, he, rfl⟩ := at_map hr2
        refine ⟨rfl, ?_⟩
        refine ⟨_, rfl, _, rfl, n, b, e, rfl, SqT.of (p2.1 _ _ hb), ?_⟩
        exact pflat_push nD (small_line (by simp; omega)) p2 (Same.refl _) (map_at (map_at he))
      · intro H2 p2
        rw [List.length_map, hbl] at p2
        obtain ⟨s2, s3⟩ := pflat_end (by simp) p2
        refine ⟨D, (pairsOf es).map (isEdge n), rfl, SqL.of s3, _, rfl, ?_⟩
        by_cases d : ((pairsOf es).map (isEdge n)).all id = true
        · rw [if_pos d] at q
          rw [d]
          refine ⟨.ref p, rfl, p, pairsOf es, rfl, hp.same s2, by omega, fun H3 s4 => ?_⟩
          exact q H3 (s1.trans (s2.trans s4))
        · rw [if_neg d] at q
          rw [Bool.not_eq_true] at d
          rw [d]
          exact q H2 (s1.trans s2)
/-! ### is_graph -/
theorem sc_is_graph : FnScope ["vertex_count", "edges"] ["vertex_count", "edges"] (defScope s_is_graph) := ⟨rfl, rfl, rfl, by decide +kernel, rfl, by decide +kernel, by decide +kernel⟩
def sp_is_graph (K : PySem.W.Frag) : Sp := fun vs H Q _ => ∃ (n : Nat) (a : Addr) (es : List Nat), vs = [vn n, .ref a] ∧ SqL K H a (es.map vn) ∧ es.length ≤ 1000 ∧ ∀ H', Same H H' → Q (.bl (isGraph n es)) H'
theorem ok_is_graph {f : Addr} {fd : FuncData} (F : Fun K "is_graph" "is_graph" s_is_graph f fd) (cV : Cal P w K mg base 3 "is_vertex_count" ["vertex_count"] sp_is_vertex_count) (cE : Cal P w K mg base 3 "are_edges" ["vertex_count", "edges"] (sp_are_edges K)) :
    FnOk P w K mg base CX0 4 f fd ["vertex_count", "edges"] (sp_is_graph K) := by
  refine F.ok sc_is_graph (fun vs H Q E h => ?_) (fun cdv A outer s H vs Q E hr h => ?_)
  · obtain ⟨n, a, es, rfl, _⟩ := h
    rfl
  · obtain ⟨n, a, es, rfl, hS, hlen, q⟩ := h
    refine ⟨_, pss_one (ps_ret (pe_and (pe_cal cV hr (by rfl) (pa_cons (pv 0) pa_nil)) (pe_one (pe_cal cE hr (by rfl) (pa_cons (pv 0) (pa_cons (pv 1) pa_nil)))))), ?_⟩
    refine ⟨_, rfl, n, rfl, _, rfl, ?_⟩
    unfold isGraph at q
    refine ite2 (fun c => ?_) (fun c => ?_)
    · rw [c] at q
      simp only [Bool.true_and] at q
      exact ⟨_, rfl, _, rfl, n, a, es, rfl, hS, hlen, fun H' s1 => q H' s1⟩
    · rw [Bool.not_eq_true] at c
      rw [c] at q
      simp only [Bool.false_and] at q
      exact q H (Same.refl H)
/-! ### is_counted -/
theorem sc_is_counted : FnScope ["pebbles"] ["pebbles"] (defScope s_is_counted) := ⟨rfl, rfl, rfl, by decide +kernel, rfl, by decide +kernel, by decide +kernel⟩
def sp_is_counted : Sp := fun vs H Q _ => ∃ k : Nat, vs = [vn k] ∧ Q (.bl (decide (k ≤ 6))) H
theorem ok_is_counted {f : Addr} {fd : FuncData} (F : Fun K "is_counted" "is_counted" s_is_counted f fd) {t : Tok} (mC : mg "MOST_COUNTED" = some (.int 6 t)) : FnOk P w K mg base CX0 1 f fd ["pebbles"] sp_is_counted := by
  refine F.ok sc_is_counted (fun vs H Q E h => ?_) (fun cdv A outer s H vs Q E hr h => ?_)
  · obtain ⟨k, rfl, _⟩ := h
    rfl
  · obtain ⟨k, rfl, q⟩ := h
    refine ⟨_, pss_one (ps_ret (pe_cmpR op_le (pv 0) (pe_glob (v := .int 6) rfl mC ⟨_, rfl⟩) (nomark _))), ?_⟩
    refine ⟨_, rfl, _, _, rfl, rfl, ?_⟩
    have e : decide ((k : Int) ≤ 6) = decide (k ≤ 6) := by
      by_cases d : k ≤ 6
      · rw [decide_eq_true d, decide_eq_true (by omega)]
      · rw [decide_eq_false d, decide_eq_false (by omega)]
    show Q (.bl (decide ((k : Int) ≤ 6))) H
    rw [e]
    exact q
/-! ### adjacent_to -/
theorem sc_adjacent_to : FnScope ["vertex", "pairs", "found", "pair"] ["vertex", "pairs"] (defScope s_adjacent_to) := ⟨rfl, rfl, rfl, by decide +kernel, rfl, by decide +kernel, by decide +kernel⟩
def sp_adjacent_to : Sp := fun vs H Q _ => ∃ (v : Nat) (a : Addr) (ps : List (Nat × Nat)), vs = [vn v, .ref a] ∧ LX .tup H a (ps.map pairRow) ∧ ps.length ≤ 1000 ∧ ∀ H' p, Same H H' → H p = none → H' p = some (.lst ((adjacentTo v ps).map vn)) → Q (.ref p) H'
theorem adj_more {v : Nat} {ps : List (Nat × Nat)} {i : Nat} {e : Nat × Nat} (h : ps[i]? = some e) : adjacentTo v (ps.take (i + 1)) = adjacentTo v (ps.take i) ++ ((if e.1 = v then [e.2] else []) ++ (if e.2 = v then [e.1] else [])) := by
  rw [take_more h]
  unfold adjacentTo
  rw [List.flatMap_append, List.flatMap_cons, List.flatMap_nil, List.append_nil]
theorem adj_len (v : Nat) : ∀ ps : List (Nat × Nat), (adjacentTo v ps).length ≤ 2 * ps.length
  | [] => by simp [adjacentTo]
  | e :: r => by
    have ih := adj_len v r
    unfold adjacentTo at ih ⊢
    rw [List.flatMap_cons, List.length_append, List.length_append, List.length_cons]
    have h1 : (if e.1 = v then [e.2] else []).length ≤ 1 := by split <;> simp
    have h2 : (if e.2 = v then [e.1] else []).length ≤ 1 := by split <;> simp
    omega
theorem vn_eq {a b : Nat} : (V.int (a : Int) = V.int (b : Int)) ↔ a = b := ⟨fun h => by have := V.int.inj h; omega, fun h => by rw [h]⟩
theorem ok_adjacent_to {f : Addr} {fd : FuncData} (F : Fun K "adjacent_to" "adjacent_to" s_adjacent_to f fd) : FnOk P w K mg base CX0 1 f fd ["vertex", "pairs"] sp_adjacent_to := by
  refine F.ok sc_adjacent_to (fun vs H Q E h => ?_) (fun cdv A outer s H vs Q E hr h => ?_)
  · obtain ⟨v, a, ps, rfl, _⟩ := h
    rfl
  · obtain ⟨v, a, ps, rfl, hL, hlen, q⟩ := h
    refine ⟨_, pss_cons (ps_set (i := 2) sc_adjacent_to.nd rfl (.inl rfl) (pe_lst pa_nil))
      (pss_cons (ps_for PassesOwn.never rfl (pi_list (pv 1)) (pg_name (i := 3) sc_adjacent_to.nd rfl (.inl rfl))
        (pss_cons (ps_if (pt_cmpR op_eq (pe_ix ix_tup (pv 3) pe_int (fun _ _ => rfl)) (pv 0) (nomark _))
          (pss_one (ps_expr (pe_bm PySem.F.plainAttrs_list PySem.F.slot_list_append PySem.F.type_list_append mt_append (pv 2) (pa_cons (pe_ix ix_tup (pv 3) pe_int (fun _ _ => rfl)) pa_nil)))) pss_nil)
        (pss_one (ps_if (pt_cmpR op_eq (pe_ix ix_tup (pv 3) pe_int (fun _ _ => rfl)) (pv 0) (nomark _))
          (pss_one (ps_expr (pe_bm PySem.F.plainAttrs_list PySem.F.slot_list_append PySem.F.type_list_append mt_append (pv 2) (pa_cons (pe_ix ix_tup (pv 3) pe_int (fun _ _ => rfl)) pa_nil)))) pss_nil))))
      (pss_one (ps_ret (pv 2)))), ?_⟩
    refine ⟨Nat.zero_le _, fun o no => ?_⟩
    obtain ⟨bs, hS, hbl, hH, _, hback⟩ := hL.at (K := K)
    rw [List.length_map] at hbl
    have s1 : Same H (upd H o (.lst [])) := same_upd no
    refine ⟨_, rfl, a, rfl, ⟨_, s1.seq hS⟩, for_list (K := K) (a := a) (xs := bs.map V.ref) (fun i σ H' => ∃ y3, σ = [some (vn v), some (.ref a), some (.ref o), y3] ∧ Same H H' ∧ H' o = some (.lst ((adjacentTo v (ps.take i)).map vn)))
      ⟨none, rfl, s1, upd_same⟩ (fun i σ H' _ ⟨_, _, s2, _⟩ => s2.seq hS) ?_ ?_⟩
    · rintro i x σ H' hx ⟨y3, rfl, s2, ho⟩
      obtain ⟨b, r, rfl, hr2, hb⟩ := hback i x hx
      obtain ⟨e, he, rfl⟩ := at_map hr2
      have hi : i < ps.length := (List.getElem?_eq_some_iff.mp he).1
      have a0 : atI ((pairRow e).map vn) 0 = some (vn e.1) := rfl
      have a1 : atI ((pairRow e).map vn) 1 = some (vn e.2) := rfl
      have hz : ((adjacentTo v (ps.take i)).map vn).length + 2 < sizeLine := by
        have := adj_len v (ps.take i)
        rw [List.length_take] at this
        rw [List.length_map, sizeLine_eq]
        omega
      have hm := adj_more (v := v) he
      have sb : SqT K H' b ((pairRow e).map vn) := SqT.of (s2 _ _ hb)
      have nob : b ≠ o := ne_of_none hb no
      refine ⟨_, rfl, b, _, _, _, rfl, rfl, sb, a0, _, rfl, rfl, _, rfl, ite2 (fun c => ?_) (fun c => ?_)⟩
      · have c1 : e.1 = v := vn_eq.mp (of_decide_eq_true c)
        rw [if_pos c1] at hm
        refine ⟨.ref o, rfl, .inl ⟨rfl, _, SqL.of ho⟩, _, rfl, b, _, _, _, rfl, rfl, sb, a1, o, _, _, rfl, rfl, ho, by omega, ?_⟩
        have sb2 : SqT K (upd H' o (.lst ((adjacentTo v (ps.take i)).map vn ++ [vn e.2]))) b ((pairRow e).map vn) := SqT.of (by rw [upd_ne nob]; exact s2 _ _ hb)
        refine ⟨_, rfl, b, _, _, _, rfl, rfl, sb2, a1, _, rfl, rfl, _, rfl, ite2 (fun d => ?_) (fun d => ?_)⟩
        · have c2 : e.2 = v := vn_eq.mp (of_decide_eq_true d)
          rw [if_pos c2] at hm
          refine ⟨.ref o, rfl, .inl ⟨rfl, _, SqL.of upd_same⟩, _, rfl, b, _, _, _, rfl, rfl, sb2, a0, o, _, _, rfl, rfl, upd_same, by rw [List.length_append]; show _ + 1 < _; omega, ?_⟩
          refine ⟨_, rfl, same_put (same_put s2 no) no, ?_⟩
          rw [upd_same, hm, List.map_append, List.append_assoc]
          rfl
        · have c2 : ¬ e.2 = v := fun z => d (decide_eq_true (vn_eq.mpr z))
          rw [if_neg c2] at hm
          refine ⟨_, rfl, same_put s2 no, ?_⟩
          rw [upd_same, hm, List.map_append]
          rfl
      · have c1 : ¬ e.1 = v := fun z => c (decide_eq_true (vn_eq.mpr z))
        rw [if_neg c1] at hm
        refine ⟨_, rfl, b, _, _, _, rfl, rfl, sb, a1, _, rfl, rfl, _, rfl, ite2 (fun d => ?_) (fun d => ?_)⟩
        · have c2 : e.2 = v := vn_eq.mp (of_decide_eq_true d)
          rw [if_pos c2] at hm
          refine ⟨.ref o, rfl, .inl ⟨rfl, _, SqL.of ho⟩, _, rfl, b, _, _, _, rfl, rfl, sb, a0, o, _, _, rfl, rfl, ho, by omega, ?_⟩
          refine ⟨_, rfl, same_put s2 no, ?_⟩
          rw [upd_same, hm, List.map_append]
          rfl
        · have c2 : ¬ e.2 = v := fun z => d (decide_eq_true (vn_eq.mpr z))
          rw [if_neg c2, List.append_nil] at hm
          refine ⟨_, rfl, s2, ?_⟩
          rw [hm, List.append_nil]
          exact ho
    · rintro σ H' ⟨y3, rfl, s2, ho⟩
      refine ⟨_, rfl, q H' o s2 no ?_⟩
      rw [ho, List.length_map, hbl, List.take_length]
/-! ### graph_of -/
theorem sc_graph_of : FnScope ["vertex_count", "edges", "pairs", "vertex"] ["vertex_count", "edges"] (defScope s_graph_of) := ⟨rfl, rfl, rfl, by decide +kernel, rfl, by decide +kernel, by decide +kernel⟩
def sp_graph_of (K : PySem.W.Frag) : Sp := fun vs H Q _ => ∃ (n : Nat) (a : Addr) (es : List Nat), vs = [vn n, .ref a] ∧ SqL K H a (es.map vn) ∧ es.length ≤ 1000 ∧ n ≤ 1000 ∧ ∀ H' p, Same H H' → H p = none → LX .lst H' p (graphOf n es) → Q (.ref p) H'
theorem ok_graph_of {f : Addr} {fd : FuncData} (F : Fun K "graph_of" "graph_of" s_graph_of f fd) (nb : NB mg) (cP : Cal P w K mg base 1 "pairs_of" ["edges"] (sp_pairs_of K)) (cA : Cal P w K mg base 1 "adjacent_to" ["vertex", "pairs"] sp_adjacent_to) :
    FnOk P w K mg base CX0 2 f fd ["vertex_count", "edges"] (sp_graph_of K) := by
  refine F.ok sc_graph_of (fun vs H Q E h => ?_) (fun cdv A outer s H vs Q E hr h => ?_)
  · obtain ⟨n, a, es, rfl, _⟩ := h
    rfl
  · obtain ⟨n, a, es, rfl, hS, hlen, hn, q⟩ := h
    refine ⟨_, pss_cons (ps_set (i := 2) sc_graph_of.nd rfl (Or.inr rfl) (pe_cal cP hr (by rfl) (pa_cons (pv 1) pa_nil)))
      (pss_one (ps_ret (pe_lc (own := [("vertex", 3)]) (g := gName 3) (by rfl) sc_graph_of.nd
        (pi_range1 rfl nb.range (pa_cons (pv 0) pa_nil))
        (blkOk_by (own := [("vertex", 3)]) (N := ["vertex_count", "edges", "pairs", "vertex"]) (sc := defScope s_graph_of) (by decide +kernel))
        (fun _ _ _ _ _ => pg_name (i := 3) sc_graph_of.nd rfl (Or.inl rfl)) (fun _ _ _ _ _ => pts_nil)
        (fun _ _ _ _ _ => pe_cal cA hr (by rfl) (pa_cons (pv 3) (pa_cons (pv 2) pa_nil)))))), ?_⟩
    refine ⟨.ref a, rfl, a, es, rfl, hS, hlen, fun H1 p s1 np hp => ?_⟩
    refine ⟨_, rfl, (n : Int), rfl, by omega, by omega, fun D nD => ?_⟩
    rw [Int.toNat_natCast]
    have hpl := pairs_len es
    refine lc_range (PRefs .lst H1 D (graphOf n es)) (prefs_0 nD) ?_ ?_
    · intro i H2 hi p2
      refine ⟨rfl, ?_⟩
      refine ⟨_, rfl, _, rfl, i, p, pairsOf es, ?_, hp.same p2.1, by omega, fun H3 b s3 nb3 hb => ?_⟩
      · show [V.int (0 + (i : Int)), V.ref p] = [vn i, V.ref p]
        rw [Int.zero_add]
        rfl
      · exact prefs_push nD (small_line (by rw [graph_len]; omega)) p2 s3 nb3 hb (map_at (List.getElem?_range hi))
    · intro H2 p2
      obtain ⟨s2, s3⟩ := prefs_end (by rw [graph_len]; exact Nat.le_refl _) p2
      exact q _ _ (s1.trans s2) (s1.free nD) s3
/-! ### moved -/
theorem sc_moved : FnScope ["placing", "start", "goal", "later"] ["placing", "start", "goal"] (defScope s_moved) := ⟨rfl, rfl, rfl, by decide +kernel, rfl, by decide +kernel, by decide +kernel⟩
def sp_moved (K : PySem.W.Frag) : Sp := fun vs H Q _ => ∃ (pa : Addr) (p : List Nat) (s t : Nat), vs = [.ref pa, vn s, vn t] ∧ SqT K H pa (p.map vn) ∧ s < p.length ∧ t < p.length ∧ 2 ≤ p.getD s 0 ∧
  ∀ H' q, Same H H' → H q = none → H' q = some (.tup ((moved p s t).map vn)) → Q (.ref q) H'
theorem ixN_nat {n k : Nat} (h : k < n) : ixN n (k : Int) = some k := by
  unfold ixN
  rw [if_pos (by omega), if_pos (by omega)]
  rfl
theorem ok_moved {f : Addr} {fd : FuncData} (F : Fun K "moved" "moved" s_moved f fd) (nb : NB mg) : FnOk P w K mg base CX0 1 f fd ["placing", "start", "goal"] (sp_moved K) := by
  refine F.ok sc_moved (fun vs H Q E h => ?_) (fun cdv A outer s H vs Q E hr h => ?_)
  · obtain ⟨pa, p, s, t, rfl, _⟩ := h
    rfl
  · obtain ⟨pa, p, s, t, rfl, hT, h1, h2, h3, q⟩ := h
    refine ⟨_, pss_cons (ps_set (i := 3) sc_moved.nd rfl (.inl rfl) (pe_callTy call_list_of (by rfl) nb.list (by decide +kernel) (pa_cons (pv 0) pa_nil)))
      (pss_cons (ps_asg (pe_op op_sub (pe_ix ix_list (pv 3) (pv 1) (fun _ _ => rfl)) pe_int) (pg_sub (pv 3) (pv 1) set_list))
      (pss_cons (ps_asg (pe_op op_add (pe_ix ix_list (pv 3) (pv 2) (fun _ _ => rfl)) pe_int) (pg_sub (pv 3) (pv 2) set_list))
      (pss_one (ps_ret (pe_callTy call_tuple_of (by rfl) nb.tuple (by decide +kernel) (pa_cons (pv 3) pa_nil)))))), ?_⟩
    refine ⟨_, rfl, pa, _, rfl, .inr hT, fun l nl => ?_⟩
    refine ⟨_, rfl, _, rfl, l, _, _, _, rfl, rfl, SqL.of upd_same, vn_at (i := s) rfl h1, _, _, rfl, rfl, ?_⟩
    refine ⟨_, rfl, _, rfl, l, _, _, s, rfl, rfl, upd_same, ixN_nat (by rw [List.length_map]; exact h1), ?_⟩
    have e1 : (p.map vn).set s (.int ((p.getD s 0 : Int) - 2)) = (p.set s (p.getD s 0 - 2)).map vn := by
      rw [List.map_set, show ((p.getD s 0 : Int) - 2) = ((p.getD s 0 - 2 : Nat) : Int) by omega]
      rfl
    dsimp only
    rw [upd_upd, e1]
    generalize hm : p.set s (p.getD s 0 - 2) = m
    have hml : m.length = p.length := by rw [← hm, List.length_set]
    refine ⟨_, rfl, _, rfl, l, _, _, _, rfl, rfl, SqL.of upd_same, vn_at (i := t) rfl (by omega), _, _, rfl, rfl, ?_⟩
    refine ⟨_, rfl, _, rfl, l, _, _, t, rfl, rfl, upd_same, ixN_nat (by rw [List.length_map]; omega), ?_⟩
    have e2 : (m.map vn).set t (.int ((m.getD t 0 : Int) + 1)) = (m.set t (m.getD t 0 + 1)).map vn := by
      rw [List.map_set]
      rfl
    dsimp only
    rw [upd_upd, e2]
    refine ⟨_, rfl, l, _, rfl, .inl ⟨SqL.of upd_same, fun r nr => ?_⟩⟩
    have s1 : Same H (upd H l (.lst ((m.set t (m.getD t 0 + 1)).map vn))) := same_upd nl
    refine q _ r (same_put s1 (s1.free nr)) (s1.free nr) ?_
    unfold moved
    rw [upd_same, hm]
/-! ### moves_from -/
theorem sc_moves_from : FnScope ["graph", "placing", "found", "start", "goal"] ["graph", "placing"] (defScope s_moves_from) := ⟨rfl, rfl, rfl, by decide +kernel, rfl, by decide +kernel, by decide +kernel⟩
def sp_moves_from (K : PySem.W.Frag) : Sp := fun vs H Q _ => ∃ (ga pa : Addr) (g : List (List Nat)) (p : List Nat), vs = [.ref ga, .ref pa] ∧ LX .lst H ga g ∧ SqT K H pa (p.map vn) ∧ p.length = g.length ∧ GOk g ∧
  ∀ H' q, Same H H' → H q = none → LX .tup H' q (movesFrom g p) → Q (.ref q) H'
theorem movesAt_len {g : List (List Nat)} (O : GOk g) (p : List Nat) (s : Nat) : (movesAt g p s).length ≤ 1000 := by
  unfold movesAt
  split
  · rw [List.length_map, List.getD_eq_getElem?_getD]
    cases e : g[s]? with
    | none => simp
    | some r => exact O.slim r (List.mem_of_getElem? e)
  · simp
theorem moves_len {g : List (List Nat)} (O : GOk g) (p : List Nat) : ∀ i : Nat, ((List.range i).flatMap (movesAt g p)).length ≤ i * 1000
  | 0 => by simp
  | i + 1 => by
    have ih := moves_len O p i
    have := movesAt_len O p i
    rw [List.range_succ, List.flatMap_append, List.length_append, List.flatMap_cons, List.flatMap_nil, List.append_nil]
    omega
theorem ok_moves_from {f : Addr} {fd : FuncData} (F : Fun K "moves_from" "moves_from" s_moves_from f fd) (nb : NB mg) (cM : Cal P w K mg base 1 "moved" ["placing", "start", "goal"] (sp_moved K)) : FnOk P w K mg base CX0 2 f fd ["graph", "placing"] (sp_moves_from K) := by
  refine F.ok sc_moves_from (fun vs H Q E h => ?_) (fun cdv A outer s H vs Q E hr h => ?_)
  · obtain ⟨ga, pa, g, p, rfl, _⟩ := h
    rfl
  · obtain ⟨ga, pa, g, p, rfl, hG, hT, hpl, O, q⟩ := h
    refine ⟨_, pss_cons (ps_set (i := 2) sc_moves_from.nd rfl (.inl rfl) (pe_lst pa_nil))
      (pss_cons (ps_for PassesOwn.never rfl (pi_range1 rfl nb.range (pa_cons (pe_callB call_len_seq (by rfl) nb.len PySem.boot_len (pa_cons (pv 0) pa_nil)) pa_nil)) (pg_name (i := 3) sc_moves_from.nd rfl (.inr rfl))
        (pss_one (ps_if (pt_cmpR op_ge (pe_ix ix_tup (pv 1) (pv 3) (fun _ _ => rfl)) pe_int (nomark _))
          (pss_one (ps_expr (pe_bm PySem.F.plainAttrs_list PySem.F.slot_list_extend PySem.F.type_list_extend mt_extend (pv 2) (pa_cons
            (pe_lc (own := [("goal", 4)]) (g := gName 4) (by rfl) sc_moves_from.nd (pi_list (pe_ix ix_list (pv 0) (pv 3) (fun _ _ => rfl)))
              (blkOk_by (own := [("goal", 4)]) (N := ["graph", "placing", "found", "start", "goal"]) (sc := defScope s_moves_from) (by decide +kernel))
              (fun _ _ _ _ _ => pg_name (i := 4) sc_moves_from.nd rfl (Or.inl rfl)) (fun _ _ _ _ _ => pts_nil)
              (fun _ _ _ _ _ => pe_cal cM hr (by rfl) (pa_cons (pv 1) (pa_cons (pv 3) (pa_cons (pv 4) pa_nil))))) pa_nil)))) pss_nil)))
      (pss_one (ps_ret (pv 2)))), ?_⟩
    obtain ⟨bs, hS, hbl, hH, hget, _⟩ := hG.at (K := K)
    have hR := O.rows
    have h5 := O.n5
    refine ⟨Nat.zero_le _, fun o no => ?_⟩
    have s0 : Same H (upd H o (.lst [])) := same_upd no
    refine ⟨_, rfl, ga, _, rfl, .inl (s0.seq hS), (((bs.map V.ref).length : Nat) : Int), rfl, by omega, by rw [List.length_map, hbl]; omega, ?_⟩
    rw [Int.toNat_natCast, List.length_map, hbl]
    refine for_range (fun i σ H' => ∃ y3 y4, σ = [some (.ref ga), some (.ref pa), some (.ref o), y3, y4] ∧ Same H H' ∧ LX .tup H' o ((List.range i).flatMap (movesAt g p)))
      ⟨none, none, rfl, s0, LX.nil upd_same⟩ ?_ ?_
    · rintro i σ H1 hi ⟨y3, y4, rfl, s1, h1⟩
      have e0 : (.int (0 + (i : Int)) : V) = vn i := by rw [Int.zero_add]; rfl
      rw [e0]
      have hnext : (List.range (i + 1)).flatMap (movesAt g p) = (List.range i).flatMap (movesAt g p) ++ movesAt g p i := by
        rw [List.range_succ, List.flatMap_append, List.flatMap_cons, List.flatMap_nil, List.append_nil]
      have hgi : g[i]? = some (g.getD i []) := by
        rw [List.getD_eq_getElem?_getD, List.getElem?_eq_getElem hi]
        rfl
      refine ⟨_, rfl, _, rfl, pa, _, _, _, rfl, rfl, sameT s1 hT, vn_at (i := i) rfl (by omega), _, _, rfl, rfl, _, rfl, ite2 (fun c => ?_) (fun c => ?_)⟩
      · have c1 : 2 ≤ p.getD i 0 := by
          have := of_decide_eq_true c
          omega
        have hat : movesAt g p i = (g.getD i []).map (moved p i) := if_pos c1
        obtain ⟨b, e2, hb⟩ := hget i _ hgi
        generalize hrow : g.getD i [] = r at hgi hb hat
        have hrl : r.length ≤ 1000 := O.slim r (List.mem_of_getElem? hgi)
        refine ⟨_, rfl, .inl ⟨rfl, _, SqL.of h1.there.choose_spec⟩, _, rfl, _, rfl, ga, _, _, _, rfl, rfl, s1.seq hS, at_of (j := i) rfl e2, b, rfl, ⟨_, SqL.of (s1 _ _ hb)⟩, fun D nD => ?_⟩
        refine lc_list (K := K) (a := b) (xs := r.map vn) (PRefs .tup H1 D (r.map (moved p i))) (prefs_0 nD) (fun j H2 _ p2 => SqL.of (p2.1 _ _ (s1 _ _ hb))) ?_ ?_
        · intro j x H2 hx p2
          obtain ⟨t, ht, rfl⟩ := at_map hx
          have htl : t < g.length := hR.low r (List.mem_of_getElem? hgi) t (List.mem_of_getElem? ht)
          refine ⟨rfl, ?_⟩
          refine ⟨_, rfl, _, rfl, _, rfl, pa, p, i, t, rfl, sameT p2.1 (sameT s1 hT), by omega, by omega, c1, fun H3 b3 s3 nb3 hb3 => ?_⟩
          exact prefs_push nD (small_line (by rw [List.length_map]; omega)) p2 s3 nb3 hb3 (map_at ht)
        · intro H2 p2
          rw [List.length_map] at p2
          obtain ⟨s2, h2⟩ := prefs_end (by simp) p2
          obtain ⟨xs, zs, hx, hz, lx, lz, hE⟩ := h1.extend s2 h2
          refine ⟨o, D, xs, zs, rfl, rfl, hx, hz, ?_, ?_⟩
          · have := moves_len O p i
            rw [lx, lz, List.length_map, sizeLine_eq]
            omega
          · refine ⟨_, _, rfl, same_put (s1.trans s2) no, ?_⟩
            rw [hnext, hat]
            exact hE
      · have c1 : ¬ 2 ≤ p.getD i 0 := fun z => c (decide_eq_true (by omega))
        have hat : movesAt g p i = [] := if_neg c1
        refine ⟨_, _, rfl, s1, ?_⟩
        rw [hnext, hat, List.append_nil]
        exact h1
    · rintro σ H1 ⟨y3, y4, rfl, s1, h1⟩
      exact ⟨_, rfl, q H1 o s1 no h1⟩
/-! ### behind_one_move -/
theorem sc_behind_one_move : FnScope ["graph", "placings", "found", "placing", "later"] ["graph", "placings"] (defScope s_behind_one_move) := ⟨rfl, rfl, rfl, by decide +kernel, rfl, by decide +kernel, by decide +kernel⟩
def sp_behind_one_move : Sp := fun vs H Q _ => ∃ (ga pa : Addr) (g ps : List (List Nat)), vs = [.ref ga, .ref pa] ∧ LX .lst H ga g ∧ LX .tup H pa ps ∧ (∀ p ∈ ps, p.length = g.length ∧ p.sum ≤ 12) ∧ GOk g ∧
  ∀ H' q, Same H H' → H q = none → LX .tup H' q (behindOne g ps) → Q (.ref q) H'
def Good (g : List (List Nat)) (l : List (List Nat)) : Prop := l.Nodup ∧ ∀ y ∈ l, y.length = g.length ∧ y.sum ≤ 12
theorem good_put {g l : List (List Nat)} (h : Good g l) {y : List Nat} (hy : y.length = g.length ∧ y.sum ≤ 12) : Good g (putOne l y) := ⟨nodup_put h.1 y, fun z hz => by
  rcases mem_putOne.mp hz with hz | rfl
  · exact h.2 z hz
  · exact hy⟩
theorem good_all {g : List (List Nat)} : ∀ (l : List (List Nat)) {acc : List (List Nat)}, Good g acc → (∀ y ∈ l, y.length = g.length ∧ y.sum ≤ 12) → Good g (l.foldl putOne acc)
  | [], _, h, _ => h
  | x :: l, acc, h, hl => good_all l (good_put h (hl x (by simp))) fun y hy => hl y (List.mem_cons_of_mem _ hy)
theorem good_turns {g : List (List Nat)} (R : Rows g) : ∀ (l : List (List Nat)) {acc : List (List Nat)}, Good g acc → (∀ p ∈ l, p.length = g.length ∧ p.sum ≤ 12) → Good g (l.foldl (fun acc p => (movesFrom g p).foldl putOne acc) acc)
  | [], _, h, _ => h
  | x :: l, acc, h, hl => by
    rw [List.foldl_cons]
    have hx := hl x (by simp)
    refine good_turns R l (good_all _ h fun y hy => ?_) fun y hy => hl y (List.mem_cons_of_mem _ hy)
    have := moves_ok R hx.1 hy
    omega
theorem good_few {g l : List (List Nat)} (h : Good g l) (h5 : g.length ≤ 5) : l.length < sizeLine := by
  have := few h.1 h5 h.2
  rw [sizeLine_eq]
  omega
theorem ok_behind_one_move {f : Addr} {fd : FuncData} (F : Fun K "behind_one_move" "behind_one_move" s_behind_one_move f fd) (nb : NB mg) (cM : Cal P w K mg base 2 "moves_from" ["graph", "placing"] (sp_moves_from K)) : FnOk P w K mg base CX0 3 f fd ["graph", "placings"] sp_behind_one_move := by
  refine F.ok sc_behind_one_move (fun vs H Q E h => ?_) (fun cdv A outer s H vs Q E hr h => ?_)
  · obtain ⟨ga, pa, g, ps, rfl, _⟩ := h
    rfl
  · obtain ⟨ga, pa, g, ps, rfl, hG, hP, hps, O, q⟩ := h
    refine ⟨_, pss_cons (ps_set (i := 2) sc_behind_one_move.nd rfl (.inl rfl) pe_dnewT)
      (pss_cons (ps_for PassesOwn.never rfl (pi_list (pv 1)) (pg_name (i := 3) sc_behind_one_move.nd rfl (.inl rfl))
        (pss_one (ps_for PassesOwn.never rfl (pi_list (pe_cal cM hr (by rfl) (pa_cons (pv 0) (pa_cons (pv 3) pa_nil)))) (pg_name (i := 4) sc_behind_one_move.nd rfl (.inl rfl))
          (pss_one (ps_dput (hu_of hr) (pv 2) (pv 4) pe_bl rfl)))))
      (pss_one (ps_ret (pe_callTy (call_list_dT rfl) (by rfl) nb.list (by decide +kernel) (pa_cons (pv 2) pa_nil))))), ?_⟩
    intro d nd
    have s0 : Same H (upd H d (.dT [])) := same_upd nd
    obtain ⟨bs, hS, hbl, hH, _, hback⟩ := hP.at (K := K)
    refine ⟨_, rfl, pa, rfl, ⟨_, s0.seq hS⟩, for_list (K := K) (a := pa) (xs := bs.map V.ref) (fun i σ H' => ∃ y3 y4, σ = [some (.ref ga), some (.ref pa), some (.ref d), y3, y4] ∧ Same H H' ∧ H' d = some (.dT (((ps.take i).foldl (fun acc p => (movesFrom g p).foldl putOne acc) []).map dk)))
      ⟨none, none, rfl, s0, upd_same⟩ (fun i σ H' _ ⟨_, _, _, s1, _⟩ => s1.seq hS) ?_ ?_⟩
    · rintro i x σ H1 hx ⟨y3, y4, rfl, s1, hd⟩
      obtain ⟨b, p, rfl, hp, hb⟩ := hback i x hx
      have hpm := hps p (List.mem_of_getElem? hp)
      have hnext : (ps.take (i + 1)).foldl (fun acc p => (movesFrom g p).foldl putOne acc) [] = (movesFrom g p).foldl putOne ((ps.take i).foldl (fun acc p => (movesFrom g p).foldl putOne acc) []) := by
        rw [take_more hp, List.foldl_append]
        rfl
      have hgood : Good g ((ps.take i).foldl (fun acc p => (movesFrom g p).foldl putOne acc) []) := good_turns O.rows _ ⟨List.nodup_nil, fun _ h => nomatch h⟩ fun y hy => hps y (List.mem_of_mem_take hy)
      generalize hacc : (ps.take i).foldl (fun acc p => (movesFrom g p).foldl putOne acc) [] = acc at hd hnext hgood
      refine ⟨_, rfl, _, rfl, ga, b, g, p, rfl, hG.same s1, SqT.of (s1 _ _ hb), hpm.1, O, fun H2 m s2 nm hm => ?_⟩
      obtain ⟨ms, hMS, hml, hMH, _, hmback⟩ := hm.at (K := K)
      have hd2 : H2 d = some (.dT (acc.map dk)) := s2 _ _ hd
      have nmd : m ≠ d := ne_of hMH hd2 (by intro z; cases z)
      refine ⟨m, rfl, ⟨_, hMS⟩, for_list (K := K) (a := m) (xs := ms.map V.ref) (fun j σ H' => ∃ y4, σ = [some (.ref ga), some (.ref pa), some (.ref d), some (.ref b), y4] ∧ (∀ c o, c ≠ d → H2 c = some o → H' c = some o) ∧ H' d = some (.dT ((((movesFrom g p).take j).foldl putOne acc).map dk)))
        ⟨_, rfl, fun _ _ _ e => e, hd2⟩ (fun j σ H' _ ⟨_, _, k, _⟩ => SqL.of (k _ _ nmd hMH)) ?_ ?_⟩
      · rintro j x σ H3 hx ⟨z4, rfl, k3, hd3⟩
        obtain ⟨c, y, rfl, hy, hc⟩ := hmback j x hx
        have hcd : c ≠ d := ne_of hc hd2 (by intro z; cases z)
        have hgood2 : Good g (((movesFrom g p).take j).foldl putOne acc) := good_all _ hgood fun y hy => by
          have := moves_ok O.rows hpm.1 (List.mem_of_mem_take hy)
          omega
        refine ⟨_, rfl, _, rfl, d, _, rfl, DPut.t (k := keyOf y) hd3 (by rw [key_kV]; exact k3 _ _ hcd hc) (by rw [List.length_map]; exact good_few hgood2 O.n5), ?_⟩
        refine ⟨_, rfl, fun c' o' ne e => ?_, ?_⟩
        · rw [upd_ne ne]
          exact k3 _ _ ne e
        · rw [upd_same, put_dk, fold_take2 hy]
      · rintro σ H3 ⟨z4, rfl, k3, hd3⟩
        rw [List.length_map, hml, List.take_length] at hd3
        refine ⟨_, _, rfl, fun c o e => ?_, ?_⟩
        · exact k3 _ _ (ne_of_none e nd) (s2 _ _ (s1 _ _ e))
        · rw [hnext]
          exact hd3
    · rintro σ H1 ⟨y3, y4, rfl, s1, hd⟩
      rw [List.length_map, hbl, List.take_length] at hd
      refine ⟨_, rfl, d, _, rfl, Rd.of hd, fun r cs nr hk => ?_⟩
      refine q _ r (same_put s1 (s1.free nr)) (s1.free nr) ⟨cs, upd_same, Paired.mapP (paired_map dk hk) fun y c hc => ?_⟩
      have hc : H1 c = some (.tup ((keyOf y).map kV)) := hc
      rw [key_kV] at hc
      have ne := ne_of_none hc nr
      exact ⟨ne, by rw [upd_ne ne]; exact hc⟩
/-! ### all_behind -/
theorem sc_all_behind : FnScope ["graph", "pebbles", "placings", "found", "turn"] ["graph", "pebbles"] (defScope s_all_behind) := ⟨rfl, rfl, rfl, by decide +kernel, rfl, by decide +kernel, by decide +kernel⟩
def sp_all_behind (K : PySem.W.Frag) : Sp := fun vs H Q _ => ∃ (ga pa : Addr) (g : List (List Nat)) (p : List Nat), vs = [.ref ga, .ref pa] ∧ LX .lst H ga g ∧ SqL K H pa (p.map vn) ∧ p.length = g.length ∧ p.sum ≤ 12 ∧ GOk g ∧
  ∀ H' q, Same H H' → H q = none → LX .tup H' q (allBehind g p) → Q (.ref q) H'
theorem ok_all_behind {f : Addr} {fd : FuncData} (F : Fun K "all_behind" "all_behind" s_all_behind f fd) (nb : NB mg) (cB : Cal P w K mg base 3 "behind_one_move" ["graph", "placings"] sp_behind_one_move) : FnOk P w K mg base CX0 4 f fd ["graph", "pebbles"] (sp_all_behind K) := by
  refine F.ok sc_all_behind (fun vs H Q E h => ?_) (fun cdv A outer s H vs Q E hr h => ?_)
  · obtain ⟨ga, pa, g, p, rfl, _⟩ := h
    rfl
  · obtain ⟨ga, pa, g, p, rfl, hG, hS, hpl, hps, O, q⟩ := h
    refine ⟨_, pss_cons (ps_set (i := 2) sc_all_behind.nd rfl (.inl rfl) (pe_lst (pa_cons (pe_callTy call_tuple_of (by rfl) nb.tuple (by decide +kernel) (pa_cons (pv 1) pa_nil)) pa_nil)))
      (pss_cons (ps_set (i := 3) sc_all_behind.nd rfl (.inl rfl) (pe_callTy call_list_of (by rfl) nb.list (by decide +kernel) (pa_cons (pv 2) pa_nil)))
      (pss_cons (ps_for PassesOwn.never rfl (pi_range1 rfl nb.range (pa_cons (pe_callB (cr_sum rfl) (by rfl) nb.sum (by decide +kernel) (pa_cons (pv 1) pa_nil)) pa_nil)) (pg_name (i := 4) sc_all_behind.nd rfl (.inl rfl))
        (pss_cons (ps_set (i := 2) sc_all_behind.nd rfl (.inl rfl) (pe_cal cB hr (by rfl) (pa_cons (pv 0) (pa_cons (pv 2) pa_nil))))
        (pss_one (ps_expr (pe_bm PySem.F.plainAttrs_list PySem.F.slot_list_extend PySem.F.type_list_extend mt_extend (pv 3) (pa_cons (pv 2) pa_nil))))))
      (pss_one (ps_ret (pv 3))))), ?_⟩
    refine ⟨_, rfl, pa, _, rfl, .inl ⟨hS, fun t nt => ?_⟩⟩
    have s0 : Same H (upd H t (.tup (p.map vn))) := same_upd nt
    refine ⟨by show 1 ≤ sizeLine; decide, fun l nl => ?_⟩
    have ntl : t ≠ l := ne_of_none upd_same nl
    have s1 : Same H (upd (upd H t (.tup (p.map vn))) l (.lst [.ref t])) := s0.trans (same_upd nl)
    have hl : LX .tup (upd (upd H t (.tup (p.map vn))) l (.lst [.ref t])) l [p] := ⟨[t], upd_same, .cons ⟨ntl, by rw [upd_ne ntl, upd_same]⟩ .nil⟩
    refine ⟨_, rfl, l, _, rfl, .inl (SqL.of upd_same), fun o no => ?_⟩
    have nlo : l ≠ o := ne_of_none upd_same no
    have s2 := s1.trans (same_upd (o := .lst [.ref t]) no)
    have ho : LX .tup (upd (upd (upd H t (.tup (p.map vn))) l (.lst [.ref t])) o (.lst [.ref t])) o [p] := by
      have nto : t ≠ o := by
        have h1 : (upd (upd H t (.tup (p.map vn))) l (.lst [.ref t])) t = some (.tup (p.map vn)) := by rw [upd_ne ntl, upd_same]
        exact ne_of_none h1 no
      exact ⟨[t], upd_same, .cons ⟨nto, by rw [upd_ne nto, upd_ne ntl, upd_same]⟩ .nil⟩
    have hl2 := hl.same (same_upd (o := .lst [.ref t]) no)
    refine ⟨_, rfl, pa, p.map fun x : Nat => (x : Int), rfl, ?_, _, rfl, ?_⟩
    · rw [← vn_ints]
      exact s2.seq hS
    rw [cast_sum]
    refine ⟨by omega, by omega, ?_⟩
    rw [Int.toNat_natCast]
    refine for_range (fun i σ H' => ∃ r y4, σ = [some (.ref ga), some (.ref pa), some (.ref r), some (.ref o), y4] ∧ Same H H' ∧ r ≠ o ∧ H o = none ∧ LX .tup H' r (levelAt g p i) ∧ LX .tup H' o (foundTo g p i))
      ⟨l, none, rfl, s2, nlo, s1.free no, hl2, ho⟩ ?_ ?_
    · rintro i σ H1 hi ⟨r, y4, rfl, s3, nro, no', hr1, ho1⟩
      refine ⟨_, rfl, _, rfl, ga, r, g, levelAt g p i, rfl, hG.same s3, hr1, fun y hy => ?_, O, fun H2 r2 s4 nr2 hr2 => ?_⟩
      · have := level_ok O.rows hpl i y hy
        omega
      · obtain ⟨xs, zs, hx, hz, lx, lz, hE⟩ := ho1.extend s4 hr2
        obtain ⟨xs0, hx0⟩ := ho1.there
        have n2 : r2 ≠ o := fun e => by
          rw [e, hx0] at nr2
          cases nr2
        refine ⟨_, rfl, .inl ⟨rfl, _, SqL.of hx⟩, _, rfl, o, r2, xs, zs, rfl, rfl, hx, hz, ?_, ?_⟩
        · have a1 := found_few O.rows O.n5 hpl hps i
          have a2 := level_few O.rows O.n5 hpl hps (i + 1)
          have a3 : (behindOne g (levelAt g p i)).length ≤ 371293 := a2
          rw [lx, lz, sizeLine_eq]
          have : (i + 1) * 371293 ≤ 12 * 371293 := Nat.mul_le_mul_right _ (by omega)
          omega
        · exact ⟨r2, _, rfl, same_put (s3.trans s4) no', n2, no', hr2.keep hx n2, hE⟩
    · rintro σ H1 ⟨r, y4, rfl, s3, nro, no', hr1, ho1⟩
      exact ⟨_, rfl, q H1 o s3 no' ho1⟩
/-! ### has_pebble -/
theorem sc_has_pebble : FnScope ["placings", "vertex", "placing"] ["placings", "vertex"] (defScope s_has_pebble) := ⟨rfl, rfl, rfl, by decide +kernel, rfl, by decide +kernel, by decide +kernel⟩
def sp_has_pebble : Sp := fun vs H Q _ => ∃ (pa : Addr) (ps : List (List Nat)) (v : Nat), vs = [.ref pa, vn v] ∧ LX .tup H pa ps ∧ (∀ p ∈ ps, v < p.length) ∧ ps.length ≤ 16000000 ∧ ∀ H', Same H H' → Q (.bl (hasPebble ps v)) H'
theorem ok_has_pebble {f : Addr} {fd : FuncData} (F : Fun K "has_pebble" "has_pebble" s_has_pebble f fd) (nb : NB mg) : FnOk P w K mg base CX0 1 f fd ["placings", "vertex"] sp_has_pebble := by
  refine F.ok sc_has_pebble (fun vs H Q E h => ?_) (fun cdv A outer s H vs Q E hr h => ?_)
  · obtain ⟨pa, ps, v, rfl, _⟩ := h
    rfl
  · obtain ⟨pa, ps, v, rfl, hP, hv, hlen, q⟩ := h
    refine ⟨_, pss_one (ps_ret (pe_callB (cr_any rfl) (by rfl) nb.any (by decide +kernel) (pa_cons (pe_lc (own := [("placing", 2)]) (g := gName 2) (by rfl) sc_has_pebble.nd
        (pi_list (pv 0))
        (blkOk_by (own := [("placing", 2)]) (N := ["placings", "vertex", "placing"]) (sc := defScope s_has_pebble) (by decide +kernel))
        (fun _ _ _ _ _ => pg_name (i := 2) sc_has_pebble.nd rfl (Or.inl rfl)) (fun _ _ _ _ _ => pts_nil)
        (fun _ _ _ _ _ => pe_cmpR op_gt (pe_ix (r := rIxT K) ix_tup (pv 2) (pv 1) (fun _ _ => rfl)) pe_int (nomark _))) pa_nil))), ?_⟩
    obtain ⟨bs, hS, hbl, hH, _, hback⟩ := hP.at (K := K)
    refine ⟨_, rfl, pa, rfl, ⟨_, hS⟩, fun D nD => ?_⟩
    refine lc_list (K := K) (a := pa) (xs := bs.map V.ref) (PFlat H D ((ps.map fun p => decide (0 < p.getD v 0)).map V.bl)) (pflat_0 nD) (fun i H2 _ p2 => p2.1.seq hS) ?_ ?_
    · intro i x H2 hx p2
      obtain ⟨b, p, rfl, hp, hb⟩ := hback i x hx
      refine ⟨rfl, ?_⟩
      refine ⟨_, rfl, _, rfl, b, _, _, _, rfl, rfl, SqT.of (p2.1 _ _ hb), vn_at (i := v) rfl (hv p (List.mem_of_getElem? hp)), _, _, rfl, rfl, ?_⟩
      have hv2 : ((ps.map fun p => decide (0 < p.getD v 0)).map V.bl)[i]? = some (.bl (decide (0 < p.getD v 0))) := map_at (map_at hp)
      rw [← dec_pos] at hv2
      exact pflat_push nD (small_line (by simp; omega)) p2 (Same.refl _) hv2
    · intro H2 p2
      rw [List.length_map, hbl] at p2
      obtain ⟨s2, s3⟩ := pflat_end (by simp) p2
      exact ⟨D, _, rfl, SqL.of s3, q H2 s2⟩
/-! ### reached_from -/
theorem sc_reached_from : FnScope ["graph", "pebbles", "placings", "vertex"] ["graph", "pebbles"] (defScope s_reached_from) := ⟨rfl, rfl, rfl, by decide +kernel, rfl, by decide +kernel, by decide +kernel⟩
def sp_reached_from (K : PySem.W.Frag) : Sp := fun vs H Q _ => ∃ (ga pa : Addr) (g : List (List Nat)) (p : List Nat), vs = [.ref ga, .ref pa] ∧ LX .lst H ga g ∧ SqL K H pa (p.map vn) ∧ p.length = g.length ∧ p.sum ≤ 12 ∧ GOk g ∧
  ∀ H' q, Same H H' → H q = none → H' q = some (.lst ((reachedFrom g p).map vn)) → Q (.ref q) H'
theorem ok_reached_from {f : Addr} {fd : FuncData} (F : Fun K "reached_from" "reached_from" s_reached_from f fd) (nb : NB mg) (cA : Cal P w K mg base 4 "all_behind" ["graph", "pebbles"] (sp_all_behind K)) (cH : Cal P w K mg base 4 "has_pebble" ["placings", "vertex"] sp_has_pebble) :
    FnOk P w K mg base CX0 5 f fd ["graph", "pebbles"] (sp_reached_from K) := by
  refine F.ok sc_reached_from (fun vs H Q E h => ?_) (fun cdv A outer s H vs Q E hr h => ?_)
  · obtain ⟨ga, pa, g, p, rfl, _⟩ := h
    rfl
  · obtain ⟨ga, pa, g, p, rfl, hG, hS, hpl, hps, O, q⟩ := h
    refine ⟨_, pss_cons (ps_set (i := 2) sc_reached_from.nd rfl (.inr rfl) (pe_cal cA hr (by rfl) (pa_cons (pv 0) (pa_cons (pv 1) pa_nil))))
      (pss_one (ps_ret (pe_lc (own := [("vertex", 3)]) (g := gName 3) (by rfl) sc_reached_from.nd
        (pi_range1 rfl nb.range (pa_cons (pe_callB call_len_seq (by rfl) nb.len PySem.boot_len (pa_cons (pv 0) pa_nil)) pa_nil))
        (blkOk_by (own := [("vertex", 3)]) (N := ["graph", "pebbles", "placings", "vertex"]) (sc := defScope s_reached_from) (by decide +kernel))
        (fun _ _ _ _ _ => pg_name (i := 3) sc_reached_from.nd rfl (Or.inl rfl)) (fun _ _ _ _ _ => pts_nil)
        (fun _ _ _ _ _ => pe_ifExp (pt_val (pe_cal cH hr (by rfl) (pa_cons (pv 2) (pa_cons (pv 3) pa_nil)))) pe_int pe_int)))), ?_⟩
    refine ⟨_, rfl, _, rfl, ga, pa, g, p, rfl, hG, hS, hpl, hps, O, fun H1 r s1 nr hr1 => ?_⟩
    obtain ⟨bs, hSg, hbl, hH, _, _⟩ := (hG.same s1).at (K := K)
    have h5 := O.n5
    refine ⟨_, rfl, ga, _, rfl, .inl hSg, (((bs.map V.ref).length : Nat) : Int), rfl, by omega, by rw [List.length_map, hbl]; omega, fun D nD => ?_⟩
    rw [Int.toNat_natCast, List.length_map, hbl]
    refine lc_range (PFlat H1 D ((reachedFrom g p).map vn)) (pflat_0 nD) ?_ ?_
    · intro i H2 hi p2
      have hgi : (reachedFrom g p)[i]? = some (if hasPebble (allBehind g p) i = true then 1 else 0) := map_at (List.getElem?_range hi)
      have hz : ((reachedFrom g p).map vn).length ≤ sizeLine := small_line (by unfold reachedFrom; simp; omega)
      refine ⟨rfl, ?_⟩
      refine ⟨_, rfl, _, rfl, r, allBehind g p, i, ?_, hr1.same p2.1, fun y hy => ?_, all_few O hpl hps, fun H3 s3 => ⟨_, rfl, ite2 (fun c => ?_) (fun c => ?_)⟩⟩
      · show [V.ref r, V.int (0 + (i : Int))] = [V.ref r, vn i]
        rw [Int.zero_add]
        rfl
      · rw [all_len O hpl hy]
        exact hi
      · rw [if_pos c] at hgi
        exact pflat_push nD hz p2 s3 (map_at hgi)
      · rw [if_neg c] at hgi
        exact pflat_push nD hz p2 s3 (map_at hgi)
    · intro H2 p2
      obtain ⟨s2, s3⟩ := pflat_end (by unfold reachedFrom; simp) p2
      exact q H2 D (s1.trans s2) (s1.free nD) s3
/-! ### is_solved -/
theorem sc_is_solved : FnScope ["graph", "pebbles"] ["graph", "pebbles"] (defScope s_is_solved) := ⟨rfl, rfl, rfl, by decide +kernel, rfl, by decide +kernel, by decide +kernel⟩
def sp_is_solved (K : PySem.W.Frag) : Sp := fun vs H Q _ => ∃ (ga pa : Addr) (g : List (List Nat)) (p : List Nat), vs = [.ref ga, .ref pa] ∧ LX .lst H ga g ∧ SqL K H pa (p.map vn) ∧ p.length = g.length ∧ p.sum ≤ 12 ∧ GOk g ∧
  ∀ H', Same H H' → Q (.bl (isSolved g p)) H'
theorem ok_is_solved {f : Addr} {fd : FuncData} (F : Fun K "is_solved" "is_solved" s_is_solved f fd) (cR : Cal P w K mg base 5 "reached_from" ["graph", "pebbles"] (sp_reached_from K)) : FnOk P w K mg base CX0 6 f fd ["graph", "pebbles"] (sp_is_solved K) := by
  refine F.ok sc_is_solved (fun vs H Q E h => ?_) (fun cdv A outer s H vs Q E hr h => ?_)
  · obtain ⟨ga, pa, g, p, rfl, _⟩ := h
    rfl
  · obtain ⟨ga, pa, g, p, rfl, hG, hS, hpl, hps, O, q⟩ := h
    refine ⟨_, pss_one (ps_ret (pe_cmpR op_notIn_seq pe_int (pe_cal cR hr (by rfl) (pa_cons (pv 0) (pa_cons (pv 1) pa_nil))) (by rfl))), ?_⟩
    refine ⟨_, rfl, _, rfl, ga, pa, g, p, rfl, hG, hS, hpl, hps, O, fun H1 r s1 nr hr1 => ?_⟩
    refine ⟨r, _, rfl, .inl (SqL.of hr1), rfl, flat_nats _, ?_⟩
    have e := q H1 s1
    unfold isSolved at e
    show Q (.bl (if true = true then !inV (vn 0) _ else _)) H1
    rw [if_pos rfl, in_nats]
    exact e
/-! ### with_one_more -/
theorem sc_with_one_more : FnScope ["rows", "total", "found", "row", "many"] ["rows", "total"] (defScope s_with_one_more) := ⟨rfl, rfl, rfl, by decide +kernel, rfl, by decide +kernel, by decide +kernel⟩
def sp_with_one_more : Sp := fun vs H Q _ => ∃ (ra : Addr) (rows : List (List Nat)) (t : Nat), vs = [.ref ra, vn t] ∧ LX .lst H ra rows ∧ (∀ r ∈ rows, r.sum ≤ t ∧ r.length ≤ 1000) ∧ t ≤ 1000 ∧ (withOneMore rows t).length ≤ 16000000 ∧
  ∀ H' q, Same H H' → H q = none → LX .lst H' q (withOneMore rows t) → Q (.ref q) H'
theorem flat_take_len {A B : Type} (f : A → List B) (l : List A) (i : Nat) : ((l.take i).flatMap f).length ≤ (l.flatMap f).length := by
  have e : l.flatMap f = (l.take i).flatMap f ++ (l.drop i).flatMap f := by
    rw [← List.flatMap_append, List.take_append_drop]
  rw [e, List.length_append]
  omega
theorem ok_with_one_more {f : Addr} {fd : FuncData} (F : Fun K "with_one_more" "with_one_more" s_with_one_more f fd) (nb : NB mg) : FnOk P w K mg base CX0 1 f fd ["rows", "total"] sp_with_one_more := by
  refine F.ok sc_with_one_more (fun vs H Q E h => ?_) (fun cdv A outer s H vs Q E hr h => ?_)
  · obtain ⟨ra, rows, t, rfl, _⟩ := h
    rfl
  · obtain ⟨ra, rows, t, rfl, hL, hrow, ht, hz, q⟩ := h
    refine ⟨_, pss_cons (ps_set (i := 2) sc_with_one_more.nd rfl (.inl rfl) (pe_lst pa_nil))
      (pss_cons (ps_for PassesOwn.never rfl (pi_list (pv 0)) (pg_name (i := 3) sc_with_one_more.nd rfl (.inl rfl))
        (pss_one (ps_for PassesOwn.never rfl (pi_range1 rfl nb.range (pa_cons (pe_op op_add (pe_op op_sub (pv 1) (pe_callB (cr_sum rfl) (by rfl) nb.sum (by decide +kernel) (pa_cons (pv 3) pa_nil))) pe_int) pa_nil)) (pg_name (i := 4) sc_with_one_more.nd rfl (.inl rfl))
          (pss_one (ps_expr (pe_bm PySem.F.plainAttrs_list PySem.F.slot_list_append PySem.F.type_list_append mt_append (pv 2) (pa_cons (pe_op op_cat (pv 3) (pe_lst (pa_cons (pv 4) pa_nil))) pa_nil)))))))
      (pss_one (ps_ret (pv 2)))), ?_⟩
    obtain ⟨bs, hS, hbl, hH, _, hback⟩ := hL.at (K := K)
    refine ⟨Nat.zero_le _, fun o no => ?_⟩
    have s0 : Same H (upd H o (.lst [])) := same_upd no
    refine ⟨_, rfl, ra, rfl, ⟨_, s0.seq hS⟩, for_list (K := K) (a := ra) (xs := bs.map V.ref) (fun i σ H' => ∃ y3 y4, σ = [some (.ref ra), some (vn t), some (.ref o), y3, y4] ∧ Same H H' ∧ LX .lst H' o ((rows.take i).flatMap (oneMore t)))
      ⟨none, none, rfl, s0, LX.nil upd_same⟩ (fun i σ H' _ ⟨_, _, _, s1, _⟩ => s1.seq hS) ?_ ?_⟩
    · rintro i x σ H1 hx ⟨y3, y4, rfl, s1, h1⟩
      obtain ⟨b, r, rfl, hr2, hb⟩ := hback i x hx
      have hrm := hrow r (List.mem_of_getElem? hr2)
      have hnext : (rows.take (i + 1)).flatMap (oneMore t) = (rows.take i).flatMap (oneMore t) ++ oneMore t r := by
        rw [take_more hr2, List.flatMap_append, List.flatMap_cons, List.flatMap_nil, List.append_nil]
      have hbound : ((rows.take i).flatMap (oneMore t)).length + (oneMore t r).length ≤ 16000000 := by
        have := flat_take_len (oneMore t) rows (i + 1)
        rw [hnext, List.length_append] at this
        unfold withOneMore at hz
        omega
      have hol : (oneMore t r).length = t - r.sum + 1 := by unfold oneMore; simp
      refine ⟨_, rfl, _, rfl, b, r.map fun x : Nat => (x : Int), rfl, ?_, ?_⟩
      · rw [← vn_ints]
        exact SqL.of (s1 _ _ hb)
      rw [cast_sum]
      refine ⟨_, _, rfl, rfl, _, _, rfl, rfl, (t : Int) - ((r.sum : Nat) : Int) + 1, rfl, by omega, by omega, ?_⟩
      have hn : ((t : Int) - ((r.sum : Nat) : Int) + 1).toNat = t - r.sum + 1 := by omega
      rw [hn]
      refine for_range (fun j σ H' => ∃ y4, σ = [some (.ref ra), some (vn t), some (.ref o), some (.ref b), y4] ∧ Same H H' ∧ LX .lst H' o ((rows.take i).flatMap (oneMore t) ++ (oneMore t r).take j))
        ⟨_, rfl, s1, by rw [List.take_zero, List.append_nil]; exact h1⟩ ?_ ?_
      · rintro j σ H2 hj ⟨z4, rfl, s2, h2⟩
        have e0 : (.int (0 + (j : Int)) : V) = vn j := by rw [Int.zero_add]; rfl
        rw [e0]
        have hoj : (oneMore t r)[j]? = some (r ++ [j]) := map_at (List.getElem?_range hj)
        obtain ⟨xs, hxs⟩ := h2.there
        have hb2 := s2 _ _ hb
        refine ⟨_, rfl, .inl ⟨rfl, _, SqL.of hxs⟩, _, rfl, _, rfl, by show 1 ≤ sizeLine; decide, fun l nl => ?_⟩
        refine ⟨b, l, _, _, rfl, rfl, by rw [upd_ne (ne_of_none hb2 nl)]; exact hb2, upd_same, ?_, fun z nz => ?_⟩
        · rw [List.length_map, sizeLine_eq]
          show r.length + 1 ≤ _
          omega
        · have nz0 : H2 z = none := (same_upd nl).free nz
          have s3 : Same H2 (upd (upd H2 l (.lst [vn j])) z (.lst (r.map vn ++ [vn j]))) := (same_upd nl).trans (same_upd nz)
          have nzo : z ≠ o := (ne_of_none hxs nz0).symm
          obtain ⟨acc, a1, a2, a3⟩ := h2.push s3 (b := z) (r := r ++ [j]) (by rw [upd_same, List.map_append]; rfl) nzo (by
            rw [List.length_append, List.length_take, sizeLine_eq]
            omega)
          refine ⟨o, _, _, rfl, rfl, a1, a2, ?_⟩
          refine ⟨_, rfl, same_put (s2.trans s3) no, ?_⟩
          rw [take_more hoj, ← List.append_assoc]
          exact a3
      · rintro σ H2 ⟨z4, rfl, s2, h2⟩
        rw [List.take_of_length_le (l := oneMore t r) (by omega)] at h2
        refine ⟨_, _, rfl, s2, ?_⟩
        rw [hnext]
        exact h2
    · rintro σ H1 ⟨y3, y4, rfl, s1, h1⟩
      rw [List.length_map, hbl, List.take_length] at h1
      exact ⟨_, rfl, q H1 o s1 no h1⟩
/-! ### all_placings -/
theorem sc_all_placings : FnScope ["vertex_count", "total", "rows", "place", "row"] ["vertex_count", "total"] (defScope s_all_placings) := ⟨rfl, rfl, rfl, by decide +kernel, rfl, by decide +kernel, by decide +kernel⟩
def sp_all_placings : Sp := fun vs H Q _ => ∃ n t : Nat, vs = [vn n, vn t] ∧ 1 ≤ n ∧ n ≤ 5 ∧ t ≤ 12 ∧ ∀ H' q, Same H H' → H q = none → LX .lst H' q (allPlacings n t) → Q (.ref q) H'
theorem ok_all_placings {f : Addr} {fd : FuncData} (F : Fun K "all_placings" "all_placings" s_all_placings f fd) (nb : NB mg) (cW : Cal P w K mg base 1 "with_one_more" ["rows", "total"] sp_with_one_more) : FnOk P w K mg base CX0 2 f fd ["vertex_count", "total"] sp_all_placings := by
  refine F.ok sc_all_placings (fun vs H Q E h => ?_) (fun cdv A outer s H vs Q E hr h => ?_)
  · obtain ⟨n, t, rfl, _⟩ := h
    rfl
  · obtain ⟨n, t, rfl, h1, h5, ht, q⟩ := h
    refine ⟨_, pss_cons (ps_set (i := 2) sc_all_placings.nd rfl (.inl rfl) (pe_lst (pa_cons (pe_lst pa_nil) pa_nil)))
      (pss_cons (ps_for PassesOwn.never rfl (pi_range1 rfl nb.range (pa_cons (pe_op op_sub (pv 0) pe_int) pa_nil)) (pg_name (i := 3) sc_all_placings.nd rfl (.inl rfl))
        (pss_one (ps_set (i := 2) sc_all_placings.nd rfl (.inl rfl) (pe_cal cW hr (by rfl) (pa_cons (pv 2) (pa_cons (pv 1) pa_nil))))))
      (pss_one (ps_ret (pe_lc (own := [("row", 4)]) (g := gName 4) (by rfl) sc_all_placings.nd
        (pi_list (pv 2))
        (blkOk_by (own := [("row", 4)]) (N := ["vertex_count", "total", "rows", "place", "row"]) (sc := defScope s_all_placings) (by decide +kernel))
        (fun _ _ _ _ _ => pg_name (i := 4) sc_all_placings.nd rfl (Or.inl rfl)) (fun _ _ _ _ _ => pts_nil)
        (fun _ _ _ _ _ => pe_op op_cat (pv 4) (pe_lst (pa_cons (pe_op op_sub (pv 1) (pe_callB (r := rSum K) (cr_sum rfl) (by rfl) nb.sum (by decide +kernel) (pa_cons (pv 4) pa_nil))) pa_nil))))))), ?_⟩
    refine ⟨Nat.zero_le _, fun l nl => ⟨by show 1 ≤ sizeLine; decide, fun m nm => ?_⟩⟩
    have nlm : l ≠ m := ne_of_none upd_same nm
    have s0 : Same H (upd (upd H l (.lst [])) m (.lst [.ref l])) := (same_upd nl).trans (same_upd nm)
    have h0 : LX .lst (upd (upd H l (.lst [])) m (.lst [.ref l])) m [[]] := ⟨[l], upd_same, .cons ⟨nlm, by rw [upd_ne nlm, upd_same]; rfl⟩ .nil⟩
    refine ⟨_, rfl, _, _, rfl, rfl, (n : Int) - 1, rfl, by omega, by omega, ?_⟩
    have hn : ((n : Int) - 1).toNat = n - 1 := by omega
    rw [hn]
    refine for_range (fun i σ H' => ∃ r y3, σ = [some (vn n), some (vn t), some (.ref r), y3, none] ∧ Same H H' ∧ LX .lst H' r (prefixes t i)) ⟨m, none, rfl, s0, h0⟩ ?_ ?_
    · rintro i σ H1 hi ⟨r, y3, rfl, s1, hr1⟩
      refine ⟨_, rfl, _, rfl, r, prefixes t i, t, rfl, hr1, fun y hy => ?_, by omega, ?_, fun H2 r2 s2 nr2 hr2 => ?_⟩
      · have := prefix_ok hy
        omega
      · have : (prefixes t (i + 1)).length ≤ 371293 := prefix_few (by omega) ht
        have e : withOneMore (prefixes t i) t = prefixes t (i + 1) := rfl
        rw [e]
        omega
      · exact ⟨r2, _, rfl, s1.trans s2, hr2⟩
    · rintro σ H1 ⟨r, y3, rfl, s1, hr1⟩
      obtain ⟨bs, hS, hbl, hH, _, hback⟩ := hr1.at (K := K)
      have hfew := prefix_few (total := t) (k := n - 1) (by omega) ht
      refine ⟨_, rfl, r, rfl, ⟨_, hS⟩, fun D nD => ?_⟩
      refine lc_list (K := K) (a := r) (xs := bs.map V.ref) (PRefs .lst H1 D (allPlacings n t)) (prefs_0 nD) (fun i H2 _ p2 => p2.1.seq hS) ?_ ?_
      · intro i x H2 hx p2
        obtain ⟨b, row, rfl, hrow, hb⟩ := hback i x hx
        have hok := prefix_ok (List.mem_of_getElem? hrow)
        have hb2 := p2.1 _ _ hb
        refine ⟨rfl, ?_⟩
        refine ⟨_, rfl, _, rfl, _, rfl, b, row.map fun x : Nat => (x : Int), rfl, ?_, ?_⟩
        · rw [← vn_ints]
          exact SqL.of hb2
        rw [cast_sum]
        have ev : (V.int ((t : Int) - ((row.sum : Nat) : Int))) = vn (t - row.sum) := by
          show V.int _ = V.int _
          rw [show ((t : Int) - ((row.sum : Nat) : Int)) = ((t - row.sum : Nat) : Int) by omega]
        refine ⟨_, _, rfl, rfl, by show 1 ≤ sizeLine; decide, fun k nk => ?_⟩
        refine ⟨b, k, _, _, rfl, rfl, by rw [upd_ne (ne_of_none hb2 nk)]; exact hb2, upd_same, ?_, fun z nz => ?_⟩
        · rw [List.length_map, sizeLine_eq]
          show row.length + 1 ≤ _
          omega
        · have nz0 : H2 z = none := (same_upd nk).free nz
          refine prefs_push nD (small_line ?_) p2 ((same_upd nk).trans (same_upd nz)) nz0 (r := lastOn t row) ?_ (map_at hrow)
          · unfold allPlacings
            rw [List.length_map]
            omega
          · rw [upd_same]
            unfold lastOn
            rw [List.map_append]
            show some (HO.lst (row.map vn ++ [V.int ((t : Int) - ((row.sum : Nat) : Int))])) = _
            rw [ev]
            rfl
      · intro H2 p2
        rw [List.length_map, hbl] at p2
        obtain ⟨s2, s3⟩ := prefs_end (by unfold allPlacings; simp) p2
        exact q H2 D (s1.trans s2) (s1.free nD) s3
/-! ### solved_placings -/
theorem sc_solved_placings : FnScope ["graph", "total", "row"] ["graph", "total"] (defScope s_solved_placings) := ⟨rfl, rfl, rfl, by decide +kernel, rfl, by decide +kernel, by decide +kernel⟩
def sp_solved_placings : Sp := fun vs H Q _ => ∃ (ga : Addr) (g : List (List Nat)) (t : Nat), vs = [.ref ga, vn t] ∧ LX .lst H ga g ∧ 1 ≤ g.length ∧ GOk g ∧ t ≤ 12 ∧ ∀ H' q, Same H H' → H q = none → LX .lst H' q (solvedPlacings g t) → Q (.ref q) H'
theorem ok_solved_placings {f : Addr} {fd : FuncData} (F : Fun K "solved_placings" "solved_placings" s_solved_placings f fd) (nb : NB mg) (cA : Cal P w K mg base 6 "all_placings" ["vertex_count", "total"] sp_all_placings) (cS : Cal P w K mg base 6 "is_solved" ["graph", "pebbles"] (sp_is_solved K)) :
    FnOk P w K mg base CX0 7 f fd ["graph", "total"] sp_solved_placings := by
  refine F.ok sc_solved_placings (fun vs H Q E h => ?_) (fun cdv A outer s H vs Q E hr h => ?_)
  · obtain ⟨ga, g, t, rfl, _⟩ := h
    rfl
  · obtain ⟨ga, g, t, rfl, hG, h1, O, ht, q⟩ := h
    refine ⟨_, pss_one (ps_ret (pe_lc (own := [("row", 2)]) (g := gName 2) (by rfl) sc_solved_placings.nd
        (pi_list (pe_cal cA hr (by rfl) (pa_cons (pe_callB call_len_seq (by rfl) nb.len PySem.boot_len (pa_cons (pv 0) pa_nil)) (pa_cons (pv 1) pa_nil))))
        (blkOk_by (own := [("row", 2)]) (N := ["graph", "total", "row"]) (sc := defScope s_solved_placings) (by decide +kernel))
        (fun _ _ _ _ _ => pg_name (i := 2) sc_solved_placings.nd rfl (Or.inl rfl)) (fun _ _ _ _ _ => pts_one (pt_val (pe_cal cS hr (by rfl) (pa_cons (pv 0) (pa_cons (pv 2) pa_nil)))))
        (fun _ _ _ _ _ => pv 2))), ?_⟩
    obtain ⟨gs, hSg, hgl, _, _, _⟩ := hG.at (K := K)
    have h5 := O.n5
    refine ⟨_, rfl, ga, _, rfl, .inl hSg, _, rfl, g.length, t, ?_, h1, h5, ht, fun H1 r s1 nr hr1 => ?_⟩
    · rw [List.length_map, hgl]
      rfl
    obtain ⟨bs, hS, hbl, hH, _, hback⟩ := hr1.at (K := K)
    have hfew := placings_few (n := g.length) h5 ht
    refine ⟨r, rfl, ⟨_, hS⟩, fun D nD => ?_⟩
    refine lc_list (K := K) (a := r) (xs := bs.map V.ref) (fun i H2 => Same H1 H2 ∧ LX .lst H2 D (((allPlacings g.length t).take i).filter (isSolved g))) ⟨same_upd nD, LX.nil upd_same⟩ (fun i H2 _ p2 => p2.1.seq hS) ?_ ?_
    · rintro i x H2 hx ⟨s2, h2⟩
      obtain ⟨b, row, rfl, hrow, hb⟩ := hback i x hx
      have hok := placing_ok h1 (List.mem_of_getElem? hrow)
      have hnext : ((allPlacings g.length t).take (i + 1)).filter (isSolved g) = ((allPlacings g.length t).take i).filter (isSolved g) ++ [row].filter (isSolved g) := by
        rw [take_more hrow, List.filter_append]
      have hb2 := s2 _ _ hb
      refine ⟨rfl, ?_⟩
      refine ⟨_, rfl, _, rfl, ga, b, g, row, rfl, (hG.same s1).same s2, SqL.of hb2, hok.1, by omega, O, fun H3 s3 => ⟨_, rfl, ite2 (fun c => ?_) (fun c => ?_)⟩⟩
      · have c : isSolved g row = true := c
        have hf : [row].filter (isSolved g) = [row] := by rw [List.filter_cons, if_pos c, List.filter_nil]
        rw [hf] at hnext
        have hlen : (((allPlacings g.length t).take i).filter (isSolved g)).length < sizeLine := by
          have e1 := List.length_filter_le (isSolved g) ((allPlacings g.length t).take i)
          rw [List.length_take] at e1
          rw [sizeLine_eq]
          omega
        obtain ⟨acc, a1, a2, a3⟩ := h2.push s3 (b := b) (r := row) (s3 _ _ hb2) (ne_of_none hb nD) hlen
        refine ⟨_, rfl, acc, a1, a2, same_put (s2.trans s3) nD, ?_⟩
        rw [hnext]
        exact a3
      · have c : ¬ isSolved g row = true := c
        have hf : [row].filter (isSolved g) = [] := by rw [List.filter_cons, if_neg c, List.filter_nil]
        rw [hf, List.append_nil] at hnext
        refine ⟨s2.trans s3, ?_⟩
        rw [hnext]
        exact h2.same s3
    · rintro H2 ⟨s2, h2⟩
      rw [List.length_map, hbl, List.take_length] at h2
      exact q H2 D (s1.trans s2) (s1.free nD) h2
/-! ### count_solvable -/
theorem sc_count_solvable : FnScope ["vertex_count", "pebbles", "edges"] ["vertex_count", "pebbles", "edges"] (defScope s_count_solvable) := ⟨rfl, rfl, rfl, by decide +kernel, rfl, by decide +kernel, by decide +kernel⟩
def sp_count_solvable (K : PySem.W.Frag) : Sp := fun vs H Q _ => ∃ (n k : Nat) (a : Addr) (es : List Nat), vs = [vn n, vn k, .ref a] ∧ SqL K H a (es.map vn) ∧ es.length ≤ 1000 ∧
  ∀ H' p, H' p = some (.lst ((PyKs579.count_solvable (ofN n) (ofN k) (es.map ofN)).map V.int)) → Q (.ref p) H'
theorem ok_count_solvable {f : Addr} {fd : FuncData} (F : Fun K "count_solvable" "count_solvable" s_count_solvable f fd) (nb : NB mg) {t1 : Tok} (mO : mg "OUTSIDE" = some (.int (-22) t1))
    (cI : Cal P w K mg base 7 "is_graph" ["vertex_count", "edges"] (sp_is_graph K)) (cC : Cal P w K mg base 7 "is_counted" ["pebbles"] sp_is_counted) (cG : Cal P w K mg base 7 "graph_of" ["vertex_count", "edges"] (sp_graph_of K)) (cS : Cal P w K mg base 7 "solved_placings" ["graph", "total"] sp_solved_placings) :
    FnOk P w K mg base CX0 8 f fd ["vertex_count", "pebbles", "edges"] (sp_count_solvable K) := by
  refine F.ok sc_count_solvable (fun vs H Q E h => ?_) (fun cdv A outer s H vs Q E hr h => ?_)
  · obtain ⟨n, k, a, es, rfl, _⟩ := h
    rfl
  · obtain ⟨n, k, a, es, rfl, hS, hlen, q⟩ := h
    refine ⟨_, pss_cons (ps_if (PW.pt (pw_or (pt_not (pt_val (pe_cal cI hr (by rfl) (pa_cons (pv 0) (pa_cons (pv 2) pa_nil))))) (pw_or1 (pt_not (pt_val (pe_cal cC hr (by rfl) (pa_cons (pv 1) pa_nil)))))))
        (pss_one (ps_ret (pe_lst (pa_cons (pe_glob (v := .int (-22)) rfl mO ⟨_, rfl⟩) pa_nil)))) pss_nil)
      (pss_one (ps_ret (pe_lst (pa_cons (pe_callB call_len_seq (by rfl) nb.len PySem.boot_len (pa_cons (pe_cal cS hr (by rfl) (pa_cons (pe_cal cG hr (by rfl) (pa_cons (pv 0) (pa_cons (pv 2) pa_nil))) (pa_cons (pv 1) pa_nil))) pa_nil)) pa_nil)))), ?_⟩
    rw [spec3] at q
    refine ⟨_, rfl, _, rfl, n, a, es, rfl, hS, hlen, fun H1 s1 => ⟨_, rfl, ?_⟩⟩
    refine ite2 (fun c => ?_) (fun c => ?_)
    · have c : isGraph n es = false := by simpa using c
      rw [c, if_neg Bool.false_ne_true] at q
      exact ⟨by show 1 ≤ sizeLine; decide, fun p np => q _ p upd_same⟩
    · have c : isGraph n es = true := by simpa using c
      rw [if_pos c] at q
      obtain ⟨h1, h5, hE⟩ := graph_is c
      have T := ties_of hE
      have O := gok_of c hlen
      have gl := graph_len n es
      refine ⟨_, rfl, k, rfl, _, rfl, ite2 (fun d => ?_) (fun d => ?_)⟩
      · have d : ¬ k ≤ 6 := by simpa using d
        rw [if_pos (by omega)] at q
        exact ⟨by show 1 ≤ sizeLine; decide, fun p np => q _ p upd_same⟩
      · have d : k ≤ 6 := by simpa using d
        rw [if_neg (by omega)] at q
        refine ⟨_, rfl, _, rfl, n, a, es, rfl, s1.seq hS, hlen, by omega, fun H2 p s2 np hp => ?_⟩
        refine ⟨_, rfl, p, graphOf n es, k, rfl, hp, by omega, O, by omega, fun H3 r s3 nr hr3 => ?_⟩
        obtain ⟨bs, hSr, hbl, _, _, _⟩ := hr3.at (K := K)
        rw [← solved_placings_eq T (by omega)] at q
        refine ⟨r, _, rfl, .inl hSr, by show 1 ≤ sizeLine; decide, fun z nz => q _ z ?_⟩
        rw [upd_same, List.length_map, hbl]
        rfl
end
/-! ### what the top has written -/
theorem all_mk {P : Program} {w : World} {K : PySem.W.Frag} {h : Heap} {mg : Str → Option Value} {fa f0 f1 f2 f3 f4 f5 f6 f7 f8 f9 f10 f11 f12 f13 f14 f15 f16 f17 f18 f19 f20 : Addr} {t_MOST_VERTICES t_MOST_COUNTED t_OUTSIDE : Tok} (X : K.In h) (G : h.Ns mainGlobals mg) (hfa : mg "count_solvable" = some (.ref fa))
    {od0 an0 : Option Addr} {sl0 : Array (Option Value)} {oc0 kV0 dc0 pm0 cd0 ct0 : Value}
    (a0 : PySem.W.nsIn K mainGlobals "is_vertex_count" = some (some (.ref f0))) (l0 : K.lookup f0 = some ⟨oc0, od0, .func (PySem.W.fnOf "is_vertex_count" "is_vertex_count" (defArgs s_is_vertex_count) (defBody s_is_vertex_count) (defScope s_is_vertex_count) .none kV0 dc0 pm0 an0 cd0 ct0), sl0⟩) (c0 : PySem.W.codeIn K cd0 "is_vertex_count" = true) (k0 : PySem.W.keepIn K (.ref f0) = true)
    {od1 an1 : Option Addr} {sl1 : Array (Option Value)} {oc1 kV1 dc1 pm1 cd1 ct1 : Value}
    (a1 : PySem.W.nsIn K mainGlobals "pairs_of" = some (some (.ref f1))) (l1 : K.lookup f1 = some ⟨oc1, od1, .func (PySem.W.fnOf "pairs_of" "pairs_of" (defArgs s_pairs_of) (defBody s_pairs_of) (defScope s_pairs_of) .none kV1 dc1 pm1 an1 cd1 ct1), sl1⟩) (c1 : PySem.W.codeIn K cd1 "pairs_of" = true) (k1 : PySem.W.keepIn K (.ref f1) = true)
    {od2 an2 : Option Addr} {sl2 : Array (Option Value)} {oc2 kV2 dc2 pm2 cd2 ct2 : Value}
    (a2 : PySem.W.nsIn K mainGlobals "is_edge" = some (some (.ref f2))) (l2 : K.lookup f2 = some ⟨oc2, od2, .func (PySem.W.fnOf "is_edge" "is_edge" (defArgs s_is_edge) (defBody s_is_edge) (defScope s_is_edge) .none kV2 dc2 pm2 an2 cd2 ct2), sl2⟩) (c2 : PySem.W.codeIn K cd2 "is_edge" = true) (k2 : PySem.W.keepIn K (.ref f2) = true)
    {od3 an3 : Option Addr} {sl3 : Array (Option Value)} {oc3 kV3 dc3 pm3 cd3 ct3 : Value}
    (a3 : PySem.W.nsIn K mainGlobals "is_below" = some (some (.ref f3))) (l3 : K.lookup f3 = some ⟨oc3, od3, .func (PySem.W.fnOf "is_below" "is_below" (defArgs s_is_below) (defBody s_is_below) (defScope s_is_below) .none kV3 dc3 pm3 an3 cd3 ct3), sl3⟩) (c3 : PySem.W.codeIn K cd3 "is_below" = true) (k3 : PySem.W.keepIn K (.ref f3) = true)
    {od4 an4 : Option Addr} {sl4 : Array (Option Value)} {oc4 kV4 dc4 pm4 cd4 ct4 : Value}
    (a4 : PySem.W.nsIn K mainGlobals "are_rising" = some (some (.ref f4))) (l4 : K.lookup f4 = some ⟨oc4, od4, .func (PySem.W.fnOf "are_rising" "are_rising" (defArgs s_are_rising) (defBody s_are_rising) (defScope s_are_rising) .none kV4 dc4 pm4 an4 cd4 ct4), sl4⟩) (c4 : PySem.W.codeIn K cd4 "are_rising" = true) (k4 : PySem.W.keepIn K (.ref f4) = true)
    {od5 an5 : Option Addr} {sl5 : Array (Option Value)} {oc5 kV5 dc5 pm5 cd5 ct5 : Value}
    (a5 : PySem.W.nsIn K mainGlobals "are_edges" = some (some (.ref f5))) (l5 : K.lookup f5 = some ⟨oc5, od5, .func (PySem.W.fnOf "are_edges" "are_edges" (defArgs s_are_edges) (defBody s_are_edges) (defScope s_are_edges) .none kV5 dc5 pm5 an5 cd5 ct5), sl5⟩) (c5 : PySem.W.codeIn K cd5 "are_edges" = true) (k5 : PySem.W.keepIn K (.ref f5) = true)
    {od6 an6 : Option Addr} {sl6 : Array (Option Value)} {oc6 kV6 dc6 pm6 cd6 ct6 : Value}
    (a6 : PySem.W.nsIn K mainGlobals "is_graph" = some (some (.ref f6))) (l6 : K.lookup f6 = some ⟨oc6, od6, .func (PySem.W.fnOf "is_graph" "is_graph" (defArgs s_is_graph) (defBody s_is_graph) (defScope s_is_graph) .none kV6 dc6 pm6 an6 cd6 ct6), sl6⟩) (c6 : PySem.W.codeIn K cd6 "is_graph" = true) (k6 : PySem.W.keepIn K (.ref f6) = true)
    {od7 an7 : Option Addr} {sl7 : Array (Option Value)} {oc7 kV7 dc7 pm7 cd7 ct7 : Value}
    (a7 : PySem.W.nsIn K mainGlobals "is_counted" = some (some (.ref f7))) (l7 : K.lookup f7 = some ⟨oc7, od7, .func (PySem.W.fnOf "is_counted" "is_counted" (defArgs s_is_counted) (defBody s_is_counted) (defScope s_is_counted) .none kV7 dc7 pm7 an7 cd7 ct7), sl7⟩) (c7 : PySem.W.codeIn K cd7 "is_counted" = true) (k7 : PySem.W.keepIn K (.ref f7) = true)
    {od8 an8 : Option Addr} {sl8 : Array (Option Value)} {oc8 kV8 dc8 pm8 cd8 ct8 : Value}
    (a8 : PySem.W.nsIn K mainGlobals "adjacent_to" = some (some (.ref f8))) (l8 : K.lookup f8 = some ⟨oc8, od8, .func (PySem.W.fnOf "adjacent_to" "adjacent_to" (defArgs s_adjacent_to) (defBody s_adjacent_to) (defScope s_adjacent_to) .none kV8 dc8 pm8 an8 cd8 ct8), sl8⟩) (c8 : PySem.W.codeIn K cd8 "adjacent_to" = true) (k8 : PySem.W.keepIn K (.ref f8) = true)
    {od9 an9 : Option Addr} {sl9 : Array (Option Value)} {oc9 kV9 dc9 pm9 cd9 ct9 : Value}
    (a9 : PySem.W.nsIn K mainGlobals "graph_of" = some (some (.ref f9))) (l9 : K.lookup f9 = some ⟨oc9, od9, .func (PySem.W.fnOf "graph_of" "graph_of" (defArgs s_graph_of) (defBody s_graph_of) (defScope s_graph_of) .none kV9 dc9 pm9 an9 cd9 ct9), sl9⟩) (c9 : PySem.W.codeIn K cd9 "graph_of" = true) (k9 : PySem.W.keepIn K (.ref f9) = true)
    {od10 an10 : Option Addr} {sl10 : Array (Option Value)} {oc10 kV10 dc10 pm10 cd10 ct10 : Value}
    (a10 : PySem.W.nsIn K mainGlobals "moved" = some (some (.ref f10))) (l10 : K.lookup f10 = some ⟨oc10, od10, .func (PySem.W.fnOf "moved" "moved" (defArgs s_moved) (defBody s_moved) (defScope s_moved) .none kV10 dc10 pm10 an10 cd10 ct10), sl10⟩) (c10 : PySem.W.codeIn K cd10 "moved" = true) (k10 : PySem.W.keepIn K (.ref f10) = true)
    {od11 an11 : Option Addr} {sl11 : Array (Option Value)} {oc11 kV11 dc11 pm11 cd11 ct11 : Value}
    (a11 : PySem.W.nsIn K mainGlobals "moves_from" = some (some (.ref f11))) (l11 : K.lookup f11 = some ⟨oc11, od11, .func (PySem.W.fnOf "moves_from" "moves_from" (defArgs s_moves_from) (defBody s_moves_from) (defScope s_moves_from) .none kV11 dc11 pm11 an11 cd11 ct11), sl11⟩) (c11 : PySem.W.codeIn K cd11 "moves_from" = true) (k11 : PySem.W.keepIn K (.ref f11) = true)
    {od12 an12 : Option Addr} {sl12 : Array (Option Value)} {oc12 kV12 dc12 pm12 cd12 ct12 : Value}
    (a12 : PySem.W.nsIn K mainGlobals "behind_one_move" = some (some (.ref f12))) (l12 : K.lookup f12 = some ⟨oc12, od12, .func (PySem.W.fnOf "behind_one_move" "behind_one_move" (defArgs s_behind_one_move) (defBody s_behind_one_move) (defScope s_behind_one_move) .none kV12 dc12 pm12 an12 cd12 ct12), sl12⟩) (c12 : PySem.W.codeIn K cd12 "behind_one_move" = true) (k12 : PySem.W.keepIn K (.ref f12) = true)
    {od13 an13 : Option Addr} {sl13 : Array (Option Value)} {oc13 kV13 dc13 pm13 cd13 ct13 : Value}
    (a13 : PySem.W.nsIn K mainGlobals "all_behind" = some (some (.ref f13))) (l13 : K.lookup f13 = some ⟨oc13, od13, .func (PySem.W.fnOf "all_behind" "all_behind" (defArgs s_all_behind) (defBody s_all_behind) (defScope s_all_behind) .none kV13 dc13 pm13 an13 cd13 ct13), sl13⟩) (c13 : PySem.W.codeIn K cd13 "all_behind" = true) (k13 : PySem.W.keepIn K (.ref f13) = true)
    {od14 an14 : Option Addr} {sl14 : Array (Option Value)} {oc14 kV14 dc14 pm14 cd14 ct14 : Value}
    (a14 : PySem.W.nsIn K mainGlobals "has_pebble" = some (some (.ref f14))) (l14 : K.lookup f14 = some ⟨oc14, od14, .func (PySem.W.fnOf "has_pebble" "has_pebble" (defArgs s_has_pebble) (defBody s_has_pebble) (defScope s_has_pebble) .none kV14 dc14 pm14 an14 cd14 ct14), sl14⟩) (c14 : PySem.W.codeIn K cd14 "has_pebble" = true) (k14 : PySem.W.keepIn K (.ref f14) = true)
    {od15 an15 : Option Addr} {sl15 : Array (Option Value)} {oc15 kV15 dc15 pm15 cd15 ct15 : Value}
    (a15 : PySem.W.nsIn K mainGlobals "reached_from" = some (some (.ref f15))) (l15 : K.lookup f15 = some ⟨oc15, od15, .func (PySem.W.fnOf "reached_from" "reached_from" (defArgs s_reached_from) (defBody s_reached_from) (defScope s_reached_from) .none kV15 dc15 pm15 an15 cd15 ct15), sl15⟩) (c15 : PySem.W.codeIn K cd15 "reached_from" = true) (k15 : PySem.W.keepIn K (.ref f15) = true)
    {od16 an16 : Option Addr} {sl16 : Array (Option Value)} {oc16 kV16 dc16 pm16 cd16 ct16 : Value}
    (a16 : PySem.W.nsIn K mainGlobals "is_solved" = some (some (.ref f16))) (l16 : K.lookup f16 = some ⟨oc16, od16, .func (PySem.W.fnOf "is_solved" "is_solved" (defArgs s_is_solved) (defBody s_is_solved) (defScope s_is_solved) .none kV16 dc16 pm16 an16 cd16 ct16), sl16⟩) (c16 : PySem.W.codeIn K cd16 "is_solved" = true) (k16 : PySem.W.keepIn K (.ref f16) = true)
    {od17 an17 : Option Addr} {sl17 : Array (Option Value)} {oc17 kV17 dc17 pm17 cd17 ct17 : Value}
    (a17 : PySem.W.nsIn K mainGlobals "with_one_more" = some (some (.ref f17))) (l17 : K.lookup f17 = some ⟨oc17, od17, .func (PySem.W.fnOf "with_one_more" "with_one_more" (defArgs s_with_one_more) (defBody s_with_one_more) (defScope s_with_one_more) .none kV17 dc17 pm17 an17 cd17 ct17), sl17⟩) (c17 : PySem.W.codeIn K cd17 "with_one_more" = true) (k17 : PySem.W.keepIn K (.ref f17) = true)
    {od18 an18 : Option Addr} {sl18 : Array (Option Value)} {oc18 kV18 dc18 pm18 cd18 ct18 : Value}
    (a18 : PySem.W.nsIn K mainGlobals "all_placings" = some (some (.ref f18))) (l18 : K.lookup f18 = some ⟨oc18, od18, .func (PySem.W.fnOf "all_placings" "all_placings" (defArgs s_all_placings) (defBody s_all_placings) (defScope s_all_placings) .none kV18 dc18 pm18 an18 cd18 ct18), sl18⟩) (c18 : PySem.W.codeIn K cd18 "all_placings" = true) (k18 : PySem.W.keepIn K (.ref f18) = true)
    {od19 an19 : Option Addr} {sl19 : Array (Option Value)} {oc19 kV19 dc19 pm19 cd19 ct19 : Value}
    (a19 : PySem.W.nsIn K mainGlobals "solved_placings" = some (some (.ref f19))) (l19 : K.lookup f19 = some ⟨oc19, od19, .func (PySem.W.fnOf "solved_placings" "solved_placings" (defArgs s_solved_placings) (defBody s_solved_placings) (defScope s_solved_placings) .none kV19 dc19 pm19 an19 cd19 ct19), sl19⟩) (c19 : PySem.W.codeIn K cd19 "solved_placings" = true) (k19 : PySem.W.keepIn K (.ref f19) = true)
    {od20 an20 : Option Addr} {sl20 : Array (Option Value)} {oc20 kV20 dc20 pm20 cd20 ct20 : Value}
    (a20 : PySem.W.nsIn K mainGlobals "count_solvable" = some (some (.ref f20))) (l20 : K.lookup f20 = some ⟨oc20, od20, .func (PySem.W.fnOf "count_solvable" "count_solvable" (defArgs s_count_solvable) (defBody s_count_solvable) (defScope s_count_solvable) .none kV20 dc20 pm20 an20 cd20 ct20), sl20⟩) (c20 : PySem.W.codeIn K cd20 "count_solvable" = true) (k20 : PySem.W.keepIn K (.ref f20) = true)
    (v_MOST_VERTICES : PySem.W.nsIn K mainGlobals "MOST_VERTICES" = some (some (.int (5) t_MOST_VERTICES)))
    (v_MOST_COUNTED : PySem.W.nsIn K mainGlobals "MOST_COUNTED" = some (some (.int (6) t_MOST_COUNTED)))
    (v_OUTSIDE : PySem.W.nsIn K mainGlobals "OUTSIDE" = some (some (.int (-22) t_OUTSIDE)))
    (z_len : PySem.W.nsIn K mainGlobals "len" = some none)
    (z_range : PySem.W.nsIn K mainGlobals "range" = some none)
    (z_all : PySem.W.nsIn K mainGlobals "all" = some none)
    (z_any : PySem.W.nsIn K mainGlobals "any" = some none)
    (z_sum : PySem.W.nsIn K mainGlobals "sum" = some none)
    (z_max : PySem.W.nsIn K mainGlobals "max" = some none)
    (z_list : PySem.W.nsIn K mainGlobals "list" = some none)
    (z_tuple : PySem.W.nsIn K mainGlobals "tuple" = some none)
    : ∃ fd : FuncData, (∀ (s : Shared) (us : List Value), us.length = (["vertex_count", "pebbles", "edges"] : List Str).length → BindsTo s fd ⟨us, []⟩ ((["vertex_count", "pebbles", "edges"] : List Str).zip us)) ∧ ∀ base : Heap, K.In base → base.Ns mainGlobals mg → FnOk P w K mg base CX0 8 fa fd ["vertex_count", "pebbles", "edges"] (sp_count_solvable K) := by
  have e := hfa.symm.trans (PySem.W.mg_of X G a20)
  cases e
  have nb : NB mg := ⟨PySem.W.mg_none_of X G z_len, PySem.W.mg_none_of X G z_range, PySem.W.mg_none_of X G z_all, PySem.W.mg_none_of X G z_any, PySem.W.mg_none_of X G z_sum, PySem.W.mg_none_of X G z_max, PySem.W.mg_none_of X G z_list, PySem.W.mg_none_of X G z_tuple⟩
  have F0 := fun_mk (st := s_is_vertex_count) l0 c0 k0
  have b0 := F0.binds (ps := ["vertex_count"]) fun _ _ _ _ _ _ us hl => match us, hl with | [_], _ => rfl
  have F1 := fun_mk (st := s_pairs_of) l1 c1 k1
  have b1 := F1.binds (ps := ["edges"]) fun _ _ _ _ _ _ us hl => match us, hl with | [_], _ => rfl
  have F2 := fun_mk (st := s_is_edge) l2 c2 k2
  have b2 := F2.binds (ps := ["vertex_count", "pair"]) fun _ _ _ _ _ _ us hl => match us, hl with | [_, _], _ => rfl
  have F3 := fun_mk (st := s_is_below) l3 c3 k3
  have b3 := F3.binds (ps := ["one", "other"]) fun _ _ _ _ _ _ us hl => match us, hl with | [_, _], _ => rfl
  have F4 := fun_mk (st := s_are_rising) l4 c4 k4
  have b4 := F4.binds (ps := ["pairs"]) fun _ _ _ _ _ _ us hl => match us, hl with | [_], _ => rfl
  have F5 := fun_mk (st := s_are_edges) l5 c5 k5
  have b5 := F5.binds (ps := ["vertex_count", "edges"]) fun _ _ _ _ _ _ us hl => match us, hl with | [_, _], _ => rfl
  have F6 := fun_mk (st := s_is_graph) l6 c6 k6
  have b6 := F6.binds (ps := ["vertex_count", "edges"]) fun _ _ _ _ _ _ us hl => match us, hl with | [_, _], _ => rfl
  have F7 := fun_mk (st := s_is_counted) l7 c7 k7
  have b7 := F7.binds (ps := ["pebbles"]) fun _ _ _ _ _ _ us hl => match us, hl with | [_], _ => rfl
  have F8 := fun_mk (st := s_adjacent_to) l8 c8 k8
  have b8 := F8.binds (ps := ["vertex", "pairs"]) fun _ _ _ _ _ _ us hl => match us, hl with | [_, _], _ => rfl
  have F9 := fun_mk (st := s_graph_of) l9 c9 k9
  have b9 := F9.binds (ps := ["vertex_count", "edges"]) fun _ _ _ _ _ _ us hl => match us, hl with | [_, _], _ => rfl
  have F10 := fun_mk (st := s_moved) l10 c10 k10
  have b10 := F10.binds (ps := ["placing", "start", "goal"]) fun _ _ _ _ _ _ us hl => match us, hl with | [_, _, _], _ => rfl
  have F11 := fun_mk (st := s_moves_from) l11 c11 k11
  have b11 := F11.binds (ps := ["graph", "placing"]) fun _ _ _ _ _ _ us hl => match us, hl with | [_, _], _ => rfl
  have F12 := fun_mk (st := s_behind_one_move) l12 c12 k12
  have b12 := F12.binds (ps := ["graph", "placings"]) fun _ _ _ _ _ _ us hl => match us, hl with | [_, _], _ => rfl
  have F13 := fun_mk (st := s_all_behind) l13 c13 k13
  have b13 := F13.binds (ps := ["graph", "pebbles"]) fun _ _ _ _ _ _ us hl => match us, hl with | [_, _], _ => rfl
  have F14 := fun_mk (st := s_has_pebble) l14 c14 k14
  have b14 := F14.binds (ps := ["placings", "vertex"]) fun _ _ _ _ _ _ us hl => match us, hl with | [_, _], _ => rfl
  have F15 := fun_mk (st := s_reached_from) l15 c15 k15
  have b15 := F15.binds (ps := ["graph", "pebbles"]) fun _ _ _ _ _ _ us hl => match us, hl with | [_, _], _ => rfl
  have F16 := fun_mk (st := s_is_solved) l16 c16 k16
  have b16 := F16.binds (ps := ["graph", "pebbles"]) fun _ _ _ _ _ _ us hl => match us, hl with | [_, _], _ => rfl
  have F17 := fun_mk (st := s_with_one_more) l17 c17 k17
  have b17 := F17.binds (ps := ["rows", "total"]) fun _ _ _ _ _ _ us hl => match us, hl with | [_, _], _ => rfl
  have F18 := fun_mk (st := s_all_placings) l18 c18 k18
  have b18 := F18.binds (ps := ["vertex_count", "total"]) fun _ _ _ _ _ _ us hl => match us, hl with | [_, _], _ => rfl
  have F19 := fun_mk (st := s_solved_placings) l19 c19 k19
  have b19 := F19.binds (ps := ["graph", "total"]) fun _ _ _ _ _ _ us hl => match us, hl with | [_, _], _ => rfl
  have F20 := fun_mk (st := s_count_solvable) l20 c20 k20
  refine ⟨PySem.W.fnOf "count_solvable" "count_solvable" (defArgs s_count_solvable) (defBody s_count_solvable) (defScope s_count_solvable) .none kV20 dc20 pm20 an20 cd20 ct20, fun s us hu => match us, hu with | [_, _, _], _ => .of_eq rfl, fun base _ _ => ?_⟩
  have C0 : Cal P w K mg base 1 "is_vertex_count" ["vertex_count"] sp_is_vertex_count := ⟨_, _, PySem.W.mg_of X G a0, k0, b0, ok_is_vertex_count F0 (PySem.W.mg_of X G v_MOST_VERTICES)⟩
  have C1 : Cal P w K mg base 1 "pairs_of" ["edges"] (sp_pairs_of K) := ⟨_, _, PySem.W.mg_of X G a1, k1, b1, ok_pairs_of F1 nb⟩
  have C2 : Cal P w K mg base 1 "is_edge" ["vertex_count", "pair"] (sp_is_edge K) := ⟨_, _, PySem.W.mg_of X G a2, k2, b2, ok_is_edge F2 ⟩
  have C3 : Cal P w K mg base 1 "is_below" ["one", "other"] (sp_is_below K) := ⟨_, _, PySem.W.mg_of X G a3, k3, b3, ok_is_below F3 ⟩
  have C4 : Cal P w K mg base 2 "are_rising" ["pairs"] sp_are_rising := ⟨_, _, PySem.W.mg_of X G a4, k4, b4, ok_are_rising F4 nb (C3.mono (by decide))⟩
  have C5 : Cal P w K mg base 3 "are_edges" ["vertex_count", "edges"] (sp_are_edges K) := ⟨_, _, PySem.W.mg_of X G a5, k5, b5, ok_are_edges F5 nb (C1.mono (by decide)) (C2.mono (by decide)) (C4.mono (by decide))⟩
  have C6 : Cal P w K mg base 4 "is_graph" ["vertex_count", "edges"] (sp_is_graph K) := ⟨_, _, PySem.W.mg_of X G a6, k6, b6, ok_is_graph F6 (C0.mono (by decide)) (C5.mono (by decide))⟩
  have C7 : Cal P w K mg base 1 "is_counted" ["pebbles"] sp_is_counted := ⟨_, _, PySem.W.mg_of X G a7, k7, b7, ok_is_counted F7 (PySem.W.mg_of X G v_MOST_COUNTED)⟩
  have C8 : Cal P w K mg base 1 "adjacent_to" ["vertex", "pairs"] sp_adjacent_to := ⟨_, _, PySem.W.mg_of X G a8, k8, b8, ok_adjacent_to F8 ⟩
  have C9 : Cal P w K mg base 2 "graph_of" ["vertex_count", "edges"] (sp_graph_of K) := ⟨_, _, PySem.W.mg_of X G a9, k9, b9, ok_graph_of F9 nb (C1.mono (by decide)) (C8.mono (by decide))⟩
  have C10 : Cal P w K mg base 1 "moved" ["placing", "start", "goal"] (sp_moved K) := ⟨_, _, PySem.W.mg_of X G a10, k10, b10, ok_moved F10 nb⟩
  have C11 : Cal P w K mg base 2 "moves_from" ["graph", "placing"] (sp_moves_from K) := ⟨_, _, PySem.W.mg_of X G a11, k11, b11, ok_moves_from F11 nb (C10.mono (by decide))⟩
  have C12 : Cal P w K mg base 3 "behind_one_move" ["graph", "placings"] sp_behind_one_move := ⟨_, _, PySem.W.mg_of X G a12, k12, b12, ok_behind_one_move F12 nb (C11.mono (by decide))⟩
  have C13 : Cal P w K mg base 4 "all_behind" ["graph", "pebbles"] (sp_all_behind K) := ⟨_, _, PySem.W.mg_of X G a13, k13, b13, ok_all_behind F13 nb (C12.mono (by decide))⟩
  have C14 : Cal P w K mg base 1 "has_pebble" ["placings", "vertex"] sp_has_pebble := ⟨_, _, PySem.W.mg_of X G a14, k14, b14, ok_has_pebble F14 nb⟩
  have C15 : Cal P w K mg base 5 "reached_from" ["graph", "pebbles"] (sp_reached_from K) := ⟨_, _, PySem.W.mg_of X G a15, k15, b15, ok_reached_from F15 nb (C13.mono (by decide)) (C14.mono (by decide))⟩
  have C16 : Cal P w K mg base 6 "is_solved" ["graph", "pebbles"] (sp_is_solved K) := ⟨_, _, PySem.W.mg_of X G a16, k16, b16, ok_is_solved F16 (C15.mono (by decide))⟩
  have C17 : Cal P w K mg base 1 "with_one_more" ["rows", "total"] sp_with_one_more := ⟨_, _, PySem.W.mg_of X G a17, k17, b17, ok_with_one_more F17 nb⟩
  have C18 : Cal P w K mg base 2 "all_placings" ["vertex_count", "total"] sp_all_placings := ⟨_, _, PySem.W.mg_of X G a18, k18, b18, ok_all_placings F18 nb (C17.mono (by decide))⟩
  have C19 : Cal P w K mg base 7 "solved_placings" ["graph", "total"] sp_solved_placings := ⟨_, _, PySem.W.mg_of X G a19, k19, b19, ok_solved_placings F19 nb (C18.mono (by decide)) (C16.mono (by decide))⟩
  exact ok_count_solvable F20 nb (PySem.W.mg_of X G v_OUTSIDE) (C6.mono (by decide)) (C7.mono (by decide)) (C9.mono (by decide)) (C19.mono (by decide))
/-! ### the request -/
theorem and2 {a b : Bool} (h : (a && b) = true) : a = true ∧ b = true := by
  rw [Bool.and_eq_true] at h
  exact h
theorem as_nat {z : Int} (h : PySem.W.Codec.inInt 0 4294967295 z = true) : ∃ n : Nat, z = ofN n := by
  have := (PySem.W.Codec.inInt_iff.mp h).1
  exact ⟨z.toNat, by show z = ((z.toNat : Nat) : Int); omega⟩
theorem as_nats : ∀ (l : List Int), l.all (PySem.W.Codec.inInt 0 4294967295) = true → ∃ ns : List Nat, l = ns.map ofN
  | [], _ => ⟨[], rfl⟩
  | z :: r, h => by
    rw [List.all_cons, Bool.and_eq_true] at h
    obtain ⟨n, rfl⟩ := as_nat h.1
    obtain ⟨ns, rfl⟩ := as_nats r h.2
    exact ⟨n :: ns, rfl⟩
theorem list_req {m : Nat} {l : List Int} (h : (PySem.W.Codec.inLen 0 m l && l.all (PySem.W.Codec.inInt 0 4294967295)) = true) : ∃ ns : List Nat, l = ns.map ofN ∧ ns.length ≤ m := by
  rw [Bool.and_eq_true] at h
  obtain ⟨ns, rfl⟩ := as_nats l h.2
  have := (PySem.W.Codec.inNat_iff.mp h.1).2
  rw [List.length_map] at this
  exact ⟨ns, rfl, this⟩
theorem sq_ofN {K : PySem.W.Frag} {H : Hp} {a : Addr} {ns : List Nat} (h : SqL K H a ((ns.map ofN).map V.int)) : SqL K H a (ns.map vn) := by
  rw [List.map_map] at h
  exact h
end Sw
open PySem PySem.W PyProof.Rows
set_option maxRecDepth 100000 in
set_option maxHeartbeats 0 in
theorem PySem.Challenge.cw_stonewalk_s03_count_solvable_holds : PySem.Challenge.rw_stonewalk_s03_count_solvable.Holds := by
  w_on; k_headS; (case hw => exact ⟨[.int 0, .int 0, .list []], by decide +kernel, by decide +kernel⟩)
  k_fillS
  refine L2.walk_specK (r := PySem.Challenge.rw_stonewalk_s03_count_solvable) (k := 8) (CX := L2.CX0) (ps := ["vertex_count", "pebbles", "edges"]) (sp := Sw.sp_count_solvable) (by decide +kernel) rfl rfl ⟨rfl, by decide, by decide⟩ (fun w h Y => PySem.W.kIn_of Y) ?F ?S (fun _ _ _ _ z => z)
  case F =>
    intro w mg fa h Y KX G hmg
    refine' Sw.all_mk KX G hmg ?a0 ?l0 ?c0 ?k0 ?a1 ?l1 ?c1 ?k1 ?a2 ?l2 ?c2 ?k2 ?a3 ?l3 ?c3 ?k3 ?a4 ?l4 ?c4 ?k4 ?a5 ?l5 ?c5 ?k5 ?a6 ?l6 ?c6 ?k6 ?a7 ?l7 ?c7 ?k7 ?a8 ?l8 ?c8 ?k8 ?a9 ?l9 ?c9 ?k9 ?a10 ?l10 ?c10 ?k10 ?a11 ?l11 ?c11 ?k11 ?a12 ?l12 ?c12 ?k12 ?a13 ?l13 ?c13 ?k13 ?a14 ?l14 ?c14 ?k14 ?a15 ?l15 ?c15 ?k15 ?a16 ?l16 ?c16 ?k16 ?a17 ?l17 ?c17 ?k17 ?a18 ?l18 ?c18 ?k18 ?a19 ?l19 ?c19 ?k19 ?a20 ?l20 ?c20 ?k20 ?v_MOST_VERTICES ?v_MOST_COUNTED ?v_OUTSIDE ?z_len ?z_range ?z_all ?z_any ?z_sum ?z_max ?z_list ?z_tuple
    (case a0 => k_is)
    (case l0 => k_is)
    (case c0 => k_is)
    (case k0 => k_is)
    (case a1 => k_is)
    (case l1 => k_is)
    (case c1 => k_is)
    (case k1 => k_is)
    (case a2 => k_is)
    (case l2 => k_is)
    (case c2 => k_is)
    (case k2 => k_is)
    (case a3 => k_is)
    (case l3 => k_is)
    (case c3 => k_is)
    (case k3 => k_is)
    (case a4 => k_is)
    (case l4 => k_is)
    (case c4 => k_is)
    (case k4 => k_is)
    (case a5 => k_is)
    (case l5 => k_is)
    (case c5 => k_is)
    (case k5 => k_is)
    (case a6 => k_is)
    (case l6 => k_is)
    (case c6 => k_is)
    (case k6 => k_is)
    (case a7 => k_is)
    (case l7 => k_is)
    (case c7 => k_is)
    (case k7 => k_is)
    (case a8 => k_is)
    (case l8 => k_is)
    (case c8 => k_is)
    (case k8 => k_is)
    (case a9 => k_is)
    (case l9 => k_is)
    (case c9 => k_is)
    (case k9 => k_is)
    (case a10 => k_is)
    (case l10 => k_is)
    (case c10 => k_is)
    (case k10 => k_is)
    (case a11 => k_is)
    (case l11 => k_is)
    (case c11 => k_is)
    (case k11 => k_is)
    (case a12 => k_is)
    (case l12 => k_is)
    (case c12 => k_is)
    (case k12 => k_is)
    (case a13 => k_is)
    (case l13 => k_is)
    (case c13 => k_is)
    (case k13 => k_is)
    (case a14 => k_is)
    (case l14 => k_is)
    (case c14 => k_is)
    (case k14 => k_is)
    (case a15 => k_is)
    (case l15 => k_is)
    (case c15 => k_is)
    (case k15 => k_is)
    (case a16 => k_is)
    (case l16 => k_is)
    (case c16 => k_is)
    (case k16 => k_is)
    (case a17 => k_is)
    (case l17 => k_is)
    (case c17 => k_is)
    (case k17 => k_is)
    (case a18 => k_is)
    (case l18 => k_is)
    (case c18 => k_is)
    (case k18 => k_is)
    (case a19 => k_is)
    (case l19 => k_is)
    (case c19 => k_is)
    (case k19 => k_is)
    (case a20 => k_is)
    (case l20 => k_is)
    (case c20 => k_is)
    (case k20 => k_is)
    (case v_MOST_VERTICES => k_is)
    (case v_MOST_COUNTED => k_is)
    (case v_OUTSIDE => k_is)
    (case z_len => k_is)
    (case z_range => k_is)
    (case z_all => k_is)
    (case z_any => k_is)
    (case z_sum => k_is)
    (case z_max => k_is)
    (case z_list => k_is)
    (case z_tuple => k_is)
  case S =>
    intro K H xs a hO hwi hask hx
    obtain ⟨n, k, es, u⟩ := a
    cases hx with
    | cons h1 h2 =>
      cases h2 with
      | cons h2 h3 =>
        cases h3 with
        | cons h3 h4 =>
          cases h4
          cases h1
          cases h2
          cases h3 with
          | lst hs ha =>
            have e := L2.ints_dw es _ ha
            subst e
            have q : (Codec.inInt 0 4294967295 n && (Codec.inInt 0 4294967295 k && ((Codec.inLen 0 22 es && es.all (Codec.inInt 0 4294967295)) && true))) = true := hwi
            rw [Bool.and_eq_true, Bool.and_eq_true, Bool.and_eq_true] at q
            obtain ⟨n, rfl⟩ := Sw.as_nat q.1
            obtain ⟨k, rfl⟩ := Sw.as_nat q.2.1
            obtain ⟨es, rfl, hlen⟩ := Sw.list_req q.2.2.1
            exact ⟨n, k, _, es, rfl, Sw.sq_ofN hs, by omega, fun H' p hp => .lst (L2.SqL.of hp) (L2.dw_ints _)⟩
#print axioms PySem.Challenge.cw_stonewalk_s03_count_solvable_holds
