import PyProof.Rows.All
import HandS.ForMost
import HandS.TupAny
import HandS.Zip
import HandS.IsInst
import HandS.Wide
import HandS.Conv
import HandS.Strs
import HandS.Style
import HandS.DictComp
import KE.DatumOrd
import KE.GoesEnum
import HandS.Flow
import PySem.Challenge.RW_fewestrules_k83_whole_any_row
set_option Elab.async false
set_option linter.all false
set_option maxRecDepth 100000
/-! Sort orders in plain Lean: what the program's functions compute. -/
namespace Mi
/-- the least, the greatest -/
def lmin : List Int → Int
  | [] => 0
  | x :: xs => xs.foldl (fun a y => if y < a then y else a) x
def lmax : List Int → Int
  | [] => 0
  | x :: xs => xs.foldl (fun a y => if a < y then y else a) x
abbrev Od (α : Type) := List α × List Int
structure Rl (α : Type) where
  aft : Bool
  anc : α
  str : Int
  let_ : α
section
variable {α : Type} [DecidableEq α]
def rem (o : Od α) (x : α) : Od α :=
  (o.1.take (o.1.idxOf x) ++ o.1.drop (o.1.idxOf x + 1),
   if o.1.idxOf x = 0 then o.2.drop 1 else if o.1.idxOf x + 1 = o.1.length then o.2.dropLast
   else o.2.take (o.1.idxOf x - 1) ++ [min (o.2.getD (o.1.idxOf x - 1) 0) (o.2.getD (o.1.idxOf x) 0)] ++ o.2.drop (o.1.idxOf x + 1))
def rev (o : Od α) : Od α := (o.1.reverse, o.2.reverse)
/-- how far a rule passes -/
def goes (ss : List Int) (s : Int) (at_ : Nat) : Nat := ((ss.drop at_).takeWhile (fun t => decide (s < t))).length
def putA (o : Od α) (a : α) (s : Int) (y : α) : Od α :=
  (o.1.take (o.1.idxOf a + goes o.2 s (o.1.idxOf a) + 1) ++ [y] ++ o.1.drop (o.1.idxOf a + goes o.2 s (o.1.idxOf a) + 1),
   o.2.take (o.1.idxOf a + goes o.2 s (o.1.idxOf a)) ++ [s] ++ o.2.drop (o.1.idxOf a + goes o.2 s (o.1.idxOf a)))
def put (o : Od α) (r : Rl α) : Od α :=
  let o1 := if r.let_ ∈ o.1 then rem o r.let_ else o
  if r.aft then putA o1 r.anc r.str r.let_ else rev (putA (rev o1) r.anc r.str r.let_)
/-- the least between two places -/
def lb (o : Od α) (lo hi : Nat) : Int := lmin ((o.2.drop lo).take (hi - lo))
/-- the letter at a place -/
def at_ (d : α) (l : List α) (i : Nat) : α := l.getD i d
/-- the letter at j of the second order can follow that at i -/
def foll (f s : Od α) (i j : Nat) : Bool := match s.1[i]?, s.1[j]? with
  | some x, some y => decide (f.1.idxOf x ≤ f.1.idxOf y) && decide (lb f (f.1.idxOf x) (f.1.idxOf y) = lb s i j)
  | _, _ => false
def link (f s : Od α) (i : Nat) : List Nat := ((List.range (s.1.length - (i + 1))).map (fun k => i + 1 + k)).filter (fun j => foll f s i j)
end
end Mi
/-! least and greatest -/
namespace Mi
theorem lmin_go : ∀ (xs : List Int) (x : Int), (xs.foldl (fun a y => if y < a then y else a) x ∈ x :: xs) ∧ ∀ y ∈ x :: xs, xs.foldl (fun a y => if y < a then y else a) x ≤ y
  | [], x => by simp
  | z :: xs, x => by
    have ih := lmin_go xs (if z < x then z else x)
    rw [List.foldl_cons]
    refine ⟨?_, fun y hy => ?_⟩
    · rcases List.mem_cons.mp ih.1 with e | e
      · rw [e]
        by_cases h : z < x <;> simp [h]
      · simp [e]
    · have h0 := ih.2 (if z < x then z else x) (by simp)
      rcases List.mem_cons.mp hy with e | e
      · subst e
        by_cases h : z < y <;> simp [h] at h0 ⊢ <;> omega
      · rcases List.mem_cons.mp e with e | e
        · subst e
          by_cases h : y < x <;> simp [h] at h0 ⊢ <;> omega
        · exact ih.2 y (by simp [e])
theorem lmax_go : ∀ (xs : List Int) (x : Int), (xs.foldl (fun a y => if a < y then y else a) x ∈ x :: xs) ∧ ∀ y ∈ x :: xs, y ≤ xs.foldl (fun a y => if a < y then y else a) x
  | [], x => by simp
  | z :: xs, x => by
    have ih := lmax_go xs (if x < z then z else x)
    rw [List.foldl_cons]
    refine ⟨?_, fun y hy => ?_⟩
    · rcases List.mem_cons.mp ih.1 with e | e
      · rw [e]
        by_cases h : x < z <;> simp [h]
      · simp [e]
    · have h0 := ih.2 (if x < z then z else x) (by simp)
      rcases List.mem_cons.mp hy with e | e
      · subst e
        by_cases h : y < z <;> simp [h] at h0 ⊢ <;> omega
      · rcases List.mem_cons.mp e with e | e
        · subst e
          by_cases h : x < y <;> simp [h] at h0 ⊢ <;> omega
        · exact ih.2 y (by simp [e])
theorem lmin_mem {ns : List Int} (h : ns ≠ []) : lmin ns ∈ ns := by
  cases ns with
  | nil => exact absurd rfl h
  | cons x xs => exact (lmin_go xs x).1
theorem lmin_le {ns : List Int} {y : Int} (h : y ∈ ns) : lmin ns ≤ y := by
  cases ns with
  | nil => cases h
  | cons x xs => exact (lmin_go xs x).2 y h
theorem lmin_eq {ns : List Int} {m : Int} (h : m ∈ ns) (hl : ∀ y ∈ ns, m ≤ y) : lmin ns = m := by
  have h1 := lmin_le h
  have h2 := hl _ (lmin_mem (List.ne_nil_of_mem h))
  omega
theorem lmax_mem {ns : List Int} (h : ns ≠ []) : lmax ns ∈ ns := by
  cases ns with
  | nil => exact absurd rfl h
  | cons x xs => exact (lmax_go xs x).1
theorem le_lmax {ns : List Int} {y : Int} (h : y ∈ ns) : y ≤ lmax ns := by
  cases ns with
  | nil => cases h
  | cons x xs => exact (lmax_go xs x).2 y h
theorem lmax_eq {ns : List Int} {m : Int} (h : m ∈ ns) (hl : ∀ y ∈ ns, y ≤ m) : lmax ns = m := by
  have h1 := le_lmax h
  have h2 := hl _ (lmax_mem (List.ne_nil_of_mem h))
  omega
end Mi
/-! What the loops over the common letters compute. -/
namespace Mi
section
variable {α : Type} [DecidableEq α]
/-- the list after turn i of lengths -/
def lenStep (lk : Nat → List Nat) (acc : List Int) (i : Nat) : List Int := acc.set i (1 + lmax (0 :: (lk i).map fun j => acc.getD j 0))
def lensN (lk : Nat → List Nat) (n k : Nat) : List Int := (List.range k).foldl (fun acc t => lenStep lk acc (n - 1 - t)) (List.replicate n 1)
def lens (lk : Nat → List Nat) (n : Nat) : List Int := lensN lk n n
/-- .. of levels -/
def levIn (i : Nat) (acc : List Int) (js : List Nat) : List Int := js.foldl (fun a j => a.set j (max (a.getD j 0) (a.getD i 0 + 1))) acc
def levsN (lk : Nat → List Nat) (n k : Nat) : List Int := (List.range k).foldl (fun acc i => levIn i acc (lk i)) (List.replicate n 1)
def levs (lk : Nat → List Nat) (n : Nat) : List Int := levsN lk n n
theorem lensN_succ (lk : Nat → List Nat) (n k : Nat) : lensN lk n (k + 1) = lenStep lk (lensN lk n k) (n - 1 - k) := by
  unfold lensN
  rw [List.range_succ, List.foldl_append]
  rfl
theorem levsN_succ (lk : Nat → List Nat) (n k : Nat) : levsN lk n (k + 1) = levIn k (levsN lk n k) (lk k) := by
  unfold levsN
  rw [List.range_succ, List.foldl_append]
  rfl
theorem lensN_len (lk : Nat → List Nat) (n k : Nat) : (lensN lk n k).length = n := by
  induction k with
  | zero => simp [lensN]
  | succ k ih => rw [lensN_succ, lenStep, List.length_set, ih]
theorem levIn_len (i : Nat) (js : List Nat) : ∀ acc, (levIn i acc js).length = acc.length := by
  induction js with
  | nil => intro _; rfl
  | cons j js ih =>
    intro acc
    show (levIn i (acc.set j _) js).length = _
    rw [ih, List.length_set]
theorem levIn_snoc (i : Nat) (acc : List Int) (js : List Nat) (j : Nat) : levIn i acc (js ++ [j]) = (levIn i acc js).set j (max ((levIn i acc js).getD j 0) ((levIn i acc js).getD i 0 + 1)) := by
  unfold levIn
  rw [List.foldl_append]
  rfl
theorem levsN_len (lk : Nat → List Nat) (n k : Nat) : (levsN lk n k).length = n := by
  induction k with
  | zero => simp [levsN]
  | succ k ih => rw [levsN_succ, levIn_len, ih]
/-- the least among those with that length -/
def pick (ls : List Int) (ch : List Nat) (l : Int) : Nat := (lmin ((ch.filter fun j => decide (ls.getD j 0 = l)).map fun (j : Nat) => (j : Int))).toNat
/-- what was found, what is left to choose from -/
def walkN (lk : Nat → List Nat) (n : Nat) : Nat → List Nat × List Nat
  | 0 => ([], List.range n)
  | t + 1 => ((walkN lk n t).1 ++ [pick (lens lk n) (walkN lk n t).2 (lmax (0 :: lens lk n) - (t : Nat))], lk (pick (lens lk n) (walkN lk n t).2 (lmax (0 :: lens lk n) - (t : Nat))))
/-- the longest common list, by places -/
def best (lk : Nat → List Nat) (n : Nat) : List Nat := (walkN lk n (lmax (0 :: lens lk n)).toNat).1
end
end Mi
/-! Lengths, levels, the longest common list: what holds of them. -/
namespace Mi
theorem getD_set (l : List Int) (i j : Nat) (v : Int) : (l.set i v).getD j 0 = if i = j ∧ j < l.length then v else l.getD j 0 := by
  rw [List.getD_eq_getElem?_getD, List.getD_eq_getElem?_getD, List.getElem?_set]
  by_cases h : i = j
  · subst h
    by_cases h2 : i < l.length
    · simp [h2]
    · simp [h2]
  · simp [h]
section
variable {lk : Nat → List Nat} {n : Nat}
structure Lk (lk : Nat → List Nat) (n : Nat) : Prop where
  lt : ∀ i j, j ∈ lk i → i < j ∧ j < n
theorem lensN_keep (hk : Lk lk n) (k : Nat) (hkn : k ≤ n) : ∀ i, n - k ≤ i → i < n → (lensN lk n k).getD i 0 = 1 + lmax (0 :: (lk i).map fun j => (lensN lk n k).getD j 0) := by
  induction k with
  | zero => intro i h1 h2; omega
  | succ k ih =>
    intro i h1 h2
    have hl := lensN_len lk n k
    rw [lensN_succ]
    have same : ∀ j, n - 1 - k < j → (lenStep lk (lensN lk n k) (n - 1 - k)).getD j 0 = (lensN lk n k).getD j 0 := fun j hj => by
      unfold lenStep
      rw [getD_set, if_neg (by omega)]
    have ems : ∀ i, n - 1 - k ≤ i → ((lk i).map fun j => (lenStep lk (lensN lk n k) (n - 1 - k)).getD j 0) = ((lk i).map fun j => (lensN lk n k).getD j 0) := fun i hi =>
      List.map_congr_left fun j hj => same j (by have := (hk.lt i j hj).1; omega)
    rw [ems i (by omega)]
    by_cases e : i = n - 1 - k
    · subst e
      unfold lenStep
      rw [getD_set, if_pos ⟨rfl, by omega⟩]
    · rw [same i (by omega)]
      exact ih (by omega) i (by omega) h2
theorem lens_rec (hk : Lk lk n) {i : Nat} (hi : i < n) : (lens lk n).getD i 0 = 1 + lmax (0 :: (lk i).map fun j => (lens lk n).getD j 0) := lensN_keep hk n (Nat.le_refl _) i (by omega) hi
theorem lens_len : (lens lk n).length = n := lensN_len lk n n
theorem lens_pos (hk : Lk lk n) {i : Nat} (hi : i < n) : 1 ≤ (lens lk n).getD i 0 := by
  rw [lens_rec hk hi]
  have : (0 : Int) ≤ lmax (0 :: (lk i).map fun j => (lens lk n).getD j 0) := le_lmax (by simp)
  omega
theorem lens_next (hk : Lk lk n) {i j : Nat} (hi : i < n) (hj : j ∈ lk i) : (lens lk n).getD j 0 + 1 ≤ (lens lk n).getD i 0 := by
  rw [lens_rec hk hi]
  have : (lens lk n).getD j 0 ≤ lmax (0 :: (lk i).map fun j => (lens lk n).getD j 0) := le_lmax (List.mem_cons_of_mem _ (List.mem_map_of_mem (f := fun j => (lens lk n).getD j 0) hj))
  omega
theorem lens_down (hk : Lk lk n) {i : Nat} (hi : i < n) (h : 1 < (lens lk n).getD i 0) : ∃ j ∈ lk i, (lens lk n).getD j 0 = (lens lk n).getD i 0 - 1 := by
  have e := lens_rec hk hi
  have m := lmax_mem (ns := 0 :: (lk i).map fun j => (lens lk n).getD j 0) (by simp)
  rcases List.mem_cons.mp m with z | z
  · omega
  · obtain ⟨j, hj, e2⟩ := List.mem_map.mp z
    exact ⟨j, hj, by omega⟩
/-- the greatest length -/
def top (lk : Nat → List Nat) (n : Nat) : Int := lmax (0 :: lens lk n)
theorem top_ge {i : Nat} (hi : i < n) : (lens lk n).getD i 0 ≤ top lk n := by
  refine le_lmax (List.mem_cons_of_mem _ ?_)
  have hl : i < (lens lk n).length := by rw [lens_len]; exact hi
  rw [List.getD_eq_getElem?_getD, List.getElem?_eq_getElem hl]
  exact List.getElem_mem hl
theorem top_at (hk : Lk lk n) (hn : 0 < n) : ∃ i < n, (lens lk n).getD i 0 = top lk n := by
  have m := lmax_mem (ns := 0 :: lens lk n) (by simp)
  rcases List.mem_cons.mp m with z | z
  · have h1 := lens_pos hk hn
    have h2 := top_ge (lk := lk) hn
    unfold top at h2
    omega
  · obtain ⟨i, hi, e⟩ := List.mem_iff_getElem.mp z
    rw [lens_len] at hi
    refine ⟨i, hi, ?_⟩
    rw [List.getD_eq_getElem?_getD, List.getElem?_eq_getElem (by rw [lens_len]; exact hi)]
    exact e
theorem top_pos (hk : Lk lk n) (hn : 0 < n) : 1 ≤ top lk n := Int.le_trans (lens_pos hk hn) (top_ge hn)
theorem pick_ok {ls : List Int} {ch : List Nat} {l : Int} (h : ∃ j ∈ ch, ls.getD j 0 = l) : pick ls ch l ∈ ch ∧ ls.getD (pick ls ch l) 0 = l ∧ ((ch.filter fun j => decide (ls.getD j 0 = l)).map fun (j : Nat) => (j : Int)) ≠ [] ∧ lmin ((ch.filter fun j => decide (ls.getD j 0 = l)).map fun (j : Nat) => (j : Int)) = ((pick ls ch l : Nat) : Int) := by
  obtain ⟨j, hj, e⟩ := h
  have m : j ∈ ch.filter fun j => decide (ls.getD j 0 = l) := List.mem_filter.mpr ⟨hj, decide_eq_true e⟩
  have hne : ((ch.filter fun j => decide (ls.getD j 0 = l)).map fun (j : Nat) => (j : Int)) ≠ [] := List.ne_nil_of_mem (List.mem_map_of_mem m)
  obtain ⟨p, hp, ep⟩ := List.mem_map.mp (lmin_mem hne)
  have e3 : pick ls ch l = p := by
    unfold pick
    rw [← ep]
    rfl
  obtain ⟨hp1, hp2⟩ := List.mem_filter.mp hp
  rw [e3]
  exact ⟨hp1, by simpa using hp2, hne, ep.symm⟩
theorem walkN_ok (hk : Lk lk n) (hn : 0 < n) (t : Nat) (ht : (t : Int) < top lk n) : (∃ j ∈ (walkN lk n t).2, (lens lk n).getD j 0 = top lk n - (t : Nat)) ∧ ∀ j ∈ (walkN lk n t).2, j < n := by
  induction t with
  | zero =>
    obtain ⟨i, hi, e⟩ := top_at hk hn
    exact ⟨⟨i, List.mem_range.mpr hi, by rw [e]; simp⟩, fun j hj => List.mem_range.mp hj⟩
  | succ t ih =>
    obtain ⟨h1, h2⟩ := ih (by omega)
    obtain ⟨p1, p2, _⟩ := pick_ok h1
    have hp := h2 _ p1
    have hp' := hp
    refine ⟨?_, fun j hj => (hk.lt _ j hj).2⟩
    obtain ⟨j, hj, e⟩ := lens_down hk hp (by omega)
    exact ⟨j, hj, by omega⟩
/-- each follows the one ahead of it -/
def Chain (lk : Nat → List Nat) : List Nat → Prop
  | [] => True
  | [_] => True
  | i :: j :: r => j ∈ lk i ∧ Chain lk (j :: r)
theorem chain_snoc : ∀ {c : List Nat} {i j : Nat}, Chain lk (c ++ [i]) → j ∈ lk i → Chain lk (c ++ [i] ++ [j])
  | [], i, j, _, h => ⟨h, trivial⟩
  | [a], i, j, h, h2 => ⟨h.1, h2, trivial⟩
  | a :: b :: r, i, j, h, h2 => ⟨h.1, chain_snoc (c := b :: r) h.2 h2⟩
theorem walkN_chain (hk : Lk lk n) (hn : 0 < n) (t : Nat) (ht : (t : Int) < top lk n) : Chain lk ((walkN lk n t).1 ++ [pick (lens lk n) (walkN lk n t).2 (top lk n - (t : Nat))]) := by
  induction t with
  | zero => trivial
  | succ t ih =>
    have c := ih (by omega)
    obtain ⟨h1, h2⟩ := walkN_ok hk hn (t + 1) ht
    obtain ⟨p1, p2, _⟩ := pick_ok h1
    exact chain_snoc c p1
theorem walkN_all (hk : Lk lk n) (hn : 0 < n) (t : Nat) (ht : (t : Int) ≤ top lk n) : (∀ j ∈ (walkN lk n t).1, j < n) ∧ (walkN lk n t).1.length = t := by
  induction t with
  | zero => exact ⟨fun j hj => by simp [walkN] at hj, rfl⟩
  | succ t ih =>
    obtain ⟨a, b⟩ := ih (by omega)
    obtain ⟨h1, h2⟩ := walkN_ok hk hn t (by omega)
    obtain ⟨p1, _⟩ := pick_ok h1
    refine ⟨fun j hj => ?_, ?_⟩
    · have e : (walkN lk n (t + 1)).1 = (walkN lk n t).1 ++ [pick (lens lk n) (walkN lk n t).2 (top lk n - (t : Nat))] := rfl
      rw [e] at hj
      rcases List.mem_append.mp hj with z | z
      · exact a j z
      · rw [List.mem_singleton.mp z]
        exact h2 _ p1
    · show ((walkN lk n t).1 ++ [_]).length = t + 1
      simp [b]
/-- a chain has at most so many -/
theorem chain_le (hk : Lk lk n) : ∀ {c : List Nat} {i : Nat}, Chain lk (i :: c) → (∀ j ∈ i :: c, j < n) → ((i :: c).length : Int) ≤ (lens lk n).getD i 0
  | [], i, _, h => by
    have := lens_pos hk (h i (by simp))
    simpa using this
  | j :: c, i, hc, h => by
    have h1 := chain_le hk hc.2 (fun x hx => h x (by simp [List.mem_cons.mp hx]))
    have h2 := lens_next hk (h i (by simp)) hc.1
    simp only [List.length_cons] at h1 ⊢
    omega
theorem chain_top (hk : Lk lk n) {c : List Nat} (hc : Chain lk c) (h : ∀ j ∈ c, j < n) : (c.length : Int) ≤ top lk n := by
  cases c with
  | nil => exact le_lmax (by simp)
  | cons i c => exact Int.le_trans (chain_le hk hc h) (top_ge (h i (by simp)))
/-- the longest common list -/
theorem best_ok (hk : Lk lk n) (hn : 0 < n) : Chain lk (best lk n) ∧ (∀ j ∈ best lk n, j < n) ∧ ((best lk n).length : Int) = top lk n := by
  have h1 := top_pos hk hn
  obtain ⟨t, ht⟩ : ∃ t : Nat, (top lk n).toNat = t + 1 := ⟨(top lk n).toNat - 1, by omega⟩
  have e : best lk n = (walkN lk n (t + 1)).1 := by
    unfold best
    show (walkN lk n (top lk n).toNat).1 = _
    rw [ht]
  obtain ⟨a, b⟩ := walkN_all hk hn (t + 1) (by omega)
  rw [e]
  refine ⟨walkN_chain hk hn t (by omega), a, ?_⟩
  rw [b]
  omega
/-! ### levels -/
theorem levIn_get (hk : Lk lk n) (i : Nat) : ∀ (js : List Nat) (acc : List Int), acc.length = n → (∀ j ∈ js, i < j ∧ j < n) → ∀ k, (levIn i acc js).getD k 0 = if k ∈ js then max (acc.getD k 0) (acc.getD i 0 + 1) else acc.getD k 0
  | [], acc, _, _, k => by simp [levIn]
  | j :: js, acc, ha, h, k => by
    have hj := h j (by simp)
    have ih := levIn_get hk i js (acc.set j (max (acc.getD j 0) (acc.getD i 0 + 1))) (by rw [List.length_set, ha]) (fun x hx => h x (by simp [hx])) k
    have es := fun m => getD_set acc j m (max (acc.getD j 0) (acc.getD i 0 + 1))
    show (levIn i (acc.set j _) js).getD k 0 = _
    rw [ih, es k, es i, if_neg (c := j = i ∧ _) (fun z => by have := z.1; omega)]
    by_cases e : j = k
    · subst e
      rw [if_pos (c := j = j ∧ _) ⟨rfl, by omega⟩, if_pos (c := j ∈ j :: js) (by simp)]
      split <;> omega
    · rw [if_neg (c := j = k ∧ _) (fun z => e z.1)]
      have e' : ¬ k = j := fun z => e z.symm
      simp only [List.mem_cons, e', false_or]
/-- what the turns ahead of i have told -/
theorem levsN_get (hk : Lk lk n) (k : Nat) : (∀ i, i < n → 1 ≤ (levsN lk n k).getD i 0) ∧ (∀ i j, i < k → j ∈ lk i → (levsN lk n k).getD i 0 + 1 ≤ (levsN lk n k).getD j 0) := by
  induction k with
  | zero =>
    refine ⟨fun i hi => ?_, fun i j h => by omega⟩
    show (1 : Int) ≤ (List.replicate n (1 : Int)).getD i 0
    rw [List.getD_eq_getElem?_getD, List.getElem?_replicate, if_pos hi]
    exact Int.le_refl _
  | succ k ih =>
    obtain ⟨h1, h2⟩ := ih
    have hl := levsN_len lk n k
    have g := levIn_get hk k (lk k) (levsN lk n k) hl (fun j hj => hk.lt k j hj)
    rw [levsN_succ]
    refine ⟨fun i hi => ?_, fun i j hik hj => ?_⟩
    · rw [g]
      have := h1 i hi
      split <;> omega
    · have hij := hk.lt i j hj
      have e1 : (levIn k (levsN lk n k) (lk k)).getD i 0 = (levsN lk n k).getD i 0 := by
        rw [g, if_neg]
        intro z
        have := hk.lt k i z
        omega
      rw [e1, g]
      by_cases e : i = k
      · subst e
        rw [if_pos hj]
        omega
      · have := h2 i j (by omega) hj
        split <;> omega
/-- levels count down to the front -/
theorem levsN_back (hk : Lk lk n) (k : Nat) (hkn : k ≤ n) : ∀ j, j < n → (levsN lk n k).getD j 0 = 1 ∨ ∃ i, i < k ∧ j ∈ lk i ∧ (levsN lk n k).getD j 0 = (levsN lk n k).getD i 0 + 1 := by
  induction k with
  | zero =>
    intro j hj
    left
    show (List.replicate n (1 : Int)).getD j 0 = 1
    rw [List.getD_eq_getElem?_getD, List.getElem?_replicate, if_pos hj]
    rfl
  | succ k ih =>
    intro j hj
    have hl := levsN_len lk n k
    have g := levIn_get hk k (lk k) (levsN lk n k) hl (fun j hj => hk.lt k j hj)
    rw [levsN_succ]
    have same : ∀ i, i ≤ k → (levIn k (levsN lk n k) (lk k)).getD i 0 = (levsN lk n k).getD i 0 := fun i hi => by
      rw [g, if_neg]
      intro z
      have := hk.lt k i z
      omega
    by_cases m : j ∈ lk k ∧ (levsN lk n k).getD j 0 < (levsN lk n k).getD k 0 + 1
    · right
      refine ⟨k, by omega, m.1, ?_⟩
      rw [same k (Nat.le_refl _), g, if_pos m.1]
      omega
    · have e : (levIn k (levsN lk n k) (lk k)).getD j 0 = (levsN lk n k).getD j 0 := by
        rw [g]
        by_cases m1 : j ∈ lk k
        · rw [if_pos m1]
          have : ¬ (levsN lk n k).getD j 0 < (levsN lk n k).getD k 0 + 1 := fun z => m ⟨m1, z⟩
          omega
        · rw [if_neg m1]
      rcases ih (by omega) j hj with z | ⟨i, hi, hj2, z⟩
      · left
        rw [e, z]
      · right
        exact ⟨i, by omega, hj2, by rw [e, same i (by omega), z]⟩
theorem levs_len : (levs lk n).length = n := levsN_len lk n n
/-- no level is above the greatest length -/
theorem levs_le (hk : Lk lk n) : ∀ (m : Nat) (j : Nat), j < n → (levs lk n).getD j 0 ≤ (m : Int) → (levs lk n).getD j 0 + (lens lk n).getD j 0 ≤ top lk n + 1
  | 0, j, hj, h => by
    have := (levsN_get hk n).1 j hj
    unfold levs at h
    omega
  | m + 1, j, hj, h => by
    rcases levsN_back hk n (Nat.le_refl _) j hj with z | ⟨i, hi, hj2, z⟩
    · have := top_ge (lk := lk) hj
      unfold levs
      omega
    · have hin : i < n := hi
      have ih := levs_le hk m i hin (by unfold levs at h ⊢; omega)
      have := lens_next hk hin hj2
      unfold levs at ih ⊢
      omega
theorem levs_top (hk : Lk lk n) {j : Nat} (hj : j < n) : (levs lk n).getD j 0 ≤ top lk n := by
  have h1 := (levsN_get hk n).1 j hj
  have h2 := levs_le hk ((levs lk n).getD j 0).toNat j hj (by unfold levs; omega)
  have h3 := lens_pos hk hj
  omega
end
/-- right levels are at least the length of a chain -/
theorem chain_levels {lk : Nat → List Nat} {ls : List Int} (h1 : ∀ i j, j ∈ lk i → ls.getD i 0 + 1 ≤ ls.getD j 0) : ∀ {c : List Nat} {i : Nat}, Chain lk (i :: c) → 1 ≤ ls.getD i 0 → ∃ j ∈ i :: c, ((i :: c).length : Int) + ls.getD i 0 ≤ ls.getD j 0 + 1
  | [], i, _, h => ⟨i, by simp, by simp; omega⟩
  | j :: c, i, hc, h => by
    have h2 := h1 i j hc.1
    obtain ⟨k, hk, e⟩ := chain_levels h1 hc.2 (by omega)
    refine ⟨k, List.mem_cons_of_mem _ hk, ?_⟩
    simp only [List.length_cons] at e ⊢
    omega
end Mi
/-! The rules of keeping, as lists. -/
namespace Mi
theorem tw_get {p : Int → Bool} : ∀ (l : List Int) (i : Nat), i ≤ (l.takeWhile p).length → (decide (i < l.length) && p (l.getD i 0)) = decide (i < (l.takeWhile p).length)
  | [], i, h => by simp
  | x :: l, i, h => by
    cases hx : p x with
    | false =>
      rw [List.takeWhile_cons, hx] at h ⊢
      simp only [Bool.false_eq_true, if_false, List.length_nil, Nat.le_zero] at h ⊢
      subst h
      simp [hx]
    | true =>
      rw [List.takeWhile_cons, hx] at h ⊢
      simp only [if_true, List.length_cons] at h ⊢
      cases i with
      | zero => simp [hx]
      | succ i =>
        have ih := tw_get (p := p) l i (by omega)
        have e : (x :: l).getD (i + 1) 0 = l.getD i 0 := by simp
        rw [e]
        have e1 : decide (i + 1 < l.length + 1) = decide (i < l.length) := decide_eq_decide.mpr (by omega)
        have e2 : decide (i + 1 < (l.takeWhile p).length + 1) = decide (i < (l.takeWhile p).length) := decide_eq_decide.mpr (by omega)
        rw [e1, e2, ih]
theorem drop_getD (l : List Int) (a i : Nat) : (l.drop a).getD i 0 = l.getD (a + i) 0 := by
  rw [List.getD_eq_getElem?_getD, List.getD_eq_getElem?_getD, List.getElem?_drop]
theorem goes_get {ss : List Int} {s : Int} {a : Nat} (ha : a ≤ ss.length) (i : Nat) (hi : i ≤ goes ss s a) : (decide (a + i < ss.length) && decide (s < ss.getD (a + i) 0)) = decide (i < goes ss s a) := by
  have h := tw_get (p := fun t => decide (s < t)) (ss.drop a) i hi
  rw [drop_getD] at h
  have e : decide (i < (ss.drop a).length) = decide (a + i < ss.length) := decide_eq_decide.mpr (by rw [List.length_drop]; omega)
  rw [e] at h
  exact h
theorem goes_le {ss : List Int} {s : Int} {a : Nat} : goes ss s a ≤ ss.length - a := by
  unfold goes
  refine Nat.le_trans (List.takeWhile_prefix _).length_le ?_
  rw [List.length_drop]
  exact Nat.le_refl _
section
variable {α : Type} [DecidableEq α] [Inhabited α]
def fromLeft (s : Od α) (lo hi : Nat) : List (Rl α) := (List.range (hi - lo)).map fun k => ⟨true, s.1.getD (lo + k - 1) default, s.2.getD (lo + k - 1) 0, s.1.getD (lo + k) default⟩
def fromRight (s : Od α) (lo hi : Nat) : List (Rl α) := (List.range (hi - lo)).map fun k => ⟨false, s.1.getD (hi - 1 - k + 1) default, s.2.getD (hi - 1 - k) 0, s.1.getD (hi - 1 - k) default⟩
/-- where a gap is cut -/
def cutAt (s : Od α) (lo hi : Nat) : Nat := lo + ((s.2.drop lo).take (hi - lo)).idxOf (lb s lo hi)
def gapR (s : Od α) (lo hi : Nat) : List (Rl α) := fromLeft s (lo + 1) (cutAt s lo hi + 1) ++ fromRight s (cutAt s lo hi + 1) hi
def gaps (s : Od α) (ps : List (Nat × Nat)) : List (Rl α) := ps.flatMap fun p => gapR s p.1 p.2
def keepR (s : Od α) (ps : List Nat) : List (Rl α) := fromRight s 0 (ps.headD 0) ++ gaps s (ps.zip (ps.drop 1)) ++ fromLeft s (ps.getLastD 0 + 1) s.1.length
theorem gapR_len (s : Od α) {lo hi n : Nat} (h : hi ≤ n) (hc : cutAt s lo hi + 1 ≤ n) : (gapR s lo hi).length ≤ 2 * n := by
  unfold gapR fromLeft fromRight
  simp only [List.length_append, List.length_map, List.length_range]
  omega
theorem cutAt_ok {s : Od α} {lo hi : Nat} (h : lo < hi) (h' : hi ≤ s.2.length) : lo ≤ cutAt s lo hi ∧ cutAt s lo hi < hi ∧ lb s lo hi ∈ (s.2.drop lo).take (hi - lo) := by
  have hne : (s.2.drop lo).take (hi - lo) ≠ [] := fun z => by
    have := congrArg List.length z
    rw [List.length_take, List.length_drop] at this
    simp at this
    omega
  have m : lb s lo hi ∈ (s.2.drop lo).take (hi - lo) := lmin_mem hne
  have hl := List.idxOf_lt_length_of_mem m
  rw [List.length_take] at hl
  unfold cutAt
  exact ⟨by omega, by omega, m⟩
end
end Mi
/-! Orders by places: the least between two places, a letter removed, an order turned around. -/
namespace Mi
/-- m is the least of T from i to ahead of j -/
structure IsLb (T : Nat → Int) (i j : Nat) (m : Int) : Prop where
  le : ∀ k, i ≤ k → k < j → m ≤ T k
  at_ : ∃ k, i ≤ k ∧ k < j ∧ T k = m
theorem IsLb.uniq {T : Nat → Int} {i j : Nat} {m m' : Int} (a : IsLb T i j m) (b : IsLb T i j m') : m = m' := by
  obtain ⟨k, h1, h2, h3⟩ := a.at_
  obtain ⟨k', g1, g2, g3⟩ := b.at_
  have e1 := a.le k' g1 g2
  have e2 := b.le k h1 h2
  omega
theorem IsLb.cat {T : Nat → Int} {i j k : Nat} {m m' : Int} (a : IsLb T i j m) (b : IsLb T j k m') : IsLb T i k (min m m') := by
  obtain ⟨p, h1, h2, h3⟩ := a.at_
  obtain ⟨q, g1, g2, g3⟩ := b.at_
  refine ⟨fun r hr hk => ?_, ?_⟩
  · by_cases h : r < j
    · have := a.le r hr h
      omega
    · have := b.le r (by omega) hk
      omega
  · by_cases h : m ≤ m'
    · exact ⟨p, h1, by omega, by omega⟩
    · exact ⟨q, by omega, g2, by omega⟩
theorem mem_mid {l : List Int} {i j : Nat} {x : Int} : x ∈ (l.drop i).take (j - i) ↔ ∃ k, i ≤ k ∧ k < j ∧ k < l.length ∧ l.getD k 0 = x := by
  rw [List.mem_take_iff_getElem]
  constructor
  · rintro ⟨k, hk, e⟩
    rw [List.length_drop] at hk
    rw [List.getElem_drop] at e
    refine ⟨i + k, by omega, by omega, by omega, ?_⟩
    rw [List.getD_eq_getElem?_getD, List.getElem?_eq_getElem (by omega)]
    exact e
  · rintro ⟨k, h1, h2, h3, e⟩
    refine ⟨k - i, by rw [List.length_drop]; omega, ?_⟩
    rw [List.getD_eq_getElem?_getD, List.getElem?_eq_getElem h3, Option.getD_some] at e
    rw [List.getElem_drop, ← e]
    congr 1
    omega
section
variable {α : Type} [DecidableEq α] [Inhabited α] {o : Od α}
abbrev T (o : Od α) (k : Nat) : Int := o.2.getD k 0
abbrev L (o : Od α) (k : Nat) : α := o.1.getD k default
structure Wf (o : Od α) : Prop where
  nd : o.1.Nodup
  ln : o.2.length + 1 = o.1.length
theorem lb_is {i j : Nat} (h : i < j) (hj : j ≤ o.2.length) : IsLb (T o) i j (lb o i j) := by
  have hne : (o.2.drop i).take (j - i) ≠ [] := fun z => by
    have := congrArg List.length z
    rw [List.length_take, List.length_drop] at this
    simp at this
    omega
  refine ⟨fun k h1 h2 => lmin_le (mem_mid.mpr ⟨k, h1, h2, by omega, rfl⟩), ?_⟩
  obtain ⟨k, h1, h2, _, h4⟩ := mem_mid.mp (lmin_mem hne)
  exact ⟨k, h1, h2, h4⟩
theorem lb_eq_of {i j : Nat} {m : Int} (h : i < j) (hj : j ≤ o.2.length) (a : IsLb (T o) i j m) : lb o i j = m := (lb_is h hj).uniq a
theorem lb_one {i : Nat} (hj : i < o.2.length) : lb o i (i + 1) = T o i := lb_eq_of (by omega) (by omega) ⟨fun k h1 h2 => by rw [show k = i by omega]; exact Int.le_refl _, ⟨i, by omega, by omega, rfl⟩⟩
theorem lb_cat {i j k : Nat} (h : i < j) (h' : j < k) (hk : k ≤ o.2.length) : lb o i k = min (lb o i j) (lb o j k) := lb_eq_of (by omega) hk ((lb_is h (by omega)).cat (lb_is h' hk))
/-! ### letters and places -/
theorem L_mem {i : Nat} (h : i < o.1.length) : L o i ∈ o.1 := by
  unfold L
  rw [List.getD_eq_getElem?_getD, List.getElem?_eq_getElem h, Option.getD_some]
  exact List.getElem_mem h
theorem L_eq {i : Nat} (h : i < o.1.length) : L o i = o.1[i] := by
  unfold L
  rw [List.getD_eq_getElem?_getD, List.getElem?_eq_getElem h, Option.getD_some]
theorem ix_L (v : o.1.Nodup) {i : Nat} (h : i < o.1.length) : o.1.idxOf (L o i) = i := by
  rw [L_eq h]
  exact v.idxOf_getElem _ _
theorem L_ix {x : α} (h : x ∈ o.1) : L o (o.1.idxOf x) = x := by
  rw [L_eq (List.idxOf_lt_length_of_mem h)]
  exact List.getElem_idxOf _
theorem ix_inj {l : List α} {x y : α} (hx : x ∈ l) (hy : y ∈ l) (h : l.idxOf x = l.idxOf y) : x = y := by
  have h1 := List.getElem_idxOf (List.idxOf_lt_length_of_mem hx)
  have h2 := List.getElem_idxOf (List.idxOf_lt_length_of_mem hy)
  rw [← h1, ← h2]
  congr 1
/-- by places -/
theorem ext_od {p : Od α} (h1 : o.1.length = p.1.length) (h2 : o.2.length = p.2.length) (hl : ∀ i, i < o.1.length → L o i = L p i) (ht : ∀ i, i < o.2.length → T o i = T p i) : o = p := by
  refine Prod.ext ?_ ?_
  · refine List.ext_getElem h1 fun i g1 g2 => ?_
    have := hl i g1
    rwa [L_eq g1, L_eq g2] at this
  · refine List.ext_getElem h2 fun i g1 g2 => ?_
    have := ht i g1
    unfold T at this
    rwa [List.getD_eq_getElem?_getD, List.getElem?_eq_getElem g1, List.getD_eq_getElem?_getD, List.getElem?_eq_getElem g2] at this
/-! ### a letter removed -/
def up (q i : Nat) : Nat := if i < q then i else i + 1
theorem rem_len1 {y : α} (hy : y ∈ o.1) : (rem o y).1.length + 1 = o.1.length := by
  have := List.idxOf_lt_length_of_mem hy
  unfold rem
  simp only [List.length_append, List.length_take, List.length_drop]
  omega
theorem rem_len2 (w : Wf o) {y : α} (hy : y ∈ o.1) : (rem o y).2.length = o.2.length - 1 := by
  have := List.idxOf_lt_length_of_mem hy
  have := w.ln
  unfold rem
  simp only
  split
  · rw [List.length_drop]
  · split
    · rw [List.length_dropLast]
    · simp only [List.length_append, List.length_take, List.length_drop, List.length_cons, List.length_nil]
      omega
theorem rem_L {y : α} (i : Nat) : L (rem o y) i = L o (up (o.1.idxOf y) i) := by
  unfold L rem up
  simp only
  rw [List.getD_eq_getElem?_getD, List.getD_eq_getElem?_getD]
  congr 1
  by_cases h : i < o.1.idxOf y
  · rw [if_pos h]
    by_cases hl : i < o.1.length
    · rw [List.getElem?_append_left (by rw [List.length_take]; omega), List.getElem?_take_of_lt h]
    · rw [List.getElem?_eq_none (show o.1.length ≤ i by omega), List.getElem?_eq_none]
      rw [List.length_append, List.length_take, List.length_drop]
      omega
  · rw [if_neg h]
    by_cases hl : o.1.idxOf y ≤ o.1.length
    · rw [List.getElem?_append_right (by rw [List.length_take]; omega), List.length_take, List.getElem?_drop]
      congr 1
      omega
    · exact absurd (List.idxOf_le_length) hl
theorem getD_take (l : List Int) (n i : Nat) : (l.take n).getD i 0 = if i < n then l.getD i 0 else 0 := by
  rw [List.getD_eq_getElem?_getD, List.getD_eq_getElem?_getD, List.getElem?_take]
  split <;> rfl
theorem getD_app (l m : List Int) (i : Nat) : (l ++ m).getD i 0 = if i < l.length then l.getD i 0 else m.getD (i - l.length) 0 := by
  rw [List.getD_eq_getElem?_getD, List.getD_eq_getElem?_getD, List.getD_eq_getElem?_getD, List.getElem?_append]
  split <;> rfl
theorem getD_one (t : Int) (i : Nat) : [t].getD i 0 = if i = 0 then t else 0 := by
  cases i with
  | zero => rfl
  | succ i => rfl
theorem getD_big {l : List Int} {i : Nat} (h : l.length ≤ i) : l.getD i 0 = 0 := by
  rw [List.getD_eq_getElem?_getD, List.getElem?_eq_none h]
  rfl
theorem rem_T (w : Wf o) {y : α} (hy : y ∈ o.1) {i : Nat} (hi : i < (rem o y).2.length) : T (rem o y) i = if i + 1 < o.1.idxOf y then T o i else if i + 1 = o.1.idxOf y then min (T o i) (T o (i + 1)) else T o (i + 1) := by
  have hq := List.idxOf_lt_length_of_mem hy
  have hn := w.ln
  rw [rem_len2 w hy] at hi
  unfold T rem
  simp only
  by_cases h0 : o.1.idxOf y = 0
  · rw [if_pos h0, if_neg (by omega), if_neg (by omega), drop_getD]
    congr 1
    omega
  · rw [if_neg h0]
    by_cases h1 : o.1.idxOf y + 1 = o.1.length
    · rw [if_pos h1, if_pos (by omega), List.dropLast_eq_take, getD_take, if_pos (by omega)]
    · rw [if_neg h1, getD_app, getD_app, getD_take, getD_one, drop_getD]
      simp only [List.length_append, List.length_take, List.length_cons, List.length_nil]
      have e : min (o.1.idxOf y - 1) o.2.length = o.1.idxOf y - 1 := by omega
      rw [e]
      by_cases c1 : i + 1 < o.1.idxOf y
      · rw [if_pos c1, if_pos (by omega), if_pos (by omega), if_pos (by omega)]
      · rw [if_neg c1]
        by_cases c2 : i + 1 = o.1.idxOf y
        · rw [if_pos c2, if_pos (by omega), if_neg (by omega), if_pos (by omega)]
          have e2 : o.1.idxOf y - 1 = i := by omega
          rw [e2, c2]
        · rw [if_neg c2, if_neg (by omega)]
          congr 1
          omega
theorem lb_rem (w : Wf o) {y : α} (hy : y ∈ o.1) {i j : Nat} (h : i < j) (hj : j < (rem o y).1.length) : lb (rem o y) i j = lb o (up (o.1.idxOf y) i) (up (o.1.idxOf y) j) := by
  have hq := List.idxOf_lt_length_of_mem hy
  have hn := w.ln
  have l1 := rem_len1 (o := o) hy
  have l2 := rem_len2 w hy
  have hup : up (o.1.idxOf y) i < up (o.1.idxOf y) j := by
    unfold up
    split <;> split <;> omega
  have hupj : up (o.1.idxOf y) j ≤ o.2.length := by
    unfold up
    split <;> omega
  have lt := fun k (hk : k < j) => rem_T w hy (i := k) (by omega)
  obtain ⟨ha, k, k1, k2, k3⟩ := lb_is (o := o) hup hupj
  generalize hm : lb o (up (o.1.idxOf y) i) (up (o.1.idxOf y) j) = m at *
  refine lb_eq_of h (by omega) ⟨fun k' g1 g2 => ?_, ?_⟩
  · rw [lt k' g2]
    have a1 := ha k'
    have a2 := ha (k' + 1)
    unfold up at a1 a2
    split
    · refine a1 ?_ ?_ <;> (repeat' split) <;> omega
    · split
      · have b1 : m ≤ T o k' := by refine a1 ?_ ?_ <;> (repeat' split) <;> omega
        have b2 : m ≤ T o (k' + 1) := by refine a2 ?_ ?_ <;> (repeat' split) <;> omega
        omega
      · refine a2 ?_ ?_ <;> (repeat' split) <;> omega
  · unfold up at k1 k2 ha
    by_cases c1 : k + 1 < o.1.idxOf y
    · have g : k < j := by
        split at k2 <;> omega
      refine ⟨k, ?_, g, ?_⟩
      · split at k1 <;> omega
      · rw [lt k g, if_pos c1, k3]
    · by_cases c2 : k + 1 = o.1.idxOf y
      · have g : k < j := by
          split at k2 <;> omega
        refine ⟨k, ?_, g, ?_⟩
        · split at k1 <;> omega
        · rw [lt k g, if_neg c1, if_pos c2, k3]
          have b2 : m ≤ T o (k + 1) := by
            refine ha (k + 1) ?_ ?_ <;> (repeat' split) <;> (try split at k1) <;> (try split at k2) <;> omega
          omega
      · by_cases c3 : k = o.1.idxOf y
        · have gi : i < o.1.idxOf y := by
            split at k1 <;> omega
          have gj : o.1.idxOf y ≤ j := by
            split at k2 <;> omega
          refine ⟨k - 1, by omega, by omega, ?_⟩
          rw [lt (k - 1) (by omega), if_neg (by omega), if_pos (by omega)]
          have e : k - 1 + 1 = k := by omega
          rw [e, k3]
          have b2 : m ≤ T o (k - 1) := by
            refine ha (k - 1) ?_ ?_
            · rw [if_pos gi]
              omega
            · rw [if_neg (by omega)]
              omega
          omega
        · refine ⟨k - 1, ?_, ?_, ?_⟩
          · split at k1 <;> omega
          · split at k2 <;> omega
          · have g : k - 1 < j := by
              split at k2 <;> omega
            rw [lt (k - 1) g, if_neg (by omega), if_neg (by omega)]
            have e : k - 1 + 1 = k := by omega
            rw [e, k3]
end
end Mi
/-! Before, and how different; a letter removed, turned around. -/
namespace Mi
section
variable {α : Type} [DecidableEq α] [Inhabited α] {o : Od α}
theorem rem_fst {y : α} : (rem o y).1 = o.1.erase y := by
  rw [List.erase_eq_eraseIdx_of_idxOf rfl, List.eraseIdx_eq_take_drop_succ]
  rfl
theorem rem_wf (w : Wf o) {y : α} (hy : y ∈ o.1) (h2 : 2 ≤ o.1.length) : Wf (rem o y) := by
  have l1 := rem_len1 (o := o) hy
  have l2 := rem_len2 w hy
  have hn := w.ln
  refine ⟨?_, by omega⟩
  rw [rem_fst]
  exact w.nd.erase _
theorem rem_mem (w : Wf o) {x y : α} : x ∈ (rem o y).1 ↔ x ≠ y ∧ x ∈ o.1 := by
  rw [rem_fst]
  exact w.nd.mem_erase_iff
def dn (q i : Nat) : Nat := if i < q then i else i - 1
theorem up_dn {q i : Nat} (h : i ≠ q) : up q (dn q i) = i := by
  unfold up dn
  by_cases c : i < q
  · rw [if_pos c, if_pos c]
  · rw [if_neg c, if_neg (by omega)]
    omega
theorem ix_rem (w : Wf o) {x y : α} (hy : y ∈ o.1) (hx : x ∈ o.1) (hne : x ≠ y) : (rem o y).1.idxOf x = dn (o.1.idxOf y) (o.1.idxOf x) := by
  have hq := List.idxOf_lt_length_of_mem hy
  have hi := List.idxOf_lt_length_of_mem hx
  have l1 := rem_len1 (o := o) hy
  have ne : o.1.idxOf x ≠ o.1.idxOf y := fun z => hne (ix_inj hx hy z)
  have nd : (rem o y).1.Nodup := by
    rw [rem_fst]
    exact w.nd.erase _
  have e : L (rem o y) (dn (o.1.idxOf y) (o.1.idxOf x)) = x := by
    rw [rem_L, up_dn ne, L_ix hx]
  have e2 := ix_L (o := rem o y) nd (i := dn (o.1.idxOf y) (o.1.idxOf x)) (by unfold dn; split <;> omega)
  rw [e] at e2
  exact e2
def bef (o : Od α) (x y : α) : Prop := o.1.idxOf x < o.1.idxOf y
def dif (o : Od α) (x y : α) : Int := if x = y then 4 else lb o (min (o.1.idxOf x) (o.1.idxOf y)) (max (o.1.idxOf x) (o.1.idxOf y))
theorem dif_comm (x y : α) : dif o x y = dif o y x := by
  unfold dif
  by_cases h : x = y
  · rw [if_pos h, if_pos h.symm]
  · rw [if_neg h, if_neg (fun z => h z.symm), Nat.min_comm, Nat.max_comm]
theorem bef_tot {x y : α} (hx : x ∈ o.1) (hy : y ∈ o.1) (h : x ≠ y) : bef o x y ∨ bef o y x := by
  have : o.1.idxOf x ≠ o.1.idxOf y := fun z => h (ix_inj hx hy z)
  unfold bef
  omega
theorem dif_bef {x y : α} (h : bef o x y) : dif o x y = lb o (o.1.idxOf x) (o.1.idxOf y) := by
  have hne : x ≠ y := fun z => by
    subst z
    exact Nat.lt_irrefl _ h
  unfold dif bef at *
  rw [if_neg hne, Nat.min_eq_left (by omega), Nat.max_eq_right (by omega)]
theorem bef_rem (w : Wf o) {x y z : α} (hz : z ∈ o.1) (hx : x ∈ o.1) (hy : y ∈ o.1) (h1 : x ≠ z) (h2 : y ≠ z) : bef (rem o z) x y ↔ bef o x y := by
  unfold bef
  rw [ix_rem w hz hx h1, ix_rem w hz hy h2]
  have a : o.1.idxOf x ≠ o.1.idxOf z := fun q => h1 (ix_inj hx hz q)
  have b : o.1.idxOf y ≠ o.1.idxOf z := fun q => h2 (ix_inj hy hz q)
  unfold dn
  split <;> split <;> omega
theorem dif_rem (w : Wf o) {x y z : α} (hz : z ∈ o.1) (hx : x ∈ o.1) (hy : y ∈ o.1) (h1 : x ≠ z) (h2 : y ≠ z) : dif (rem o z) x y = dif o x y := by
  have key : ∀ x y : α, x ∈ o.1 → y ∈ o.1 → x ≠ z → y ≠ z → bef o x y → dif (rem o z) x y = dif o x y := fun x y hx hy h1 h2 hb => by
    have hb' := (bef_rem w hz hx hy h1 h2).mpr hb
    have a : o.1.idxOf x ≠ o.1.idxOf z := fun q => h1 (ix_inj hx hz q)
    have b : o.1.idxOf y ≠ o.1.idxOf z := fun q => h2 (ix_inj hy hz q)
    have nm := List.idxOf_lt_length_of_mem ((rem_mem w).mpr ⟨h2, hy⟩)
    rw [dif_bef hb', dif_bef hb, lb_rem w hz hb' nm, ix_rem w hz hx h1, ix_rem w hz hy h2, up_dn a, up_dn b]
  by_cases h : x = y
  · unfold dif
    rw [if_pos h, if_pos h]
  · rcases bef_tot hx hy h with hb | hb
    · exact key x y hx hy h1 h2 hb
    · rw [dif_comm, key y x hy hx h2 h1 hb, dif_comm]
theorem bef_L (nd : o.1.Nodup) {i j : Nat} (hj : j < o.1.length) (h : i < j) : bef o (L o i) (L o j) := by
  unfold bef
  rw [ix_L nd (by omega), ix_L nd hj]
  exact h
theorem dif_L (nd : o.1.Nodup) {i j : Nat} (hj : j < o.1.length) (h : i < j) : dif o (L o i) (L o j) = lb o i j := by
  rw [dif_bef (bef_L nd hj h), ix_L nd (by omega), ix_L nd hj]
/-- as the law takes a letter out -/
def wout (o : Od α) (y : α) : Od α := (o.1.filter fun x => !decide (x = y), (List.range ((o.1.filter fun x => !decide (x = y)).length - 1)).map fun k => dif o ((o.1.filter fun x => !decide (x = y)).getD k default) ((o.1.filter fun x => !decide (x = y)).getD (k + 1) default))
theorem wout_rem (w : Wf o) {y : α} (hy : y ∈ o.1) : wout o y = rem o y := by
  have hq := List.idxOf_lt_length_of_mem hy
  have hn := w.ln
  have l1 := rem_len1 (o := o) hy
  have l2 := rem_len2 w hy
  have e : o.1.filter (fun x => !decide (x = y)) = (rem o y).1 := by
    rw [rem_fst, w.nd.erase_eq_filter]
    congr 1
  have h1 : (wout o y).1 = (rem o y).1 := e
  have h2 : (wout o y).2.length = (rem o y).2.length := by
    unfold wout
    simp only
    rw [List.length_map, List.length_range, e]
    omega
  refine ext_od (by rw [h1]) h2 (fun i hi => by unfold L; rw [h1]) (fun i hi => ?_)
  rw [h2] at hi
  have e3 : T (wout o y) i = dif o (L (rem o y) i) (L (rem o y) (i + 1)) := by
    unfold T wout
    simp only
    rw [e, List.getD_eq_getElem?_getD, List.getElem?_map, List.getElem?_range (by omega)]
    rfl
  have nd : (rem o y).1.Nodup := by
    rw [rem_fst]
    exact w.nd.erase _
  have hi1 : i + 1 < (rem o y).1.length := by omega
  have m1 := (rem_mem w).mp (L_mem (o := rem o y) (i := i) (by omega))
  have m2 := (rem_mem w).mp (L_mem (o := rem o y) hi1)
  rw [e3, ← dif_rem w hy m1.2 m2.2 m1.1 m2.1, dif_L nd hi1 (by omega), lb_one (by omega)]
/-! ### turned around -/
theorem rev_rev : rev (rev o) = o := by
  unfold rev
  simp
theorem rev_wf (w : Wf o) : Wf (rev o) := ⟨by unfold rev; exact (List.reverse_perm _).nodup_iff.mpr w.nd, by unfold rev; simp [w.ln]⟩
theorem getD_rev {l : List Int} {i : Nat} (h : i < l.length) : l.reverse.getD i 0 = l.getD (l.length - 1 - i) 0 := by
  rw [List.getD_eq_getElem?_getD, List.getD_eq_getElem?_getD, List.getElem?_reverse h]
theorem rev_L {i : Nat} (h : i < o.1.length) : L (rev o) i = L o (o.1.length - 1 - i) := by
  unfold L rev
  simp only
  rw [List.getD_eq_getElem?_getD, List.getD_eq_getElem?_getD, List.getElem?_reverse h]
theorem rev_T {i : Nat} (h : i < o.2.length) : T (rev o) i = T o (o.2.length - 1 - i) := getD_rev h
theorem rev_len1 : (rev o).1.length = o.1.length := by unfold rev; simp
theorem rev_len2 : (rev o).2.length = o.2.length := by unfold rev; simp
theorem rev_mem {x : α} : x ∈ (rev o).1 ↔ x ∈ o.1 := by unfold rev; simp
theorem ix_rev (nd : o.1.Nodup) {x : α} (hx : x ∈ o.1) : (rev o).1.idxOf x = o.1.length - 1 - o.1.idxOf x := by
  have hi := List.idxOf_lt_length_of_mem hx
  have e : L (rev o) (o.1.length - 1 - o.1.idxOf x) = x := by
    rw [rev_L (by omega)]
    have e2 : o.1.length - 1 - (o.1.length - 1 - o.1.idxOf x) = o.1.idxOf x := by omega
    rw [e2, L_ix hx]
  have nd' : (rev o).1.Nodup := (List.reverse_perm _).nodup_iff.mpr nd
  have e2 := ix_L (o := rev o) nd' (i := o.1.length - 1 - o.1.idxOf x) (by rw [rev_len1]; omega)
  rw [e] at e2
  exact e2
theorem lb_rev (w : Wf o) {i j : Nat} (h : i < j) (hj : j < o.1.length) : lb (rev o) i j = lb o (o.1.length - 1 - j) (o.1.length - 1 - i) := by
  have hn := w.ln
  obtain ⟨ha, k, k1, k2, k3⟩ := lb_is (o := o) (i := o.1.length - 1 - j) (j := o.1.length - 1 - i) (by omega) (by omega)
  refine lb_eq_of h (by rw [rev_len2]; omega) ⟨fun k' g1 g2 => ?_, o.2.length - 1 - k, by omega, by omega, ?_⟩
  · rw [rev_T (by omega)]
    exact ha _ (by omega) (by omega)
  · rw [rev_T (by omega), ← k3]
    congr 1
    omega
theorem bef_rev (nd : o.1.Nodup) {x y : α} (hx : x ∈ o.1) (hy : y ∈ o.1) : bef (rev o) x y ↔ bef o y x := by
  have := List.idxOf_lt_length_of_mem hx
  have := List.idxOf_lt_length_of_mem hy
  unfold bef
  rw [ix_rev nd hx, ix_rev nd hy]
  omega
theorem dif_rev (w : Wf o) {x y : α} (hx : x ∈ o.1) (hy : y ∈ o.1) : dif (rev o) x y = dif o x y := by
  have key : ∀ x y : α, x ∈ o.1 → y ∈ o.1 → bef o x y → dif (rev o) y x = dif o y x := fun x y hx hy hb => by
    have hb' := (bef_rev w.nd hy hx).mpr hb
    have h1 := List.idxOf_lt_length_of_mem hx
    have h2 := List.idxOf_lt_length_of_mem hy
    rw [dif_bef hb', dif_comm y x, dif_bef hb, ix_rev w.nd hx, ix_rev w.nd hy]
    unfold bef at hb
    rw [lb_rev w (by omega) (by omega)]
    congr 1 <;> omega
  by_cases h : x = y
  · unfold dif
    rw [if_pos h, if_pos h]
  · rcases bef_tot hx hy h with hb | hb
    · rw [dif_comm, key x y hx hy hb, dif_comm]
    · exact key y x hy hx hb
theorem rem_rev (w : Wf o) {y : α} (hy : y ∈ o.1) : rem (rev o) y = rev (rem o y) := by
  have hq := List.idxOf_lt_length_of_mem hy
  have hn := w.ln
  have hy' : y ∈ (rev o).1 := rev_mem.mpr hy
  have w' := rev_wf w
  have l1 := rem_len1 (o := o) hy
  have l2 := rem_len2 w hy
  have l3 := rem_len1 (o := rev o) hy'
  have l4 := rem_len2 w' hy'
  have iq := ix_rev w.nd hy
  rw [rev_len1] at l3
  rw [rev_len2] at l4
  refine ext_od (by rw [rev_len1]; omega) (by rw [rev_len2]; omega) (fun i hi => ?_) (fun i hi => ?_)
  · have hi' : i + 1 < o.1.length := by omega
    rw [rem_L, rev_L (o := rem o y) (by omega), rem_L, iq]
    unfold up
    by_cases c : i < o.1.length - 1 - o.1.idxOf y
    · rw [if_pos c, rev_L (by omega), if_neg (by omega)]
      congr 1
      omega
    · rw [if_neg c, rev_L (by omega), if_pos (by omega)]
      congr 1
      omega
  · rw [rem_T w' hy' hi, rev_T (o := rem o y) (by omega), rem_T w hy (by omega), iq]
    by_cases c1 : i + 1 < o.1.length - 1 - o.1.idxOf y
    · rw [if_pos c1, rev_T (by omega), if_neg (by omega), if_neg (by omega)]
      congr 1
      omega
    · rw [if_neg c1]
      by_cases c2 : i + 1 = o.1.length - 1 - o.1.idxOf y
      · rw [if_pos c2, rev_T (by omega), rev_T (by omega), if_neg (by omega), if_pos (by omega), Int.min_comm]
        congr 2 <;> omega
      · rw [if_neg c2, rev_T (by omega), if_pos (by omega)]
        congr 1
        omega
end
end Mi
/-! A letter put. -/
namespace Mi
section
variable {α : Type} [DecidableEq α] [Inhabited α] {o : Od α}
/-- behind which place a letter comes -/
def endA (o : Od α) (a : α) (t : Int) : Nat := o.1.idxOf a + goes o.2 t (o.1.idxOf a)
theorem end_lt (w : Wf o) {a : α} (ha : a ∈ o.1) {t : Int} : endA o a t < o.1.length := by
  have hi := List.idxOf_lt_length_of_mem ha
  have hn := w.ln
  have := goes_le (ss := o.2) (s := t) (a := o.1.idxOf a)
  unfold endA
  omega
theorem end_above (w : Wf o) {a : α} (ha : a ∈ o.1) {t : Int} {k : Nat} (h1 : o.1.idxOf a ≤ k) (h2 : k < endA o a t) : t < T o k := by
  have hi := List.idxOf_lt_length_of_mem ha
  have hn := w.ln
  have g := goes_get (ss := o.2) (s := t) (a := o.1.idxOf a) (by omega) (k - o.1.idxOf a) (by unfold endA at h2; omega)
  have e : o.1.idxOf a + (k - o.1.idxOf a) = k := by omega
  rw [e, decide_eq_true (show k - o.1.idxOf a < goes o.2 t (o.1.idxOf a) by unfold endA at h2; omega)] at g
  have g2 := (Bool.and_eq_true_iff.mp g).2
  exact of_decide_eq_true g2
theorem end_stop (w : Wf o) {a : α} (ha : a ∈ o.1) {t : Int} (h : endA o a t < o.2.length) : T o (endA o a t) ≤ t := by
  have hi := List.idxOf_lt_length_of_mem ha
  have hn := w.ln
  have g := goes_get (ss := o.2) (s := t) (a := o.1.idxOf a) (by omega) (goes o.2 t (o.1.idxOf a)) (Nat.le_refl _)
  have e : o.1.idxOf a + goes o.2 t (o.1.idxOf a) = endA o a t := rfl
  rw [e, decide_eq_true h, decide_eq_false (Nat.lt_irrefl _), Bool.true_and] at g
  have := of_decide_eq_false g
  exact Int.not_lt.mp this
theorem putA_eq {a : α} {t : Int} {y : α} : putA o a t y = (o.1.take (endA o a t + 1) ++ [y] ++ o.1.drop (endA o a t + 1), o.2.take (endA o a t) ++ [t] ++ o.2.drop (endA o a t)) := rfl
theorem putA_perm {a : α} {t : Int} {y : α} : (putA o a t y).1.Perm (y :: o.1) := by
  rw [putA_eq]
  simp only [List.append_assoc, List.singleton_append]
  refine List.perm_middle.trans ?_
  rw [List.take_append_drop]
theorem putA_wf (w : Wf o) {a : α} (ha : a ∈ o.1) {t : Int} {y : α} (hy : y ∉ o.1) : Wf (putA o a t y) := by
  have hn := w.ln
  have he := end_lt w ha (t := t)
  refine ⟨putA_perm.nodup_iff.mpr (List.nodup_cons.mpr ⟨hy, w.nd⟩), ?_⟩
  rw [putA_eq]
  simp only [List.length_append, List.length_take, List.length_drop, List.length_cons, List.length_nil]
  omega
theorem putA_L (w : Wf o) {a : α} (ha : a ∈ o.1) {t : Int} {y : α} (i : Nat) : L (putA o a t y) i = if i ≤ endA o a t then L o i else if i = endA o a t + 1 then y else L o (i - 1) := by
  have he := end_lt w ha (t := t)
  rw [putA_eq]
  unfold L
  simp only
  rw [List.getD_eq_getElem?_getD, List.getElem?_append]
  have hl : (o.1.take (endA o a t + 1) ++ [y]).length = endA o a t + 2 := by
    simp only [List.length_append, List.length_take, List.length_cons, List.length_nil]
    omega
  rw [hl]
  have hl2 : (o.1.take (endA o a t + 1)).length = endA o a t + 1 := by
    rw [List.length_take]
    omega
  by_cases c1 : i ≤ endA o a t
  · rw [if_pos (by omega), if_pos c1, List.getElem?_append_left (by omega), List.getElem?_take_of_lt (by omega), List.getD_eq_getElem?_getD]
  · rw [if_neg c1]
    by_cases c2 : i = endA o a t + 1
    · rw [if_pos (by omega), if_pos c2, List.getElem?_append_right (by omega), hl2, c2, Nat.sub_self]
      rfl
    · rw [if_neg (by omega), if_neg c2, List.getElem?_drop, List.getD_eq_getElem?_getD]
      congr 2
      omega
theorem putA_T (w : Wf o) {a : α} (ha : a ∈ o.1) {t : Int} {y : α} (i : Nat) : T (putA o a t y) i = if i < endA o a t then T o i else if i = endA o a t then t else T o (i - 1) := by
  have he := end_lt w ha (t := t)
  have hn := w.ln
  rw [putA_eq]
  unfold T
  simp only
  rw [getD_app, getD_app, getD_take, getD_one, drop_getD]
  simp only [List.length_append, List.length_take, List.length_cons, List.length_nil]
  have e : min (endA o a t) o.2.length = endA o a t := by omega
  rw [e]
  by_cases c1 : i < endA o a t
  · rw [if_pos (by omega), if_pos c1, if_pos c1, if_pos c1]
  · rw [if_neg c1]
    by_cases c2 : i = endA o a t
    · rw [if_pos (by omega), if_neg c1, if_pos (by omega), if_pos c2]
    · rw [if_neg (by omega), if_neg c2]
      have e3 : endA o a t + (i - (endA o a t + (0 + 1))) = i - 1 := by omega
      rw [e3, if_neg c1]
theorem putA_len2 (w : Wf o) {a : α} (ha : a ∈ o.1) {t : Int} {y : α} : (putA o a t y).2.length = o.2.length + 1 := by
  have he := end_lt w ha (t := t)
  have hn := w.ln
  rw [putA_eq]
  simp only [List.length_append, List.length_take, List.length_drop, List.length_cons, List.length_nil]
  omega
theorem putA_len1 {a : α} {t : Int} {y : α} : (putA o a t y).1.length = o.1.length + 1 := by
  rw [putA_perm.length_eq]
  rfl
theorem putA_mem {a x y : α} {t : Int} : x ∈ (putA o a t y).1 ↔ x = y ∨ x ∈ o.1 := by
  rw [putA_perm.mem_iff]
  exact List.mem_cons
theorem ix_putA_y (w : Wf o) {a : α} (ha : a ∈ o.1) {t : Int} {y : α} (hy : y ∉ o.1) : (putA o a t y).1.idxOf y = endA o a t + 1 := by
  have he := end_lt w ha (t := t)
  have w' := putA_wf w ha hy (t := t)
  have hl := putA_len1 (o := o) (a := a) (t := t) (y := y)
  have e := ix_L w'.nd (i := endA o a t + 1) (by rw [hl]; omega)
  rw [putA_L w ha, if_neg (by omega), if_pos rfl] at e
  exact e
theorem ix_putA (w : Wf o) {a : α} (ha : a ∈ o.1) {t : Int} {y : α} (hy : y ∉ o.1) {x : α} (hx : x ∈ o.1) : (putA o a t y).1.idxOf x = if o.1.idxOf x ≤ endA o a t then o.1.idxOf x else o.1.idxOf x + 1 := by
  have he := end_lt w ha (t := t)
  have hi := List.idxOf_lt_length_of_mem hx
  have w' := putA_wf w ha hy (t := t)
  have hl := putA_len1 (o := o) (a := a) (t := t) (y := y)
  by_cases c : o.1.idxOf x ≤ endA o a t
  · rw [if_pos c]
    have e := ix_L w'.nd (i := o.1.idxOf x) (by omega)
    rwa [putA_L w ha, if_pos c, L_ix hx] at e
  · rw [if_neg c]
    have e := ix_L w'.nd (i := o.1.idxOf x + 1) (by omega)
    rwa [putA_L w ha, if_neg (by omega), if_neg (by omega), Nat.add_sub_cancel, L_ix hx] at e
/-- taken out again -/
theorem rem_putA (w : Wf o) {a : α} (ha : a ∈ o.1) {t : Int} {y : α} (hy : y ∉ o.1) : rem (putA o a t y) y = o := by
  have he := end_lt w ha (t := t)
  have hn := w.ln
  have w' := putA_wf w ha hy (t := t)
  have my : y ∈ (putA o a t y).1 := putA_mem.mpr (.inl rfl)
  have hl := putA_len1 (o := o) (a := a) (t := t) (y := y)
  have l1 := rem_len1 my
  have l2 := rem_len2 w' my
  have l3 := putA_len2 w ha (t := t) (y := y)
  have iy := ix_putA_y w ha hy (t := t)
  refine ext_od (by omega) (by omega) (fun i hi => ?_) (fun i hi => ?_)
  · rw [rem_L, iy, putA_L w ha]
    unfold up
    by_cases c : i < endA o a t + 1
    · rw [if_pos c, if_pos (by omega)]
    · rw [if_neg c, if_neg (by omega), if_neg (by omega), Nat.add_sub_cancel]
  · rw [rem_T w' my hi, iy, putA_T w ha, putA_T w ha]
    by_cases c1 : i + 1 < endA o a t + 1
    · rw [if_pos c1, if_pos (by omega)]
    · rw [if_neg c1]
      by_cases c2 : i + 1 = endA o a t + 1
      · have e : i = endA o a t := by omega
        have := end_stop w ha (t := t) (by omega)
        rw [if_pos c2, if_neg (by omega), if_pos e, if_neg (by omega), if_neg (by omega), Nat.add_sub_cancel, e]
        omega
      · rw [if_neg c2, if_neg (by omega), if_neg (by omega), Nat.add_sub_cancel]
theorem bef_putA (w : Wf o) {a : α} (ha : a ∈ o.1) {t : Int} {y : α} (hy : y ∉ o.1) {x : α} (hx : x ∈ o.1) : bef (putA o a t y) y x ↔ bef o a x ∧ dif o a x ≤ t := by
  have he := end_lt w ha (t := t)
  have hn := w.ln
  have hi := List.idxOf_lt_length_of_mem hx
  have hae : o.1.idxOf a ≤ endA o a t := by unfold endA; omega
  have e1 : bef (putA o a t y) y x ↔ endA o a t < o.1.idxOf x := by
    unfold bef
    rw [ix_putA_y w ha hy, ix_putA w ha hy hx]
    split <;> omega
  rw [e1]
  constructor
  · intro h
    have hb : bef o a x := by unfold bef; omega
    refine ⟨hb, ?_⟩
    rw [dif_bef hb]
    have := (lb_is (o := o) hb (by omega)).le (endA o a t) hae h
    have := end_stop w ha (t := t) (by omega)
    omega
  · rintro ⟨hb, hd⟩
    rw [dif_bef hb] at hd
    obtain ⟨k, k1, k2, k3⟩ := (lb_is (o := o) hb (by omega)).at_
    apply Nat.lt_of_not_le
    intro hle
    have := end_above w ha (t := t) k1 (by omega)
    omega
theorem dif_putA (w : Wf o) {a : α} (ha : a ∈ o.1) {t : Int} (ht : t < 4) {y : α} (hy : y ∉ o.1) {x : α} (hx : x ∈ o.1) : dif (putA o a t y) x y = min t (dif o a x) := by
  have he := end_lt w ha (t := t)
  have hn := w.ln
  have hi := List.idxOf_lt_length_of_mem hx
  have ha' := List.idxOf_lt_length_of_mem ha
  have hae : o.1.idxOf a ≤ endA o a t := by unfold endA; omega
  have l3 := putA_len2 w ha (t := t) (y := y)
  have pt := fun i => putA_T w ha (t := t) (y := y) i
  have iy := ix_putA_y w ha hy (t := t)
  have ix := ix_putA w ha hy hx (t := t)
  have ab : ∀ k, o.1.idxOf a ≤ k → k < endA o a t → t < T o k := fun k h1 h2 => end_above w ha h1 h2
  by_cases c0 : o.1.idxOf x ≤ endA o a t
  · rw [if_pos c0] at ix
    have hb : bef (putA o a t y) x y := by
      unfold bef
      omega
    rw [dif_bef hb, ix, iy]
    by_cases c1 : x = a
    · subst c1
      have e4 : dif o x x = 4 := by
        unfold dif
        rw [if_pos rfl]
      have e5 : min t (dif o x x) = t := by omega
      rw [e5]
      refine lb_eq_of (by omega) (by omega) ⟨fun k k1 k2 => ?_, endA o x t, hae, by omega, ?_⟩
      · rw [pt]
        split
        · have := ab k k1 (by assumption)
          omega
        · rw [if_pos (by omega)]
          exact Int.le_refl _
      · rw [pt, if_neg (by omega), if_pos rfl]
    · have nx : o.1.idxOf a ≠ o.1.idxOf x := fun z => c1 (ix_inj ha hx z).symm
      by_cases c2 : o.1.idxOf a < o.1.idxOf x
      · have hb2 : bef o a x := c2
        rw [dif_bef hb2]
        obtain ⟨m1, k, k1, k2, k3⟩ := lb_is (o := o) c2 (by omega)
        have := ab k k1 (by omega)
        have e5 : min t (lb o (o.1.idxOf a) (o.1.idxOf x)) = t := by omega
        rw [e5]
        refine lb_eq_of (by omega) (by omega) ⟨fun k k1 k2 => ?_, endA o a t, by omega, by omega, ?_⟩
        · rw [pt]
          split
          · have := ab k (by omega) (by assumption)
            omega
          · rw [if_pos (by omega)]
            exact Int.le_refl _
        · rw [pt, if_neg (by omega), if_pos rfl]
      · have hb2 : bef o x a := by unfold bef; omega
        rw [dif_comm, dif_bef hb2]
        unfold bef at hb2
        obtain ⟨m1, k, k1, k2, k3⟩ := lb_is (o := o) hb2 (by omega)
        refine lb_eq_of (by omega) (by omega) ⟨fun k' g1 g2 => ?_, ?_⟩
        · rw [pt]
          split
          · by_cases c3 : k' < o.1.idxOf a
            · have := m1 k' g1 c3
              omega
            · have := ab k' (by omega) (by assumption)
              omega
          · rw [if_pos (by omega)]
            omega
        · by_cases c3 : t ≤ lb o (o.1.idxOf x) (o.1.idxOf a)
          · refine ⟨endA o a t, by omega, by omega, ?_⟩
            rw [pt, if_neg (by omega), if_pos rfl]
            omega
          · refine ⟨k, k1, by omega, ?_⟩
            rw [pt, if_pos (by omega), k3]
            omega
  · rw [if_neg c0] at ix
    have hb : bef (putA o a t y) y x := by
      unfold bef
      omega
    have hb2 : bef o a x := by
      unfold bef
      omega
    rw [dif_comm, dif_bef hb, iy, ix, dif_bef hb2]
    unfold bef at hb2
    obtain ⟨m1, k, k1, k2, k3⟩ := lb_is (o := o) hb2 (by omega)
    have q1 := m1 (endA o a t) hae (by omega)
    have q2 := end_stop w ha (t := t) (by omega)
    have e5 : min t (lb o (o.1.idxOf a) (o.1.idxOf x)) = lb o (o.1.idxOf a) (o.1.idxOf x) := by omega
    rw [e5]
    refine lb_eq_of (by omega) (by omega) ⟨fun k' g1 g2 => ?_, ?_⟩
    · rw [pt, if_neg (by omega), if_neg (by omega)]
      exact m1 _ (by omega) (by omega)
    · have : endA o a t ≤ k := by
        apply Nat.le_of_not_lt
        intro z
        have := ab k k1 z
        omega
      refine ⟨k + 1, by omega, by omega, ?_⟩
      rw [pt, if_neg (by omega), if_neg (by omega), Nat.add_sub_cancel, k3]
/-! ### a rule used on an order that has the letter -/
structure Usable (o : Od α) (r : Rl α) : Prop where
  a : r.anc ∈ o.1
  y : r.let_ ∈ o.1
  ne : r.anc ≠ r.let_
  t : r.str < 4
theorem two_of {l : List α} {x y : α} (hx : x ∈ l) (hy : y ∈ l) (h : x ≠ y) : 2 ≤ l.length := by
  have h1 := List.idxOf_lt_length_of_mem hx
  have h2 := List.idxOf_lt_length_of_mem hy
  have : l.idxOf x ≠ l.idxOf y := fun z => h (ix_inj hx hy z)
  omega
theorem put_all (w : Wf o) {r : Rl α} (u : Usable o r) : Wf (put o r) ∧ (put o r).1.Perm o.1 ∧ rem (put o r) r.let_ = rem o r.let_ ∧ (∀ x ∈ o.1, x ≠ r.let_ → dif (put o r) x r.let_ = min r.str (dif o r.anc x)) ∧
    (∀ x ∈ o.1, x ≠ r.let_ → if r.aft then (bef (put o r) r.let_ x ↔ bef o r.anc x ∧ dif o r.anc x ≤ r.str) else (bef (put o r) x r.let_ ↔ bef o x r.anc ∧ dif o r.anc x ≤ r.str)) := by
  have h2 := two_of u.a u.y u.ne
  have w1 := rem_wf w u.y h2
  have ha : r.anc ∈ (rem o r.let_).1 := (rem_mem w).mpr ⟨u.ne, u.a⟩
  have hy : r.let_ ∉ (rem o r.let_).1 := fun z => ((rem_mem w).mp z).1 rfl
  have pm : (r.let_ :: (rem o r.let_).1).Perm o.1 := by
    rw [rem_fst]
    exact (List.perm_cons_erase u.y).symm
  have e0 : put o r = if r.aft then putA (rem o r.let_) r.anc r.str r.let_ else rev (putA (rev (rem o r.let_)) r.anc r.str r.let_) := by
    unfold put
    rw [if_pos u.y]
  cases haft : r.aft with
  | true =>
    rw [e0, haft]
    simp only [if_true]
    refine ⟨putA_wf w1 ha hy, putA_perm.trans pm, rem_putA w1 ha hy, fun x hx hne => ?_, fun x hx hne => ?_⟩
    · have hx' := (rem_mem w).mpr ⟨hne, hx⟩
      rw [dif_putA w1 ha u.t hy hx', dif_rem w u.y u.a hx u.ne hne]
    · have hx' := (rem_mem w).mpr ⟨hne, hx⟩
      rw [bef_putA w1 ha hy hx', dif_rem w u.y u.a hx u.ne hne, bef_rem w u.y u.a hx u.ne hne]
  | false =>
    rw [e0, haft]
    simp only [Bool.false_eq_true, if_false]
    have w2 := rev_wf w1
    have ha2 : r.anc ∈ (rev (rem o r.let_)).1 := rev_mem.mpr ha
    have hy2 : r.let_ ∉ (rev (rem o r.let_)).1 := fun z => hy (rev_mem.mp z)
    have w3 := putA_wf w2 ha2 hy2 (t := r.str)
    have my : r.let_ ∈ (putA (rev (rem o r.let_)) r.anc r.str r.let_).1 := putA_mem.mpr (.inl rfl)
    refine ⟨rev_wf w3, ?_, ?_, fun x hx hne => ?_, fun x hx hne => ?_⟩
    · refine (List.reverse_perm _).trans (putA_perm.trans (List.Perm.trans ?_ pm))
      exact (List.reverse_perm _).cons _
    · rw [rem_rev w3 my, rem_putA w2 ha2 hy2, rev_rev]
    · have hx' := (rem_mem w).mpr ⟨hne, hx⟩
      have hx2 := rev_mem.mpr hx'
      rw [dif_rev w3 (putA_mem.mpr (.inr hx2)) my, dif_putA w2 ha2 u.t hy2 hx2, dif_rev w1 ha hx', dif_rem w u.y u.a hx u.ne hne]
    · have hx' := (rem_mem w).mpr ⟨hne, hx⟩
      have hx2 := rev_mem.mpr hx'
      rw [bef_rev w3.nd (putA_mem.mpr (.inr hx2)) my, bef_putA w2 ha2 hy2 hx2, dif_rev w1 ha hx', dif_rem w u.y u.a hx u.ne hne, bef_rev w1.nd ha hx', bef_rem w u.y hx u.a hne u.ne]
theorem put_wf (w : Wf o) {r : Rl α} (u : Usable o r) : Wf (put o r) := (put_all w u).1
theorem put_perm (w : Wf o) {r : Rl α} (u : Usable o r) : (put o r).1.Perm o.1 := (put_all w u).2.1
theorem put_rem (w : Wf o) {r : Rl α} (u : Usable o r) : rem (put o r) r.let_ = rem o r.let_ := (put_all w u).2.2.1
theorem put_bef (w : Wf o) {r : Rl α} (u : Usable o r) {x z : α} (hx : x ∈ o.1) (hz : z ∈ o.1) (h1 : x ≠ r.let_) (h2 : z ≠ r.let_) : (bef (put o r) x z ↔ bef o x z) ∧ dif (put o r) x z = dif o x z := by
  have pm := put_perm w u
  have w' := put_wf w u
  have e := put_rem w u
  rw [← bef_rem w' (pm.mem_iff.mpr u.y) (pm.mem_iff.mpr hx) (pm.mem_iff.mpr hz) h1 h2, ← dif_rem w' (pm.mem_iff.mpr u.y) (pm.mem_iff.mpr hx) (pm.mem_iff.mpr hz) h1 h2, e, bef_rem w u.y hx hz h1 h2, dif_rem w u.y hx hz h1 h2]
  exact ⟨Iff.rfl, rfl⟩
end
end Mi
/-! The rules of keeping lead to the second order. -/
namespace Mi
section
variable {α : Type} [DecidableEq α] [Inhabited α] {cur s : Od α} {S : Nat → Prop}
/-- an order of the letters of s that agrees with s on the places S -/
structure Agr (cur s : Od α) (S : Nat → Prop) : Prop where
  w : Wf cur
  p : cur.1.Perm s.1
  ag : ∀ i j, S i → S j → i < j → j < s.1.length → bef cur (L s i) (L s j) ∧ dif cur (L s i) (L s j) = lb s i j
theorem Agr.mem (a : Agr cur s S) {i : Nat} (h : i < s.1.length) : L s i ∈ cur.1 := a.p.mem_iff.mpr (L_mem h)
/-- the rule that settles place k -/
def code (s : Od α) (c : Bool × Nat) : Rl α := if c.1 then ⟨true, L s (c.2 - 1), T s (c.2 - 1), L s c.2⟩ else ⟨false, L s (c.2 + 1), T s c.2, L s c.2⟩
structure CanA (s : Od α) (S : Nat → Prop) (k : Nat) : Prop where
  lo : 1 ≤ k
  hi : k < s.1.length
  sS : S (k - 1)
  le : ∀ x, S x → k < x → x < s.1.length → lb s k x ≤ T s (k - 1)
structure CanB (s : Od α) (S : Nat → Prop) (k : Nat) : Prop where
  hi : k + 1 < s.1.length
  sS : S (k + 1)
  le : ∀ x, S x → x < k → lb s x k ≤ T s k
def Can (s : Od α) (S : Nat → Prop) (c : Bool × Nat) : Prop := if c.1 then CanA s S c.2 else CanB s S c.2
theorem L_ne (nd : s.1.Nodup) {i j : Nat} (hi : i < s.1.length) (hj : j < s.1.length) (h : i ≠ j) : L s i ≠ L s j := fun z => by
  have e1 := ix_L nd hi
  have e2 := ix_L nd hj
  rw [z] at e1
  omega
theorem usable (ws : Wf s) (hst : ∀ k, k < s.2.length → T s k < 4) {c : Bool × Nat} (a : Agr cur s S) (h : Can s S c) : Usable cur (code s c) := by
  have hn := ws.ln
  obtain ⟨b, k⟩ := c
  cases b with
  | true =>
    have h : CanA s S k := h
    have h1 := h.lo
    have h2 := h.hi
    exact ⟨a.mem (by show k - 1 < _; omega), a.mem h2, L_ne ws.nd (by omega) h2 (by omega), hst _ (by omega)⟩
  | false =>
    have h : CanB s S k := h
    have h2 := h.hi
    exact ⟨a.mem h2, a.mem (by show k < _; omega), L_ne ws.nd h2 (by omega) (by omega), hst _ (by omega)⟩
theorem not_bef {o : Od α} {x y : α} (h : bef o x y) : ¬ bef o y x := fun z => by
  unfold bef at h z
  omega
theorem settle (ws : Wf s) (hst : ∀ k, k < s.2.length → T s k < 4) {c : Bool × Nat} (a : Agr cur s S) (h : Can s S c) : Agr (put cur (code s c)) s (fun i => S i ∨ i = c.2) := by
  have hn := ws.ln
  have u := usable ws hst a h
  obtain ⟨w', pm, _, pd, pb⟩ := put_all a.w u
  refine ⟨w', pm.trans a.p, fun i j hi hj hij hjn => ?_⟩
  have hin : i < s.1.length := by omega
  have mi := a.mem hin
  have mj := a.mem hjn
  obtain ⟨b, k⟩ := c
  have hkn : k < s.1.length := by
    cases b with
    | true =>
      have h : CanA s S k := h
      exact h.hi
    | false =>
      have h : CanB s S k := h
      have := h.hi
      omega
  have ly : (code s (b, k)).let_ = L s k := by
    unfold code
    cases b <;> rfl
  by_cases ci : i = k
  · subst ci
    have Sj : S j := by
      rcases hj with z | z
      · exact z
      · exact absurd z (by show ¬ j = i; omega)
    have nj := L_ne ws.nd hjn hkn (by omega)
    have d1 := pd (L s j) mj (by rw [ly]; exact nj)
    have b1 := pb (L s j) mj (by rw [ly]; exact nj)
    rw [ly] at d1 b1
    cases b with
    | true =>
      have h : CanA s S i := h
      have h1 := h.lo
      have ea : (code s (true, i)).anc = L s (i - 1) := rfl
      have et : (code s (true, i)).str = T s (i - 1) := rfl
      rw [if_pos (show (code s (true, i)).aft = true from rfl), ea, et] at b1
      rw [ea, et] at d1
      obtain ⟨q1, q2⟩ := a.ag (i - 1) j h.sS Sj (by omega) hjn
      have q3 := h.le j Sj hij hjn
      have q4 := lb_cat (o := s) (i := i - 1) (j := i) (k := j) (by omega) hij (by omega)
      have q5 := lb_one (o := s) (i := i - 1) (by omega)
      have e : i - 1 + 1 = i := by omega
      rw [e] at q5
      refine ⟨b1.mpr ⟨q1, by omega⟩, ?_⟩
      rw [dif_comm, d1, q2]
      omega
    | false =>
      have h : CanB s S i := h
      have ea : (code s (false, i)).anc = L s (i + 1) := rfl
      have et : (code s (false, i)).str = T s i := rfl
      rw [if_neg (show ¬ (code s (false, i)).aft = true from Bool.false_ne_true), ea, et] at b1
      rw [ea, et] at d1
      have q5 := lb_one (o := s) (i := i) (by have := h.hi; omega)
      have notb : ¬ bef (put cur (code s (false, i))) (L s j) (L s i) := fun z => by
        have z := (b1.mp z).1
        by_cases cj : j = i + 1
        · subst cj
          exact Nat.lt_irrefl _ z
        · exact not_bef (a.ag (i + 1) j h.sS Sj (by omega) hjn).1 z
      have hb : bef (put cur (code s (false, i))) (L s i) (L s j) := by
        rcases bef_tot (o := put cur (code s (false, i))) (pm.mem_iff.mpr mi) (pm.mem_iff.mpr mj) (fun z => nj z.symm) with z | z
        · exact z
        · exact absurd z notb
      refine ⟨hb, ?_⟩
      rw [dif_comm, d1]
      by_cases cj : j = i + 1
      · subst cj
        have e4 : dif cur (L s (i + 1)) (L s (i + 1)) = 4 := by
          unfold dif
          rw [if_pos rfl]
        have := hst i (by omega)
        rw [e4]
        omega
      · have q2 := (a.ag (i + 1) j h.sS Sj (by omega) hjn).2
        have q4 := lb_cat (o := s) (i := i) (j := i + 1) (k := j) (by omega) (by omega) (by omega)
        omega
  · have Si : S i := by
      rcases hi with z | z
      · exact z
      · exact absurd z ci
    by_cases cj : j = k
    · subst cj
      have ni := L_ne ws.nd hin hkn (by omega)
      have d1 := pd (L s i) mi (by rw [ly]; exact ni)
      have b1 := pb (L s i) mi (by rw [ly]; exact ni)
      rw [ly] at d1 b1
      cases b with
      | true =>
        have h : CanA s S j := h
        have h1 := h.lo
        have ea : (code s (true, j)).anc = L s (j - 1) := rfl
        have et : (code s (true, j)).str = T s (j - 1) := rfl
        rw [if_pos (show (code s (true, j)).aft = true from rfl), ea, et] at b1
        rw [ea, et] at d1
        have q5 := lb_one (o := s) (i := j - 1) (by omega)
        have e : j - 1 + 1 = j := by omega
        rw [e] at q5
        have notb : ¬ bef (put cur (code s (true, j))) (L s j) (L s i) := fun z => by
          have z := (b1.mp z).1
          by_cases c1 : i = j - 1
          · subst c1
            exact Nat.lt_irrefl _ z
          · exact not_bef (a.ag i (j - 1) Si h.sS (by omega) (by omega)).1 z
        have hb : bef (put cur (code s (true, j))) (L s i) (L s j) := by
          rcases bef_tot (o := put cur (code s (true, j))) (pm.mem_iff.mpr mi) (pm.mem_iff.mpr mj) ni with z | z
          · exact z
          · exact absurd z notb
        refine ⟨hb, ?_⟩
        rw [d1]
        by_cases c1 : i = j - 1
        · subst c1
          have e4 : dif cur (L s (j - 1)) (L s (j - 1)) = 4 := by
            unfold dif
            rw [if_pos rfl]
          have := hst (j - 1) (by omega)
          rw [e4]
          omega
        · have q2 := (a.ag i (j - 1) Si h.sS (by omega) (by omega)).2
          have q4 := lb_cat (o := s) (i := i) (j := j - 1) (k := j) (by omega) (by omega) (by omega)
          rw [dif_comm, q2]
          omega
      | false =>
        have h : CanB s S j := h
        have hj1 := h.hi
        have ea : (code s (false, j)).anc = L s (j + 1) := rfl
        have et : (code s (false, j)).str = T s j := rfl
        rw [if_neg (show ¬ (code s (false, j)).aft = true from Bool.false_ne_true), ea, et] at b1
        rw [ea, et] at d1
        obtain ⟨q1, q2⟩ := a.ag i (j + 1) Si h.sS (by omega) h.hi
        have q3 := h.le i Si hij
        have q4 := lb_cat (o := s) (i := i) (j := j) (k := j + 1) hij (by omega) (by omega)
        have q5 := lb_one (o := s) (i := j) (by omega)
        refine ⟨b1.mpr ⟨q1, ?_⟩, ?_⟩
        · rw [dif_comm, q2]
          omega
        · rw [d1, dif_comm, q2]
          omega
    · have Sj : S j := by
        rcases hj with z | z
        · exact z
        · exact absurd z cj
      obtain ⟨q1, q2⟩ := put_bef a.w u mi mj (by rw [ly]; exact L_ne ws.nd hin hkn ci) (by rw [ly]; exact L_ne ws.nd hjn hkn cj)
      obtain ⟨g1, g2⟩ := a.ag i j Si Sj hij hjn
      exact ⟨q1.mpr g1, q2.trans g2⟩
/-! ### runs of rules -/
def add (S : Nat → Prop) (cs : List (Bool × Nat)) : Nat → Prop := fun i => S i ∨ i ∈ cs.map (·.2)
def Run (s : Od α) : (Nat → Prop) → List (Bool × Nat) → Prop
  | _, [] => True
  | S, c :: cs => Can s S c ∧ Run s (fun i => S i ∨ i = c.2) cs
theorem Can.congr {S S' : Nat → Prop} (h : ∀ i, S i ↔ S' i) {c : Bool × Nat} (a : Can s S c) : Can s S' c := by
  have e : S = S' := funext fun i => propext (h i)
  rwa [← e]
theorem Run.congr {S S' : Nat → Prop} (h : ∀ i, S i ↔ S' i) {cs : List (Bool × Nat)} (a : Run s S cs) : Run s S' cs := by
  have e : S = S' := funext fun i => propext (h i)
  rwa [← e]
theorem Run.app {S : Nat → Prop} {as bs : List (Bool × Nat)} (h1 : Run s S as) (h2 : Run s (add S as) bs) : Run s S (as ++ bs) := by
  induction as generalizing S with
  | nil => exact h2.congr fun i => by simp [add]
  | cons c cs ih =>
    refine ⟨h1.1, ih h1.2 (h2.congr fun i => ?_)⟩
    simp only [add, List.map_cons, List.mem_cons]
    constructor
    · rintro (z | z | z)
      · exact .inl (.inl z)
      · exact .inl (.inr z)
      · exact .inr z
    · rintro ((z | z) | z)
      · exact .inl z
      · exact .inr (.inl z)
      · exact .inr (.inr z)
/-- all the way -/
theorem Run.go (ws : Wf s) (hst : ∀ k, k < s.2.length → T s k < 4) : ∀ {cs : List (Bool × Nat)} {S : Nat → Prop} {cur : Od α}, Agr cur s S → Run s S cs → ∀ n, n ≤ cs.length →
    Agr (((cs.take n).map (code s)).foldl put cur) s (add S (cs.take n)) ∧ ∀ h : n < cs.length, Can s (add S (cs.take n)) cs[n]
  | cs, S, cur, a, r, 0, _ => by
    refine ⟨?_, fun h => ?_⟩
    · have e : add S (cs.take 0) = S := funext fun i => by simp [add]
      rw [e]
      exact a
    · cases cs with
      | nil => simp at h
      | cons c cs =>
        have e : add S ((c :: cs).take 0) = S := funext fun i => by simp [add]
        rw [e]
        exact r.1
  | c :: cs, S, cur, a, r, n + 1, hn => by
    have ih := Run.go ws hst (cs := cs) (settle ws hst a r.1) r.2 n (by simpa using hn)
    have e : add S ((c :: cs).take (n + 1)) = add (fun i => S i ∨ i = c.2) (cs.take n) := by
      funext i
      simp only [add, List.take_succ_cons, List.map_cons, List.mem_cons, or_assoc]
    rw [e]
    exact ⟨ih.1, fun h => ih.2 (by simpa using h)⟩
/-- where everything agrees -/
theorem inc_id {f : Nat → Nat} {n : Nat} (h1 : ∀ i, i < n → f i < n) (h2 : ∀ i j, i < j → j < n → f i < f j) : ∀ i, i < n → f i = i := by
  have lo : ∀ i, i < n → i ≤ f i := by
    intro i
    induction i with
    | zero => intro _; omega
    | succ i ih =>
      intro hi
      have := h2 i (i + 1) (by omega) hi
      have := ih (by omega)
      omega
  have hi : ∀ d i, i + d + 1 = n → f i ≤ i := by
    intro d
    induction d with
    | zero =>
      intro i hi
      have := h1 i (by omega)
      omega
    | succ d ih =>
      intro i hi
      have := h2 i (i + 1) (by omega) (by omega)
      have := ih (i + 1) (by omega)
      omega
  intro i hin
  have := lo i hin
  have := hi (n - 1 - i) i (by omega)
  omega
theorem Agr.done (ws : Wf s) (a : Agr cur s S) (h : ∀ i, i < s.1.length → S i) : cur = s := by
  have hl := a.p.length_eq
  have wl := a.w.ln
  have sl := ws.ln
  have id := inc_id (f := fun i => cur.1.idxOf (L s i)) (n := s.1.length) (fun i hi => by rw [← hl]; exact List.idxOf_lt_length_of_mem (a.mem hi)) (fun i j hij hj => (a.ag i j (h i (by omega)) (h j hj) hij hj).1)
  have eL : ∀ i, i < s.1.length → L cur i = L s i := fun i hi => by
    have e := L_ix (o := cur) (a.mem hi)
    rwa [id i hi] at e
  refine ext_od hl (by omega) (fun i hi => eL i (by omega)) (fun i hi => ?_)
  have h1 : i + 1 < s.1.length := by omega
  have e := (a.ag i (i + 1) (h i (by omega)) (h _ h1) (by omega) h1).2
  rw [← eL i (by omega), ← eL (i + 1) h1, dif_L a.w.nd (by omega) (by omega), lb_one (by omega), lb_one (by omega)] at e
  exact e
/-! ### the codes of keeping -/
def codesL (lo hi : Nat) : List (Bool × Nat) := (List.range (hi - lo)).map fun k => (true, lo + k)
def codesR (lo hi : Nat) : List (Bool × Nat) := (List.range (hi - lo)).map fun k => (false, hi - 1 - k)
theorem codesL_eq {lo hi : Nat} (h : 1 ≤ lo) : (codesL lo hi).map (code s) = fromLeft s lo hi := by
  unfold codesL fromLeft
  rw [List.map_map]
  rfl
theorem codesR_eq {lo hi : Nat} : (codesR lo hi).map (code s) = fromRight s lo hi := by
  unfold codesR fromRight
  rw [List.map_map]
  rfl
theorem mem_codesL {lo hi i : Nat} : i ∈ (codesL lo hi).map (·.2) ↔ lo ≤ i ∧ i < hi := by
  unfold codesL
  rw [List.map_map]
  simp only [List.mem_map, List.mem_range, Function.comp]
  constructor
  · rintro ⟨k, hk, e⟩
    omega
  · rintro ⟨h1, h2⟩
    exact ⟨i - lo, by omega, by omega⟩
theorem mem_codesR {lo hi i : Nat} : i ∈ (codesR lo hi).map (·.2) ↔ lo ≤ i ∧ i < hi := by
  unfold codesR
  rw [List.map_map]
  simp only [List.mem_map, List.mem_range, Function.comp]
  constructor
  · rintro ⟨k, hk, e⟩
    omega
  · rintro ⟨h1, h2⟩
    exact ⟨hi - 1 - i, by omega, by omega⟩
theorem run_left {hi : Nat} : ∀ (m : Nat) {S : Nat → Prop} {lo : Nat}, hi - lo = m → 1 ≤ lo → hi ≤ s.1.length → S (lo - 1) → (∀ x, S x → lo ≤ x → hi ≤ x ∧ ∀ k, lo ≤ k → k < hi → x < s.1.length → lb s k x ≤ T s (k - 1)) → Run s S (codesL lo hi)
  | 0, S, lo, hm, h1, h2, hS, hx => by
    unfold codesL
    rw [hm]
    exact trivial
  | m + 1, S, lo, hm, h1, h2, hS, hx => by
    have e : codesL lo hi = (true, lo) :: codesL (lo + 1) hi := by
      unfold codesL
      have e2 : hi - (lo + 1) = m := by omega
      rw [hm, e2, List.range_succ_eq_map, List.map_cons, List.map_map]
      congr 1
      refine List.map_congr_left fun k _ => ?_
      show (true, lo + (k + 1)) = (true, lo + 1 + k)
      congr 1
      omega
    rw [e]
    refine ⟨⟨h1, by omega, hS, fun x hx1 hx2 hx3 => (hx x hx1 (by omega)).2 lo (Nat.le_refl _) (by omega) hx3⟩, run_left m (by omega) (by omega) h2 ?_ fun x hx1 hx2 => ?_⟩
    · right
      omega
    · rcases hx1 with z | z
      · exact ⟨(hx x z (by omega)).1, fun k k1 k2 k3 => (hx x z (by omega)).2 k (by omega) k2 k3⟩
      · have : x = lo := z
        omega
theorem run_right {lo : Nat} : ∀ (m : Nat) {S : Nat → Prop} {hi : Nat}, hi - lo = m → hi < s.1.length → S hi → (∀ x, S x → x < hi → x < lo ∧ ∀ k, lo ≤ k → k < hi → lb s x k ≤ T s k) → Run s S (codesR lo hi)
  | 0, S, hi, hm, h2, hS, hx => by
    unfold codesR
    rw [hm]
    exact trivial
  | m + 1, S, hi, hm, h2, hS, hx => by
    have e : codesR lo hi = (false, hi - 1) :: codesR lo (hi - 1) := by
      unfold codesR
      have e2 : hi - 1 - lo = m := by omega
      rw [hm, e2, List.range_succ_eq_map, List.map_cons, List.map_map]
      congr 1
      refine List.map_congr_left fun k _ => ?_
      show (false, hi - 1 - (k + 1)) = (false, hi - 1 - 1 - k)
      congr 1
      omega
    have e1 : hi - 1 + 1 = hi := by omega
    rw [e]
    refine ⟨⟨by show hi - 1 + 1 < _; omega, by show S (hi - 1 + 1); rw [e1]; exact hS, fun x hx1 hx2 => (hx x hx1 (by have : x < hi - 1 := hx2; omega)).2 (hi - 1) (by omega) (by omega)⟩, run_right m (by omega) (by omega) ?_ fun x hx1 hx2 => ?_⟩
    · right
      rfl
    · rcases hx1 with z | z
      · exact ⟨(hx x z (by omega)).1, fun k k1 k2 => (hx x z (by omega)).2 k k1 (by omega)⟩
      · have : x = hi - 1 := z
        omega
def codesG (s : Od α) (lo hi : Nat) : List (Bool × Nat) := codesL (lo + 1) (cutAt s lo hi + 1) ++ codesR (cutAt s lo hi + 1) hi
theorem codesG_eq {lo hi : Nat} : (codesG s lo hi).map (code s) = gapR s lo hi := by
  unfold codesG gapR
  rw [List.map_append, codesL_eq (by omega), codesR_eq]
theorem mem_codesG {lo hi i : Nat} (h : lo ≤ cutAt s lo hi) (h' : cutAt s lo hi < hi) : i ∈ (codesG s lo hi).map (·.2) ↔ lo < i ∧ i < hi := by
  unfold codesG
  rw [List.map_append, List.mem_append, mem_codesL, mem_codesR]
  omega
theorem cut_T {lo hi : Nat} (h : lo < hi) (h' : hi ≤ s.2.length) : T s (cutAt s lo hi) = lb s lo hi := by
  obtain ⟨_, _, m⟩ := cutAt_ok h h'
  have hl := List.idxOf_lt_length_of_mem m
  have e := List.getElem_idxOf hl
  have hl2 := hl
  rw [List.length_take, List.length_drop] at hl2
  rw [List.getElem_take, List.getElem_drop] at e
  have e2 : T s (cutAt s lo hi) = s.2[lo + ((s.2.drop lo).take (hi - lo)).idxOf (lb s lo hi)]'(by omega) := by
    unfold T cutAt
    rw [List.getD_eq_getElem?_getD, List.getElem?_eq_getElem (by omega)]
    rfl
  rw [e2]
  exact e
theorem run_gap (ws : Wf s) {lo hi : Nat} (h : lo < hi) (h' : hi < s.1.length) (h1 : S lo) (h2 : S hi) (h3 : ∀ x, S x → x ≤ lo ∨ hi ≤ x) : Run s S (codesG s lo hi) := by
  have hn := ws.ln
  obtain ⟨c1, c2, _⟩ := cutAt_ok (s := s) h (by omega)
  have ct := cut_T (s := s) h (by omega)
  have low := (lb_is (o := s) h (by omega)).le
  refine Run.app (run_left _ rfl (by omega) (by omega) (by show S (lo + 1 - 1); rw [Nat.add_sub_cancel]; exact h1) fun x hx hxl => ⟨?_, fun k k1 k2 k3 => ?_⟩) (run_right _ rfl h' (.inl h2) fun x hx hxh => ⟨?_, fun k k1 k2 => ?_⟩)
  · have := h3 x hx
    omega
  · have hxh : hi ≤ x := by
      have := h3 x hx
      omega
    have q1 := (lb_is (o := s) (i := k) (j := x) (by omega) (by omega)).le (cutAt s lo hi) (by omega) (by omega)
    have q2 := low (k - 1) (by omega) (by omega)
    omega
  · rcases hx with z | z
    · have := h3 x z
      omega
    · have := mem_codesL.mp z
      omega
  · have hxc : x ≤ cutAt s lo hi := by
      rcases hx with z | z
      · have := h3 x z
        omega
      · have := mem_codesL.mp z
        omega
    have q1 := (lb_is (o := s) (i := x) (j := k) (by omega) (by omega)).le (cutAt s lo hi) hxc (by omega)
    have q2 := low k (by omega) (by omega)
    omega
def codesGs (s : Od α) (qs : List (Nat × Nat)) : List (Bool × Nat) := qs.flatMap fun q => codesG s q.1 q.2
theorem codesGs_eq (qs : List (Nat × Nat)) : (codesGs s qs).map (code s) = gaps s qs := by
  unfold codesGs gaps
  rw [List.map_flatMap]
  congr 1
  funext q
  exact codesG_eq
theorem zip_cons {p q : Nat} {ps : List Nat} : (p :: q :: ps).zip ((p :: q :: ps).drop 1) = (p, q) :: (q :: ps).zip ((q :: ps).drop 1) := rfl
theorem run_gaps (ws : Wf s) : ∀ (ps : List Nat) (p : Nat) {S : Nat → Prop}, (p :: ps).Pairwise (· < ·) → (∀ q ∈ p :: ps, q < s.1.length) → (∀ q ∈ p :: ps, S q) → (∀ x, S x → x ≤ p ∨ x ∈ ps) →
    Run s S (codesGs s ((p :: ps).zip ((p :: ps).drop 1))) ∧ (∀ i, add S (codesGs s ((p :: ps).zip ((p :: ps).drop 1))) i ↔ S i ∨ (p < i ∧ i < (p :: ps).getLastD 0))
  | [], p, S, _, _, _, _ => ⟨trivial, fun i => by
      simp only [codesGs, add, List.drop_one, List.tail_cons, List.zip_nil_right, List.flatMap_nil, List.map_nil, List.not_mem_nil, or_false, List.getLastD_cons, List.getLastD_nil]
      constructor
      · exact .inl
      · rintro (z | z)
        · exact z
        · omega⟩
  | q :: ps, p, S, up, lt, inS, hS => by
    have hn := ws.ln
    obtain ⟨up1, up2⟩ := List.pairwise_cons.mp up
    have hpq : p < q := up1 q (by simp)
    have hqn := lt q (by simp)
    obtain ⟨c1, c2, _⟩ := cutAt_ok (s := s) hpq (by omega)
    have mg := fun i => mem_codesG (s := s) (lo := p) (hi := q) (i := i) c1 c2
    have far : ∀ x ∈ ps, q < x := fun x hx => (List.pairwise_cons.mp up2).1 x hx
    have g := run_gap (S := S) ws hpq hqn (inS p (by simp)) (inS q (by simp)) fun x hx => by
      rcases hS x hx with z | z
      · exact .inl z
      · rcases List.mem_cons.mp z with z | z
        · right
          omega
        · have := far x z
          right
          omega
    obtain ⟨r1, r2⟩ := run_gaps ws ps q (S := add S (codesG s p q)) up2 (fun x hx => lt x (by simp [List.mem_cons.mp hx])) (fun x hx => .inl (inS x (List.mem_cons_of_mem _ hx))) fun x hx => by
      rcases hx with z | z
      · rcases hS x z with z | z
        · left
          omega
        · rcases List.mem_cons.mp z with z | z
          · left
            omega
          · exact .inr z
      · have := (mg x).mp z
        left
        omega
    rw [zip_cons]
    have e : codesGs s ((p, q) :: (q :: ps).zip ((q :: ps).drop 1)) = codesG s p q ++ codesGs s ((q :: ps).zip ((q :: ps).drop 1)) := rfl
    rw [e]
    refine ⟨Run.app g r1, fun i => ?_⟩
    have ql : q ≤ (q :: ps).getLastD 0 := by
      cases ps with
      | nil => exact Nat.le_refl _
      | cons a b =>
        rw [List.getLastD_eq_getLast?, List.getLast?_eq_some_getLast (by simp)]
        have m : (q :: a :: b).getLast (by simp) ∈ a :: b := by
          rw [List.getLast_cons (by simp)]
          exact List.getLast_mem _
        have := far _ m
        exact Nat.le_of_lt this
    have e2 : add S (codesG s p q ++ codesGs s ((q :: ps).zip ((q :: ps).drop 1))) i ↔ add (add S (codesG s p q)) (codesGs s ((q :: ps).zip ((q :: ps).drop 1))) i := by
      simp only [add, List.map_append, List.mem_append, or_assoc]
    have e3 : (p :: q :: ps).getLastD 0 = (q :: ps).getLastD 0 := by
      rw [List.getLastD_cons, List.getLastD_cons, List.getLastD_cons]
    rw [e2, r2 i, e3]
    have hSq := inS q (by simp)
    have m1 := mg i
    constructor
    · rintro ((z | z) | z)
      · exact .inl z
      · have := m1.mp z
        right
        omega
      · right
        omega
    · rintro (z | z)
      · exact .inl (.inl z)
      · by_cases c : i < q
        · exact .inl (.inr (m1.mpr (by omega)))
        · by_cases c2 : i = q
          · exact .inl (.inl (c2 ▸ hSq))
          · right
            omega
end
end Mi
/-! Common lists, the distance, the way. -/
namespace Mi
section
variable {α : Type} [DecidableEq α] [Inhabited α] {f s a b c : Od α}
/-- orders of the same letters -/
structure Two (f s : Od α) : Prop where
  wf : Wf f
  ws : Wf s
  p : s.1.Perm f.1
theorem Two.mem (t : Two f s) {x : α} : x ∈ s.1 ↔ x ∈ f.1 := t.p.mem_iff
theorem Two.len (t : Two f s) : s.1.length = f.1.length := t.p.length_eq
theorem Two.symm (t : Two f s) : Two s f := ⟨t.ws, t.wf, t.p.symm⟩
theorem Two.trans (t : Two a b) (u : Two b c) : Two a c := ⟨t.wf, u.ws, u.p.trans t.p⟩
theorem Two.refl (w : Wf f) : Two f f := ⟨w, w, List.Perm.refl _⟩
theorem foll_iff (t : Two f s) {i j : Nat} (hij : i < j) (hj : j < s.1.length) : foll f s i j = true ↔ bef f (L s i) (L s j) ∧ dif f (L s i) (L s j) = lb s i j := by
  have hi : i < s.1.length := by omega
  have mi := t.mem.mp (L_mem (o := s) hi)
  have mj := t.mem.mp (L_mem (o := s) hj)
  have ne : f.1.idxOf (L s i) ≠ f.1.idxOf (L s j) := fun z => L_ne t.ws.nd hi hj (by omega) (ix_inj mi mj z)
  have e : foll f s i j = (decide (f.1.idxOf (L s i) ≤ f.1.idxOf (L s j)) && decide (lb f (f.1.idxOf (L s i)) (f.1.idxOf (L s j)) = lb s i j)) := by
    unfold foll
    rw [List.getElem?_eq_getElem hi, List.getElem?_eq_getElem hj, L_eq hi, L_eq hj]
  rw [e, Bool.and_eq_true, decide_eq_true_eq, decide_eq_true_eq]
  constructor
  · rintro ⟨h1, h2⟩
    have hb : bef f (L s i) (L s j) := by
      unfold bef
      omega
    exact ⟨hb, by rw [dif_bef hb, h2]⟩
  · rintro ⟨h1, h2⟩
    rw [dif_bef h1] at h2
    exact ⟨Nat.le_of_lt h1, h2⟩
theorem mem_link {i j : Nat} : j ∈ link f s i ↔ i < j ∧ j < s.1.length ∧ foll f s i j = true := by
  unfold link
  rw [List.mem_filter, List.mem_map]
  constructor
  · rintro ⟨⟨k, hk, e⟩, h⟩
    have := List.mem_range.mp hk
    exact ⟨by omega, by omega, h⟩
  · rintro ⟨h1, h2, h⟩
    exact ⟨⟨j - (i + 1), List.mem_range.mpr (by omega), by omega⟩, h⟩
theorem link_Lk : Lk (link f s) s.1.length := ⟨fun i j h => ⟨(mem_link.mp h).1, (mem_link.mp h).2.1⟩⟩
theorem link_trans (t : Two f s) {i j k : Nat} (h1 : j ∈ link f s i) (h2 : k ∈ link f s j) : k ∈ link f s i := by
  obtain ⟨a1, a2, a3⟩ := mem_link.mp h1
  obtain ⟨b1, b2, b3⟩ := mem_link.mp h2
  have hs := t.ws.ln
  have hf := t.wf.ln
  obtain ⟨c1, c2⟩ := (foll_iff t a1 a2).mp a3
  obtain ⟨d1, d2⟩ := (foll_iff t b1 b2).mp b3
  refine mem_link.mpr ⟨by omega, b2, (foll_iff t (by omega) b2).mpr ⟨Nat.lt_trans c1 d1, ?_⟩⟩
  have cd : bef f (L s i) (L s k) := Nat.lt_trans c1 d1
  have mk := List.idxOf_lt_length_of_mem (t.mem.mp (L_mem (o := s) b2))
  rw [dif_bef cd, lb_cat c1 d1 (by omega), lb_cat (o := s) a1 b1 (by omega), ← dif_bef c1, ← dif_bef d1, c2, d2]
theorem chain_pw (t : Two f s) : ∀ {c : List Nat}, Chain (link f s) c → c.Pairwise fun i j => j ∈ link f s i
  | [], _ => .nil
  | [i], _ => List.pairwise_singleton _ _
  | i :: j :: r, h => by
    have ih := chain_pw t h.2
    refine List.pairwise_cons.mpr ⟨fun k hk => ?_, ih⟩
    rcases List.mem_cons.mp hk with z | z
    · rw [z]
      exact h.1
    · exact link_trans t h.1 ((List.pairwise_cons.mp ih).1 k z)
theorem pw_chain {lk : Nat → List Nat} : ∀ {c : List Nat}, (c.Pairwise fun i j => j ∈ lk i) → Chain lk c
  | [], _ => trivial
  | [i], _ => trivial
  | i :: j :: r, h => ⟨(List.pairwise_cons.mp h).1 j (by simp), pw_chain (List.pairwise_cons.mp h).2⟩
theorem pw_mem {R : Nat → Nat → Prop} {c : List Nat} (h : c.Pairwise R) (hu : c.Pairwise (· < ·)) {i j : Nat} (hi : i ∈ c) (hj : j ∈ c) (hij : i < j) : R i j := by
  obtain ⟨p, hp, ep⟩ := List.mem_iff_getElem.mp hi
  obtain ⟨q, hq, eq⟩ := List.mem_iff_getElem.mp hj
  by_cases hpq : p < q
  · have := List.pairwise_iff_getElem.mp h p q hp hq hpq
    rwa [ep, eq] at this
  · exfalso
    by_cases e : p = q
    · subst e
      omega
    · have := List.pairwise_iff_getElem.mp hu q p hq hp (by omega)
      omega
theorem chain_up (t : Two f s) {c : List Nat} (h : Chain (link f s) c) : c.Pairwise (· < ·) := (chain_pw t h).imp fun h => (mem_link.mp h).1
/-- a chain is what both orders agree on -/
theorem chain_agr (t : Two f s) {c : List Nat} (h : Chain (link f s) c) : Agr f s (· ∈ c) := ⟨t.wf, t.p.symm, fun i j hi hj hij hjn => by
  have := pw_mem (chain_pw t h) (chain_up t h) hi hj hij
  exact (foll_iff t hij hjn).mp (mem_link.mp this).2.2⟩
/-! ### common letters -/
structure Com (f s : Od α) (K : List α) : Prop where
  nd : K.Nodup
  sub : ∀ x ∈ K, x ∈ f.1
  ag : ∀ x ∈ K, ∀ y ∈ K, bef f x y → bef s x y ∧ dif f x y = dif s x y
theorem Com.symm (t : Two f s) {K : List α} (h : Com f s K) : Com s f K := ⟨h.nd, fun x hx => t.mem.mpr (h.sub x hx), fun x hx y hy hb => by
  have ne : x ≠ y := fun z => by
    subst z
    exact Nat.lt_irrefl _ hb
  rcases bef_tot (h.sub x hx) (h.sub y hy) ne with z | z
  · exact ⟨z, (h.ag x hx y hy z).2.symm⟩
  · exact absurd (h.ag y hy x hx z).1 (not_bef hb)⟩
theorem com_le (t : Two f s) {K : List α} (h : Com f s K) : (K.length : Int) ≤ top (link f s) s.1.length := by
  have hs := t.ws.ln
  let c := (List.range s.1.length).filter fun i => decide (L s i ∈ K)
  have cm : ∀ i ∈ c, i < s.1.length ∧ L s i ∈ K := fun i hi => by
    obtain ⟨h1, h2⟩ := List.mem_filter.mp hi
    exact ⟨List.mem_range.mp h1, of_decide_eq_true h2⟩
  have up : c.Pairwise (· < ·) := List.Pairwise.filter _ List.pairwise_lt_range
  have hc : Chain (link f s) c := pw_chain (up.imp_of_mem fun {i j} hi hj hij => by
    obtain ⟨i1, i2⟩ := cm i hi
    obtain ⟨j1, j2⟩ := cm j hj
    have ne := L_ne t.ws.nd i1 j1 (by omega)
    have hb : bef f (L s i) (L s j) := by
      rcases bef_tot (h.sub _ i2) (h.sub _ j2) ne with z | z
      · exact z
      · exact absurd (h.ag _ j2 _ i2 z).1 (not_bef (bef_L t.ws.nd j1 hij))
    refine mem_link.mpr ⟨hij, j1, (foll_iff t hij j1).mpr ⟨hb, ?_⟩⟩
    rw [(h.ag _ i2 _ j2 hb).2, dif_L t.ws.nd j1 hij])
  have h1 := chain_top link_Lk hc fun i hi => (cm i hi).1
  have h2 : K.length ≤ c.length := by
    have e : (K.map s.1.idxOf).length = K.length := List.length_map _
    rw [← e]
    refine List.Nodup.length_le_of_subset ?_ fun i hi => ?_
    · refine List.pairwise_map.mpr (h.nd.imp_of_mem fun {x y} hx hy hne => fun z => hne ?_)
      exact ix_inj (t.mem.mpr (h.sub x hx)) (t.mem.mpr (h.sub y hy)) z
    · obtain ⟨x, hx, e⟩ := List.mem_map.mp hi
      have hm := t.mem.mpr (h.sub x hx)
      have hl := List.idxOf_lt_length_of_mem hm
      subst e
      refine List.mem_filter.mpr ⟨List.mem_range.mpr hl, decide_eq_true ?_⟩
      rw [L_ix hm]
      exact hx
  omega
theorem com_best (t : Two f s) (hn : 0 < s.1.length) : ∃ K, Com f s K ∧ (K.length : Int) = top (link f s) s.1.length := by
  obtain ⟨b1, b2, b3⟩ := best_ok (lk := link f s) link_Lk hn
  have ag := chain_agr t b1
  have up := chain_up t b1
  refine ⟨(best (link f s) s.1.length).map (L s), ⟨?_, fun x hx => ?_, fun x hx y hy hb => ?_⟩, by rw [List.length_map]; exact b3⟩
  · exact List.pairwise_map.mpr (up.imp_of_mem fun {i j} hi hj hij => L_ne t.ws.nd (b2 i hi) (b2 j hj) (by omega))
  · obtain ⟨i, hi, e⟩ := List.mem_map.mp hx
    subst e
    exact t.mem.mp (L_mem (b2 i hi))
  · obtain ⟨i, hi, e⟩ := List.mem_map.mp hx
    obtain ⟨j, hj, e2⟩ := List.mem_map.mp hy
    subst e e2
    have key : i < j := by
      apply Nat.lt_of_not_le
      intro hji
      by_cases e : i = j
      · subst e
        exact Nat.lt_irrefl _ hb
      · exact not_bef (ag.ag j i hj hi (by omega) (b2 i hi)).1 hb
    obtain ⟨q1, q2⟩ := ag.ag i j hi hj key (b2 j hj)
    exact ⟨bef_L t.ws.nd (b2 j hj) key, by rw [q2, dif_L t.ws.nd (b2 j hj) key]⟩
/-! ### the distance -/
def far (f s : Od α) : Int := (s.1.length : Int) - top (link f s) s.1.length
theorem com_far (t : Two f s) {K : List α} (h : Com f s K) : far f s ≤ (s.1.length : Int) - K.length := by
  have := com_le t h
  unfold far
  omega
theorem filter_two (p : α → Bool) : ∀ l : List α, (l.filter p).length + (l.filter fun x => !p x).length = l.length
  | [] => rfl
  | x :: l => by
    have ih := filter_two p l
    cases h : p x <;> simp [h] <;> omega
theorem far_tri (t : Two a b) (u : Two b c) (hn : 0 < c.1.length) : far a c ≤ far a b + far b c := by
  have lab := t.len
  have lbc := u.len
  obtain ⟨K, hK, eK⟩ := com_best t (by omega)
  obtain ⟨J, hJ, eJ⟩ := com_best u hn
  have hI : Com a c (K.filter fun x => decide (x ∈ J)) := ⟨hK.nd.filter _, fun x hx => hK.sub x (List.mem_filter.mp hx).1, fun x hx y hy hb => by
    obtain ⟨x1, x2⟩ := List.mem_filter.mp hx
    obtain ⟨y1, y2⟩ := List.mem_filter.mp hy
    obtain ⟨p1, p2⟩ := hK.ag x x1 y y1 hb
    obtain ⟨q1, q2⟩ := hJ.ag x (of_decide_eq_true x2) y (of_decide_eq_true y2) p1
    exact ⟨q1, p2.trans q2⟩⟩
  have h1 := com_far (t.trans u) hI
  have e1 : (K.filter fun x => decide (x ∈ J)).length + (K.filter fun x => !decide (x ∈ J)).length = K.length := by
    exact filter_two _ K
  have e2 : (K.filter fun x => !decide (x ∈ J)).length + J.length ≤ c.1.length := by
    rw [← List.length_append]
    refine List.Nodup.length_le_of_subset (List.nodup_append.mpr ⟨hK.nd.filter _, hJ.nd, fun x hx y hy z => ?_⟩) fun x hx => ?_
    · subst z
      have := (List.mem_filter.mp hx).2
      simp [hy] at this
    · rcases List.mem_append.mp hx with z | z
      · exact u.mem.mpr (t.mem.mpr (hK.sub x (List.mem_filter.mp z).1))
      · exact u.mem.mpr (hJ.sub x z)
  unfold far at *
  omega
theorem far_self (w : Wf a) : far a a ≤ 0 := by
  have h : Com a a a.1 := ⟨w.nd, fun x hx => hx, fun x _ y _ hb => ⟨hb, rfl⟩⟩
  have := com_far (Two.refl w) h
  omega
theorem far_step (t : Two a b) {y : α} (hy : y ∈ a.1) (h : rem a y = rem b y) : far a b ≤ 1 := by
  have hyb := t.mem.mpr hy
  have l1 := rem_len1 (o := a) hy
  have l2 := t.len
  have hC : Com a b (rem a y).1 := ⟨by rw [rem_fst]; exact t.wf.nd.erase _, fun x hx => ((rem_mem t.wf).mp hx).2, fun x hx z hz hb => by
    obtain ⟨x1, x2⟩ := (rem_mem t.wf).mp hx
    obtain ⟨z1, z2⟩ := (rem_mem t.wf).mp hz
    have x3 := t.mem.mpr x2
    have z3 := t.mem.mpr z2
    have b1 := (bef_rem t.wf hy x2 z2 x1 z1).mpr hb
    rw [h] at b1
    refine ⟨(bef_rem t.ws hyb x3 z3 x1 z1).mp b1, ?_⟩
    rw [← dif_rem t.wf hy x2 z2 x1 z1, h, dif_rem t.ws hyb x3 z3 x1 z1]⟩
  have := com_far t hC
  omega
theorem far_pos (t : Two f s) (hn : 0 < s.1.length) : 0 ≤ far f s := by
  obtain ⟨K, hK, e⟩ := com_best t hn
  have : K.length ≤ s.1.length := List.Nodup.length_le_of_subset hK.nd fun x hx => t.mem.mpr (hK.sub x hx)
  unfold far
  omega
/-! ### the way -/
def keepC (s : Od α) (ps : List Nat) : List (Bool × Nat) := codesR 0 (ps.headD 0) ++ codesGs s (ps.zip (ps.drop 1)) ++ codesL (ps.getLastD 0 + 1) s.1.length
theorem keepC_eq (ps : List Nat) : (keepC s ps).map (code s) = keepR s ps := by
  unfold keepC keepR
  rw [List.map_append, List.map_append, codesR_eq, codesGs_eq, codesL_eq (by omega)]
theorem keep_run (ws : Wf s) {ps : List Nat} (ne : ps ≠ []) (lt : ∀ p ∈ ps, p < s.1.length) (up : ps.Pairwise (· < ·)) : Run s (· ∈ ps) (keepC s ps) ∧ ∀ i, i < s.1.length → add (· ∈ ps) (keepC s ps) i := by
  cases ps with
  | nil => exact absurd rfl ne
  | cons p ps =>
    have hp := lt p (by simp)
    have far : ∀ x ∈ ps, p < x := fun x hx => (List.pairwise_cons.mp up).1 x hx
    have r1 : Run s (· ∈ p :: ps) (codesR 0 p) := run_right _ rfl hp (by simp) fun x hx hxp => by
      rcases List.mem_cons.mp hx with z | z
      · omega
      · have := far x z
        omega
    obtain ⟨r2, r3⟩ := run_gaps ws ps p (S := add (· ∈ p :: ps) (codesR 0 p)) up lt (fun q hq => .inl hq) fun x hx => by
      rcases hx with z | z
      · rcases List.mem_cons.mp z with z | z
        · left
          omega
        · exact .inr z
      · have := mem_codesR.mp z
        left
        omega
    have hS : ∀ i, add (· ∈ p :: ps) (codesR 0 p ++ codesGs s ((p :: ps).zip ((p :: ps).drop 1))) i ↔ add (add (· ∈ p :: ps) (codesR 0 p)) (codesGs s ((p :: ps).zip ((p :: ps).drop 1))) i := fun i => by
      simp only [add, List.map_append, List.mem_append, or_assoc]
    have lm : (p :: ps).getLastD 0 ∈ p :: ps := by
      rw [List.getLastD_eq_getLast?, List.getLast?_eq_some_getLast (by simp)]
      exact List.getLast_mem _
    have lbig : ∀ x ∈ p :: ps, x ≤ (p :: ps).getLastD 0 := fun x hx => by
      rw [List.getLastD_eq_getLast?, List.getLast?_eq_getElem?, List.getElem?_eq_getElem (by simp)]
      obtain ⟨i, hi, e⟩ := List.mem_iff_getElem.mp hx
      show x ≤ (p :: ps)[(p :: ps).length - 1]
      by_cases c : i = (p :: ps).length - 1
      · subst c
        omega
      · have := List.pairwise_iff_getElem.mp up i ((p :: ps).length - 1) hi (by simp) (by omega)
        omega
    have bound : ∀ x, add (· ∈ p :: ps) (codesR 0 p ++ codesGs s ((p :: ps).zip ((p :: ps).drop 1))) x ↔ x ≤ (p :: ps).getLastD 0 := fun x => by
      rw [hS, r3]
      constructor
      · rintro ((z | z) | z)
        · exact lbig x z
        · have := mem_codesR.mp z
          have := lbig p (by simp)
          omega
        · omega
      · intro hx
        by_cases c1 : x < p
        · exact .inl (.inr (mem_codesR.mpr (by omega)))
        · by_cases c2 : x = p
          · exact .inl (.inl (by simp [c2]))
          · by_cases c3 : x = (p :: ps).getLastD 0
            · rw [c3]
              exact .inl (.inl lm)
            · right
              omega
    have r4 : Run s (add (· ∈ p :: ps) (codesR 0 p ++ codesGs s ((p :: ps).zip ((p :: ps).drop 1)))) (codesL ((p :: ps).getLastD 0 + 1) s.1.length) :=
      run_left _ rfl (by omega) (Nat.le_refl _) (by rw [Nat.add_sub_cancel]; exact (bound _).mpr (Nat.le_refl _)) fun x hx hxl => by
        have := (bound x).mp hx
        omega
    refine ⟨Run.app (Run.app r1 r2) r4, fun i hi => ?_⟩
    have e : add (· ∈ p :: ps) (keepC s (p :: ps)) i ↔ add (· ∈ p :: ps) (codesR 0 p ++ codesGs s ((p :: ps).zip ((p :: ps).drop 1))) i ∨ i ∈ (codesL ((p :: ps).getLastD 0 + 1) s.1.length).map (·.2) := by
      show ((i ∈ p :: ps) ∨ i ∈ ((codesR 0 p ++ codesGs s ((p :: ps).zip ((p :: ps).drop 1))) ++ codesL ((p :: ps).getLastD 0 + 1) s.1.length).map (·.2)) ↔ _
      rw [List.map_append, List.mem_append, ← or_assoc]
      exact Iff.rfl
    rw [e]
    by_cases c : i ≤ (p :: ps).getLastD 0
    · exact .inl ((bound i).mpr c)
    · right
      exact mem_codesL.mpr (by omega)
theorem codesG_len {lo hi : Nat} (h : lo ≤ cutAt s lo hi) (h' : cutAt s lo hi < hi) : (codesG s lo hi).length + lo + 1 = hi := by
  unfold codesG codesL codesR
  simp only [List.length_append, List.length_map, List.length_range]
  omega
theorem codesGs_len (ws : Wf s) : ∀ (ps : List Nat) (p : Nat), (p :: ps).Pairwise (· < ·) → (∀ q ∈ p :: ps, q < s.1.length) → (codesGs s ((p :: ps).zip ((p :: ps).drop 1))).length + p + ps.length = (p :: ps).getLastD 0
  | [], p, _, _ => by simp [codesGs]
  | q :: ps, p, up, lt => by
    have hn := ws.ln
    obtain ⟨up1, up2⟩ := List.pairwise_cons.mp up
    have hpq : p < q := up1 q (by simp)
    have hqn := lt q (by simp)
    obtain ⟨c1, c2, _⟩ := cutAt_ok (s := s) hpq (by omega)
    have ih := codesGs_len ws ps q up2 fun x hx => lt x (List.mem_cons_of_mem _ hx)
    have g := codesG_len c1 c2
    have e : codesGs s ((p :: q :: ps).zip ((p :: q :: ps).drop 1)) = codesG s p q ++ codesGs s ((q :: ps).zip ((q :: ps).drop 1)) := rfl
    have e3 : (p :: q :: ps).getLastD 0 = (q :: ps).getLastD 0 := by
      rw [List.getLastD_cons, List.getLastD_cons, List.getLastD_cons]
    rw [e, e3, List.length_append, List.length_cons]
    omega
theorem keepC_len (ws : Wf s) {ps : List Nat} (ne : ps ≠ []) (lt : ∀ p ∈ ps, p < s.1.length) (up : ps.Pairwise (· < ·)) : (keepC s ps).length + ps.length = s.1.length := by
  cases ps with
  | nil => exact absurd rfl ne
  | cons p ps =>
    have h := codesGs_len ws ps p up lt
    have lm : (p :: ps).getLastD 0 ∈ p :: ps := by
      rw [List.getLastD_eq_getLast?, List.getLast?_eq_some_getLast (by simp)]
      exact List.getLast_mem _
    have := lt _ lm
    have e1 : (codesR 0 p).length = p := by
      unfold codesR
      rw [List.length_map, List.length_range]
      omega
    have e2 : (codesL ((p :: ps).getLastD 0 + 1) s.1.length).length = s.1.length - ((p :: ps).getLastD 0 + 1) := by
      unfold codesL
      rw [List.length_map, List.length_range]
    have e3 : (p :: ps).headD 0 = p := rfl
    unfold keepC
    rw [List.length_append, List.length_append, e2, e3, e1, List.length_cons]
    omega
end
end Mi
/-! The law's distance; strengths of what is put. -/
namespace Mi
/-- the longest behind turn j -/
def lon (p : Nat → Bool) (bs : List Int) (j : Nat) : Int := (List.range j).foldl (fun a i => if p i then max a (bs.getD i 0) else a) 0
def bst (fo : Nat → Nat → Bool) : Nat → List Int
  | 0 => []
  | k + 1 => bst fo k ++ [lon (fun i => fo i k) (bst fo k) k + 1]
theorem lon_succ (p : Nat → Bool) (bs : List Int) (j : Nat) : lon p bs (j + 1) = if p j then max (lon p bs j) (bs.getD j 0) else lon p bs j := by
  unfold lon
  rw [List.range_succ, List.foldl_append]
  rfl
theorem bst_len (fo : Nat → Nat → Bool) (k : Nat) : (bst fo k).length = k := by
  induction k with
  | zero => rfl
  | succ k ih => rw [bst, List.length_append, ih]; rfl
theorem lon_all (p : Nat → Bool) (bs : List Int) (j : Nat) : 0 ≤ lon p bs j ∧ (∀ i, i < j → p i = true → bs.getD i 0 ≤ lon p bs j) ∧ (lon p bs j = 0 ∨ ∃ i, i < j ∧ p i = true ∧ lon p bs j = bs.getD i 0) := by
  induction j with
  | zero => exact ⟨Int.le_refl _, fun i hi => by omega, .inl rfl⟩
  | succ j ih =>
    obtain ⟨h1, h2, h3⟩ := ih
    rw [lon_succ]
    cases hp : p j with
    | true =>
      rw [if_pos rfl]
      refine ⟨by omega, fun i hi hpi => ?_, ?_⟩
      · by_cases e : i = j
        · subst e
          omega
        · have := h2 i (by omega) hpi
          omega
      · by_cases c : bs.getD j 0 ≤ lon p bs j
        · rw [Int.max_eq_left c]
          rcases h3 with z | ⟨i, hi, hpi, z⟩
          · exact .inl z
          · exact .inr ⟨i, by omega, hpi, z⟩
        · exact .inr ⟨j, by omega, hp, by omega⟩
    | false =>
      rw [if_neg Bool.false_ne_true]
      refine ⟨h1, fun i hi hpi => ?_, ?_⟩
      · by_cases e : i = j
        · subst e
          rw [hp] at hpi
          cases hpi
        · exact h2 i (by omega) hpi
      · rcases h3 with z | ⟨i, hi, hpi, z⟩
        · exact .inl z
        · exact .inr ⟨i, by omega, hpi, z⟩
theorem bst_keep (fo : Nat → Nat → Bool) {i k : Nat} (h : i < k) : ∀ n, k ≤ n → (bst fo n).getD i 0 = (bst fo k).getD i 0 := by
  intro n hn
  induction n with
  | zero => omega
  | succ n ih =>
    by_cases c : k = n + 1
    · rw [c]
    · rw [bst, getD_app, bst_len, if_pos (by omega), ih (by omega)]
theorem bst_at (fo : Nat → Nat → Bool) {k n : Nat} (h : k < n) : (bst fo n).getD k 0 = lon (fun i => fo i k) (bst fo n) k + 1 := by
  rw [bst_keep fo (show k < k + 1 by omega) n h, bst, getD_app, bst_len, if_neg (by omega), Nat.sub_self, getD_one, if_pos rfl]
  congr 1
  have gen : ∀ j, j ≤ k → lon (fun i => fo i k) (bst fo k) j = lon (fun i => fo i k) (bst fo n) j := by
    intro j
    induction j with
    | zero => intro _; rfl
    | succ j ih =>
      intro hj
      rw [lon_succ, lon_succ, ih (by omega), bst_keep fo (show j < k by omega) n (by omega)]
  exact gen k (Nat.le_refl _)
theorem chain_unsnoc {lk : Nat → List Nat} : ∀ {c : List Nat} {i j : Nat}, Chain lk (c ++ [i] ++ [j]) → Chain lk (c ++ [i]) ∧ j ∈ lk i
  | [], i, j, h => ⟨trivial, h.1⟩
  | [a], i, j, h => ⟨⟨h.1, trivial⟩, h.2.1⟩
  | a :: b :: r, i, j, h => by
    obtain ⟨h1, h2⟩ := chain_unsnoc (c := b :: r) (i := i) (j := j) h.2
    exact ⟨⟨h.1, h1⟩, h2⟩
section
variable {fo : Nat → Nat → Bool} {lk : Nat → List Nat} {n : Nat}
theorem bst_up (hl : ∀ i j, j ∈ lk i ↔ i < j ∧ j < n ∧ fo i j = true) : ∀ (m k : Nat), k ≤ m → k < n → ∃ c, Chain lk (c ++ [k]) ∧ (∀ i ∈ c, i < n) ∧ ((c.length : Nat) : Int) + 1 = (bst fo n).getD k 0 := by
  intro m
  induction m with
  | zero =>
    intro k hk hn
    have e : k = 0 := by omega
    subst e
    refine ⟨[], trivial, fun i hi => by simp at hi, ?_⟩
    rw [bst_at fo hn]
    rfl
  | succ m ih =>
    intro k hk hn
    rw [bst_at fo hn]
    rcases (lon_all (fun i => fo i k) (bst fo n) k).2.2 with z | ⟨i, hi, hp, z⟩
    · exact ⟨[], trivial, fun i hi => by simp at hi, by rw [z]; rfl⟩
    · obtain ⟨c, h1, h2, h3⟩ := ih i (by omega) (by omega)
      refine ⟨c ++ [i], chain_snoc h1 ((hl i k).mpr ⟨hi, hn, hp⟩), fun j hj => ?_, ?_⟩
      · rcases List.mem_append.mp hj with z | z
        · exact h2 j z
        · have := List.mem_singleton.mp z
          omega
      · rw [z, List.length_append, List.length_singleton]
        omega
theorem bst_low (hl : ∀ i j, j ∈ lk i ↔ i < j ∧ j < n ∧ fo i j = true) : ∀ (m : Nat) (c : List Nat) (k : Nat), c.length = m → k < n → Chain lk (c ++ [k]) → ((c.length : Nat) : Int) + 1 ≤ (bst fo n).getD k 0 := by
  intro m
  induction m with
  | zero =>
    intro c k hc hn _
    rw [bst_at fo hn]
    have := (lon_all (fun i => fo i k) (bst fo n) k).1
    omega
  | succ m ih =>
    intro c k hc hn h
    obtain ⟨c', i, e⟩ : ∃ c' i, c = c' ++ [i] := ⟨c.dropLast, c.getLast (by intro z; rw [z] at hc; simp at hc), (List.dropLast_concat_getLast _).symm⟩
    subst e
    obtain ⟨h1, h2⟩ := chain_unsnoc h
    obtain ⟨a1, a2, a3⟩ := (hl i k).mp h2
    rw [List.length_append, List.length_singleton] at hc
    have g := ih c' i (by omega) (by omega) h1
    rw [bst_at fo hn]
    have := (lon_all (fun i => fo i k) (bst fo n) k).2.1 i a1 a3
    rw [List.length_append, List.length_singleton]
    omega
theorem bst_top (hl : ∀ i j, j ∈ lk i ↔ i < j ∧ j < n ∧ fo i j = true) (hn : 0 < n) : lmax (bst fo n ++ [0]) = top lk n := by
  have hk : Lk lk n := ⟨fun i j h => ⟨((hl i j).mp h).1, ((hl i j).mp h).2.1⟩⟩
  have le : lmax (bst fo n ++ [0]) ≤ top lk n := by
    have m := lmax_mem (ns := bst fo n ++ [0]) (by simp)
    rcases List.mem_append.mp m with z | z
    · obtain ⟨k, hkk, e⟩ := List.mem_iff_getElem.mp z
      have hkn : k < n := by rwa [bst_len] at hkk
      obtain ⟨c, h1, h2, h3⟩ := bst_up hl k k (Nat.le_refl _) hkn
      have := chain_top hk h1 fun j hj => by
        rcases List.mem_append.mp hj with z | z
        · exact h2 j z
        · have := List.mem_singleton.mp z
          omega
      rw [List.getD_eq_getElem?_getD, List.getElem?_eq_getElem hkk, Option.getD_some, e] at h3
      rw [List.length_append, List.length_singleton] at this
      omega
    · have := top_pos hk hn
      have := List.mem_singleton.mp z
      omega
  have ge : top lk n ≤ lmax (bst fo n ++ [0]) := by
    obtain ⟨b1, b2, b3⟩ := best_ok hk hn
    have tp := top_pos hk hn
    obtain ⟨c', i, e⟩ : ∃ c' i, best lk n = c' ++ [i] := ⟨(best lk n).dropLast, (best lk n).getLast (by intro z; rw [z] at b3; simp at b3; omega), (List.dropLast_concat_getLast _).symm⟩
    rw [e] at b1 b2 b3
    have hin := b2 i (by simp)
    have g := bst_low hl _ c' i rfl hin b1
    rw [List.length_append, List.length_singleton] at b3
    have m : (bst fo n).getD i 0 ≤ lmax (bst fo n ++ [0]) := by
      refine le_lmax (List.mem_append.mpr (.inl ?_))
      have hlen : i < (bst fo n).length := by rw [bst_len]; exact hin
      rw [List.getD_eq_getElem?_getD, List.getElem?_eq_getElem hlen]
      exact List.getElem_mem hlen
    omega
  omega
end
section
variable {α : Type} [DecidableEq α] [Inhabited α] {f s o : Od α}
theorem far_law (t : Two f s) (hn : 0 < s.1.length) : (s.1.length : Int) - lmax (bst (foll f s) s.1.length ++ [0]) = far f s := by
  rw [bst_top (lk := link f s) (fun i j => mem_link) hn]
  rfl
/-- strengths from 1 to 3 -/
def Str3 (o : Od α) : Prop := ∀ t ∈ o.2, 1 ≤ t ∧ t ≤ 3
theorem str_rem (w : Wf o) (h : Str3 o) {y : α} (hy : y ∈ o.1) : Str3 (rem o y) := fun t ht => by
  obtain ⟨i, hi, e⟩ := List.mem_iff_getElem.mp ht
  have l2 := rem_len2 w hy
  have e1 := rem_T w hy hi
  unfold T at e1
  rw [List.getD_eq_getElem?_getD, List.getElem?_eq_getElem hi, Option.getD_some, e] at e1
  have g : ∀ j, j < o.2.length → 1 ≤ o.2.getD j 0 ∧ o.2.getD j 0 ≤ 3 := fun j hj => by
    rw [List.getD_eq_getElem?_getD, List.getElem?_eq_getElem hj, Option.getD_some]
    exact h _ (List.getElem_mem hj)
  have g1 := g i (by omega)
  have g2 := g (i + 1) (by omega)
  rw [e1]
  split
  · exact g1
  · split
    · omega
    · exact g2
theorem str_rev (h : Str3 o) : Str3 (rev o) := fun t ht => h t (by unfold rev at ht; simpa using ht)
theorem str_putA (h : Str3 o) {a y : α} {t : Int} (ht : 1 ≤ t ∧ t ≤ 3) : Str3 (putA o a t y) := fun u hu => by
  rw [putA_eq] at hu
  simp only [List.mem_append, List.mem_singleton] at hu
  rcases hu with (z | z) | z
  · exact h u (List.mem_of_mem_take z)
  · rw [z]
    exact ht
  · exact h u (List.mem_of_mem_drop z)
theorem str_put (w : Wf o) (h : Str3 o) {r : Rl α} (u : Usable o r) (ht : 1 ≤ r.str ∧ r.str ≤ 3) : Str3 (put o r) := by
  have h1 := str_rem w h u.y
  unfold put
  rw [if_pos u.y]
  cases r.aft with
  | true => exact str_putA h1 ht
  | false => exact str_rev (str_putA (str_rev h1) ht)
/-! ### the way -/
theorem code_str (h : Str3 s) (ws : Wf s) {S : Nat → Prop} {c : Bool × Nat} (hc : Can s S c) : 1 ≤ (code s c).str ∧ (code s c).str ≤ 3 := by
  have hn := ws.ln
  have g : ∀ j, j < s.2.length → 1 ≤ T s j ∧ T s j ≤ 3 := fun j hj => by
    unfold T
    rw [List.getD_eq_getElem?_getD, List.getElem?_eq_getElem hj, Option.getD_some]
    exact h _ (List.getElem_mem hj)
  obtain ⟨b, k⟩ := c
  cases b with
  | true =>
    have hc : CanA s S k := hc
    have := hc.lo
    have := hc.hi
    exact g (k - 1) (by omega)
  | false =>
    have hc : CanB s S k := hc
    have := hc.hi
    exact g k (by omega)
structure WayOk (f s : Od α) (rs : List (Rl α)) : Prop where
  len : ((rs.length : Nat) : Int) = far f s
  use : ∀ i (h : i < rs.length), Usable ((rs.take i).foldl put f) rs[i]
  two : ∀ i, i ≤ rs.length → Two f ((rs.take i).foldl put f) ∧ Str3 ((rs.take i).foldl put f)
  last : rs.foldl put f = s
theorem best_pw (t : Two f s) (hn : 0 < s.1.length) : (best (link f s) s.1.length) ≠ [] ∧ (∀ p ∈ best (link f s) s.1.length, p < s.1.length) ∧ (best (link f s) s.1.length).Pairwise (· < ·) ∧ ((best (link f s) s.1.length).length : Int) = top (link f s) s.1.length := by
  obtain ⟨b1, b2, b3⟩ := best_ok (lk := link f s) link_Lk hn
  have tp := top_pos (lk := link f s) link_Lk hn
  refine ⟨fun z => ?_, b2, chain_up t b1, b3⟩
  rw [z] at b3
  simp at b3
  omega
theorem way_ok (t : Two f s) (hf : Str3 f) (hs : Str3 s) (hn : 0 < s.1.length) : WayOk f s (keepR s (best (link f s) s.1.length)) := by
  obtain ⟨b1, b2, b3⟩ := best_ok (lk := link f s) link_Lk hn
  obtain ⟨ne, lt, up, eq⟩ := best_pw t hn
  have ag := chain_agr t b1
  have sn := t.ws.ln
  have hst : ∀ k, k < s.2.length → T s k < 4 := fun k hk => by
    unfold T
    rw [List.getD_eq_getElem?_getD, List.getElem?_eq_getElem hk, Option.getD_some]
    have := (hs _ (List.getElem_mem hk)).2
    omega
  obtain ⟨r1, r2⟩ := keep_run t.ws ne lt up
  have kl := keepC_len t.ws ne lt up
  have go := fun n h => Run.go t.ws hst ag r1 n h
  rw [← keepC_eq]
  have ml : ((keepC s (best (link f s) s.1.length)).map (code s)).length = (keepC s (best (link f s) s.1.length)).length := List.length_map _
  have tk : ∀ i, ((keepC s (best (link f s) s.1.length)).map (code s)).take i = ((keepC s (best (link f s) s.1.length)).take i).map (code s) := fun i => (List.map_take).symm
  have us : ∀ i (h : i < ((keepC s (best (link f s) s.1.length)).map (code s)).length), Usable ((((keepC s (best (link f s) s.1.length)).map (code s)).take i).foldl put f) ((keepC s (best (link f s) s.1.length)).map (code s))[i] := fun i h => by
    rw [ml] at h
    obtain ⟨g1, g2⟩ := go i (by omega)
    rw [tk, List.getElem_map]
    exact usable t.ws hst g1 (g2 h)
  refine ⟨?_, us, fun i hi => ?_, ?_⟩
  · rw [ml]
    unfold far
    omega
  · induction i with
    | zero => exact ⟨Two.refl t.wf, hf⟩
    | succ i ih =>
      obtain ⟨h1, h2⟩ := ih (by omega)
      have u := us i hi
      have e : (((keepC s (best (link f s) s.1.length)).map (code s)).take (i + 1)).foldl put f = put ((((keepC s (best (link f s) s.1.length)).map (code s)).take i).foldl put f) ((keepC s (best (link f s) s.1.length)).map (code s))[i] := by
        rw [List.take_add_one, List.getElem?_eq_getElem hi, List.foldl_append]
        rfl
      rw [e]
      have w1 := h1.ws
      refine ⟨⟨t.wf, put_wf w1 u, (put_perm w1 u).trans h1.p⟩, str_put w1 h2 u ?_⟩
      rw [List.getElem_map]
      rw [ml] at hi
      exact code_str hs t.ws ((go i (by omega)).2 hi)
  · obtain ⟨g1, _⟩ := go _ (Nat.le_refl _)
    rw [List.take_length] at g1
    exact g1.done t.ws r2
end
end Mi
/-! Rows of steps. -/
namespace Mi
section
variable {α : Type} [DecidableEq α] [Inhabited α] {f s o : Od α}
def stepB (f s : Od α) : Bool := !decide (f = s) && f.1.any fun x => decide (rem f x = rem s x)
theorem stepB_far (t : Two f s) (h : stepB f s = true) : far f s ≤ 1 := by
  obtain ⟨_, h2⟩ := Bool.and_eq_true_iff.mp h
  obtain ⟨x, hx, e⟩ := List.any_eq_true.mp h2
  exact far_step t hx (of_decide_eq_true e)
theorem far_path {q : Nat → Od α} {m : Nat} (h2 : ∀ i, i ≤ m → Two f (q i)) (hn : 0 < f.1.length) (h1 : ∀ i, i < m → far (q i) (q (i + 1)) ≤ 1) (i : Nat) : ∀ j, i ≤ j → j ≤ m → far (q i) (q j) ≤ (j : Int) - i := by
  intro j hij
  induction j with
  | zero =>
    intro hj
    have e : i = 0 := by omega
    subst e
    have := far_self (h2 0 hj).ws
    omega
  | succ j ih =>
    intro hj
    by_cases c : i = j + 1
    · subst c
      have := far_self (h2 (j + 1) hj).ws
      omega
    · have a := ih (by omega) (by omega)
      have b := h1 j (by omega)
      have t1 := h2 i (by omega)
      have t2 := h2 j (by omega)
      have t3 := h2 (j + 1) hj
      have := far_tri (t1.symm.trans t2) (t2.symm.trans t3) (by rw [t3.len]; exact hn)
      omega
theorem way_steps {rs : List (Rl α)} (t : Two f s) (hn : 0 < s.1.length) (w : WayOk f s rs) {i : Nat} (hi : i < rs.length) : stepB ((rs.take i).foldl put f) ((rs.take (i + 1)).foldl put f) = true := by
  have hnf : 0 < f.1.length := by rw [← t.len]; exact hn
  have e : ∀ i (h : i < rs.length), (rs.take (i + 1)).foldl put f = put ((rs.take i).foldl put f) rs[i] := fun i h => by
    rw [List.take_add_one, List.getElem?_eq_getElem h, List.foldl_append]
    rfl
  have two := fun i h => (w.two i h).1
  have one : ∀ i, i < rs.length → far ((rs.take i).foldl put f) ((rs.take (i + 1)).foldl put f) ≤ 1 := fun i h => by
    have u := w.use i h
    have t1 := two i (by omega)
    have t2 := two (i + 1) h
    refine far_step (t1.symm.trans t2) u.y ?_
    rw [e i h, put_rem t1.ws u]
  have u := w.use i hi
  have t1 := two i (by omega)
  refine Bool.and_eq_true_iff.mpr ⟨?_, List.any_eq_true.mpr ⟨_, u.y, decide_eq_true ?_⟩⟩
  · have ne : ¬ (rs.take i).foldl put f = (rs.take (i + 1)).foldl put f := fun z => by
      have p := far_path (q := fun i => (rs.take i).foldl put f) (m := rs.length) two hnf one
      have a := p 0 i (by omega) (by omega)
      have b := p (i + 1) rs.length (by omega) (Nat.le_refl _)
      have e0 : (rs.take 0).foldl put f = f := rfl
      have e1 : (rs.take rs.length).foldl put f = s := by rw [List.take_length]; exact w.last
      simp only [e0, e1] at a b
      rw [← z] at b
      have tr := far_tri t1 (t1.symm.trans t) hn
      have := w.len
      omega
    simp [ne]
  · rw [e i hi, put_rem t1.ws u]
/-- what a row of steps of the right length tells -/
theorem row_far {q : Nat → Od α} {m : Nat} (t : Two f s) (hn : 0 < s.1.length) (h2 : ∀ i, i ≤ m → Two f (q i)) (h0 : q 0 = f) (hm : q m = s) (h1 : ∀ i, i < m → far (q i) (q (i + 1)) ≤ 1) (hl : (m : Int) ≤ far f s) :
    (m : Int) = far f s ∧ ∀ i, i ≤ m → far f (q i) + far (q i) s = far f s := by
  have hnf : 0 < f.1.length := by rw [← t.len]; exact hn
  have p := far_path h2 hnf h1
  have a := p 0 m (by omega) (Nat.le_refl _)
  rw [h0, hm] at a
  refine ⟨by omega, fun i hi => ?_⟩
  have b := p 0 i (by omega) hi
  have c := p i m hi (Nat.le_refl _)
  rw [h0] at b
  rw [hm] at c
  have tr := far_tri (h2 i hi) ((h2 i hi).symm.trans t) hn
  omega
end
section
variable {lk : Nat → List Nat} {n : Nat}
/-- right levels are at least as high as the longest list is long -/
theorem lev_top {ls : List Int} (hk : Lk lk n) (hn : 0 < n) (hl : ls.length = n) (h1 : ∀ i, i < n → 1 ≤ ls.getD i 0) (h2 : ∀ i j, i < n → j ∈ lk i → ls.getD i 0 + 1 ≤ ls.getD j 0) : top lk n ≤ lmax ls := by
  obtain ⟨b1, b2, b3⟩ := best_ok hk hn
  have tp := top_pos hk hn
  cases hb : best lk n with
  | nil =>
    rw [hb] at b3
    simp at b3
    omega
  | cons i c =>
    rw [hb] at b1 b2 b3
    have h3 : ∀ i j, j ∈ (fun i => if i < n then lk i else []) i → ls.getD i 0 + 1 ≤ ls.getD j 0 := fun i j hj => by
      simp only at hj
      split at hj
      · exact h2 i j (by assumption) hj
      · simp at hj
    have hc : Chain (fun i => if i < n then lk i else []) (i :: c) := by
      have gen : ∀ c : List Nat, Chain lk c → (∀ j ∈ c, j < n) → Chain (fun i => if i < n then lk i else []) c := by
        intro c
        induction c with
        | nil => intro _ _; trivial
        | cons i c ih =>
          cases c with
          | nil => intro _ _; trivial
          | cons j r =>
            intro h hl
            refine ⟨?_, ih h.2 fun x hx => hl x (List.mem_cons_of_mem _ hx)⟩
            simp only
            rw [if_pos (hl i (by simp))]
            exact h.1
      exact gen _ b1 b2
    obtain ⟨k, hk', e⟩ := chain_levels h3 hc (h1 i (b2 i (by simp)))
    have hkn := b2 k hk'
    have m : ls.getD k 0 ≤ lmax ls := by
      refine le_lmax ?_
      have hlen : k < ls.length := by omega
      rw [List.getD_eq_getElem?_getD, List.getElem?_eq_getElem hlen]
      exact List.getElem_mem hlen
    have := h1 i (b2 i (by simp))
    omega
theorem levs_ok (hk : Lk lk n) (hn : 0 < n) : (∀ i, i < n → 1 ≤ (levs lk n).getD i 0) ∧ (∀ i j, i < n → j ∈ lk i → (levs lk n).getD i 0 + 1 ≤ (levs lk n).getD j 0) ∧ lmax (levs lk n) = top lk n := by
  obtain ⟨h1, h2⟩ := levsN_get hk n
  refine ⟨h1, fun i j hi hj => h2 i j hi hj, ?_⟩
  have a := lev_top (ls := levs lk n) hk hn levs_len h1 (fun i j hi hj => h2 i j hi hj)
  have m := lmax_mem (ns := levs lk n) (fun z => by
    have := levs_len (lk := lk) (n := n)
    rw [z] at this
    simp at this
    omega)
  obtain ⟨k, hk', e⟩ := List.mem_iff_getElem.mp m
  have hkn : k < n := by rwa [levs_len] at hk'
  have b := levs_top hk hkn
  rw [List.getD_eq_getElem?_getD, List.getElem?_eq_getElem hk', Option.getD_some, e] at b
  omega
end
end Mi
/-! The law's own way to put a letter: what is needed of it. -/
namespace Mi
theorem cnt_ex (p : Nat → Bool) (m : Nat) : ∃ n, n ≤ m ∧ ∀ i, i ≤ n → (decide (i < m) && p i) = decide (i < n) := by
  induction m with
  | zero => exact ⟨0, Nat.le_refl _, fun i hi => by simp⟩
  | succ m ih =>
    obtain ⟨n, hn, h⟩ := ih
    by_cases c : n < m
    · refine ⟨n, by omega, fun i hi => ?_⟩
      rw [← h i hi, decide_eq_true (show i < m by omega), decide_eq_true (show i < m + 1 by omega)]
    · have e : n = m := by omega
      subst e
      cases hp : p n with
      | true =>
        refine ⟨n + 1, Nat.le_refl _, fun i hi => ?_⟩
        by_cases c2 : i < n
        · have := h i (by omega)
          rw [decide_eq_true c2, Bool.true_and] at this
          rw [this, decide_eq_true (show i < n + 1 by omega), Bool.true_and]
        · by_cases c3 : i = n
          · subst c3
            rw [hp, Bool.and_true]
          · have e : i = n + 1 := by omega
            subst e
            simp
      | false =>
        refine ⟨n, by omega, fun i hi => ?_⟩
        by_cases c2 : i < n
        · have := h i (by omega)
          rw [decide_eq_true c2, Bool.true_and] at this
          rw [this, decide_eq_true (show i < n + 1 by omega), Bool.true_and]
          exact (decide_eq_true c2).symm
        · have e : i = n := by omega
          subst e
          rw [hp, Bool.and_false]
          exact (decide_eq_false c2).symm
noncomputable def cnt (p : Nat → Bool) (m : Nat) : Nat := Classical.choose (cnt_ex p m)
theorem cnt_le (p : Nat → Bool) (m : Nat) : cnt p m ≤ m := (Classical.choose_spec (cnt_ex p m)).1
theorem cnt_get (p : Nat → Bool) (m i : Nat) (h : i ≤ cnt p m) : (decide (i < m) && p i) = decide (i < cnt p m) := (Classical.choose_spec (cnt_ex p m)).2 i h
section
variable {α : Type} [DecidableEq α] [Inhabited α] {o : Od α}
/-- how far the law passes -/
noncomputable def lgA (o : Od α) (a : α) (s : Int) : Nat := cnt (fun i => decide (s < dif o a (L o (o.1.idxOf a + 1 + i)))) (o.1.length - (o.1.idxOf a + 1))
noncomputable def lgB (o : Od α) (a : α) (s : Int) : Nat := cnt (fun i => decide (s < dif o a (L o (o.1.idxOf a - 1 - i)))) (o.1.idxOf a)
noncomputable def lpl (o : Od α) (r : Rl α) : Nat := if r.aft then o.1.idxOf r.anc + 1 + lgA o r.anc r.str else o.1.idxOf r.anc - lgB o r.anc r.str
noncomputable def lpk (o : Od α) (r : Rl α) : Nat := if r.aft then o.1.idxOf r.anc + lgA o r.anc r.str else o.1.idxOf r.anc - lgB o r.anc r.str
noncomputable def lput (o : Od α) (r : Rl α) : Od α := ((rem o r.let_).1.take (lpl (rem o r.let_) r) ++ [r.let_] ++ (rem o r.let_).1.drop (lpl (rem o r.let_) r), (rem o r.let_).2.take (lpk (rem o r.let_) r) ++ [r.str] ++ (rem o r.let_).2.drop (lpk (rem o r.let_) r))
theorem lpk_le (w : Wf o) {r : Rl α} (ha : r.anc ∈ o.1) : lpk o r ≤ o.2.length := by
  have hn := w.ln
  have hi := List.idxOf_lt_length_of_mem ha
  unfold lpk
  split
  · have := cnt_le (fun i => decide (r.str < dif o r.anc (L o (o.1.idxOf r.anc + 1 + i)))) (o.1.length - (o.1.idxOf r.anc + 1))
    unfold lgA
    omega
  · omega
theorem lput_ok (w : Wf o) (h : Str3 o) {r : Rl α} (u : Usable o r) (ht : 1 ≤ r.str ∧ r.str ≤ 3) : (lput o r).1.Perm o.1 ∧ (lput o r).2.length + 1 = o.1.length ∧ Str3 (lput o r) := by
  have h2 := two_of u.a u.y u.ne
  have w1 := rem_wf w u.y h2
  have l1 := rem_len1 u.y
  have ha : r.anc ∈ (rem o r.let_).1 := (rem_mem w).mpr ⟨u.ne, u.a⟩
  have pk := lpk_le w1 ha
  have hn := w1.ln
  refine ⟨?_, ?_, fun t ht' => ?_⟩
  · unfold lput
    simp only [List.append_assoc, List.singleton_append]
    refine List.perm_middle.trans ?_
    rw [List.take_append_drop, rem_fst]
    exact (List.perm_cons_erase u.y).symm
  · unfold lput
    simp only [List.length_append, List.length_take, List.length_drop, List.length_cons, List.length_nil]
    omega
  · have h1 := str_rem w h u.y
    unfold lput at ht'
    simp only [List.mem_append, List.mem_singleton] at ht'
    rcases ht' with (z | z) | z
    · exact h1 t (List.mem_of_mem_take z)
    · rw [z]
      exact ht
    · exact h1 t (List.mem_of_mem_drop z)
end
end Mi
/-! An own layer over the readings: data, what stands for it, contexts, readings that name their answer. -/
namespace Ga
open PySem PySem.Spec PyProof.Rows L2

/-! ### data, and the values that stand for it -/
inductive D where
  | v (x : V)
  | tup (ds : List D)
  | pr (ds : List D)
  | lst (ds : List D)
  | at_ (p : Addr) (ds : List D)
  | dic (kvs : List (Key × V))
  | ins (C : Addr) (fs : List (Str × D))
abbrev D.int (i : Int) : D := .v (.int i)
abbrev D.str (x : Str) : D := .v (.str x)
abbrev D.bl (b : Bool) : D := .v (.bl b)
abbrev D.non : D := .v .non
abbrev tS (ls : List Str) : D := .tup (ls.map D.str)
abbrev tI (ns : List Int) : D := .tup (ns.map D.int)
abbrev lS (ls : List Str) : D := .lst (ls.map D.str)
abbrev lI (ns : List Int) : D := .lst (ns.map D.int)
abbrev lB (ns : List Bool) : D := .lst (ns.map D.bl)

mutual
inductive Rel (H : Hp) : D → V → Prop
  | v (x : V) : Rel H (D.v x) x
  | tup {p : Addr} {o : Obj} {vs : List V} {ds : List D} : H p = some (.frz o (.tup vs)) → o.dict = none → RelL H ds vs → Rel H (D.tup ds) (V.ref p)
  | pr {p : Addr} {vs : List V} {ds : List D} : H p = some (.tup vs) → RelL H ds vs → Rel H (D.pr ds) (V.ref p)
  | lst {p : Addr} {vs : List V} {ds : List D} : H p = some (.lst vs) → RelL H ds vs → Rel H (D.lst ds) (V.ref p)
  | at_ {p : Addr} {vs : List V} {ds : List D} : H p = some (.lst vs) → RelL H ds vs → Rel H (D.at_ p ds) (V.ref p)
  | dic {p : Addr} {kvs : List (Key × V)} : H p = some (.dK kvs) → Rel H (D.dic kvs) (V.ref p)
  | ins {a dx C : Addr} {fs : List (Str × D)} {fv : List (Str × V)} : H a = some (.ins C dx fv) → RelF H fs fv → Rel H (D.ins C fs) (V.ref a)
inductive RelL (H : Hp) : List D → List V → Prop
  | nil : RelL H [] []
  | cons {d : D} {v : V} {ds : List D} {vs : List V} : Rel H d v → RelL H ds vs → RelL H (d :: ds) (v :: vs)
inductive RelF (H : Hp) : List (Str × D) → List (Str × V) → Prop
  | nil : RelF H [] []
  | cons {n : Str} {d : D} {v : V} {ds : List (Str × D)} {vs : List (Str × V)} : Rel H d v → RelF H ds vs → RelF H ((n, d) :: ds) ((n, v) :: vs)
end

mutual
theorem Rel.mono {H H' : Hp} (s : Same H H') : ∀ {d : D} {v : V}, Rel H d v → Rel H' d v
  | _, _, .v x => .v x
  | _, _, .tup h q r => .tup (s _ _ h) q (RelL.mono s r)
  | _, _, .pr h r => .pr (s _ _ h) (RelL.mono s r)
  | _, _, .lst h r => .lst (s _ _ h) (RelL.mono s r)
  | _, _, .at_ h r => .at_ (s _ _ h) (RelL.mono s r)
  | _, _, .dic h => .dic (s _ _ h)
  | _, _, .ins h r => .ins (s _ _ h) (RelF.mono s r)
theorem RelL.mono {H H' : Hp} (s : Same H H') : ∀ {ds : List D} {vs : List V}, RelL H ds vs → RelL H' ds vs
  | _, _, .nil => .nil
  | _, _, .cons h r => .cons (Rel.mono s h) (RelL.mono s r)
theorem RelF.mono {H H' : Hp} (s : Same H H') : ∀ {ds : List (Str × D)} {vs : List (Str × V)}, RelF H ds vs → RelF H' ds vs
  | _, _, .nil => .nil
  | _, _, .cons h r => .cons (Rel.mono s h) (RelF.mono s r)
end
section
variable {H : Hp} {d : D} {v : V} {ds es : List D} {vs us : List V}
theorem Rel.v_inv {x : V} (r : Rel H (.v x) v) : v = x := by
  cases r
  rfl
theorem Rel.tup_inv (r : Rel H (.tup ds) v) : ∃ p o vs, v = .ref p ∧ H p = some (.frz o (.tup vs)) ∧ o.dict = none ∧ RelL H ds vs := by
  cases r with
  | tup h q r => exact ⟨_, _, _, rfl, h, q, r⟩
theorem Rel.pr_inv (r : Rel H (.pr ds) v) : ∃ p vs, v = .ref p ∧ H p = some (.tup vs) ∧ RelL H ds vs := by
  cases r with
  | pr h r => exact ⟨_, _, rfl, h, r⟩
theorem Rel.lst_inv (r : Rel H (.lst ds) v) : ∃ p vs, v = .ref p ∧ H p = some (.lst vs) ∧ RelL H ds vs := by
  cases r with
  | lst h r => exact ⟨_, _, rfl, h, r⟩
theorem Rel.at_inv {p : Addr} (r : Rel H (.at_ p ds) v) : ∃ vs, v = .ref p ∧ H p = some (.lst vs) ∧ RelL H ds vs := by
  cases r with
  | at_ h r => exact ⟨_, rfl, h, r⟩
theorem Rel.dic_inv {kvs : List (Key × V)} (r : Rel H (.dic kvs) v) : ∃ p, v = .ref p ∧ H p = some (.dK kvs) := by
  cases r with
  | dic h => exact ⟨_, rfl, h⟩
theorem Rel.ins_inv {C : Addr} {fs : List (Str × D)} (r : Rel H (.ins C fs) v) : ∃ a dx fv, v = .ref a ∧ H a = some (.ins C dx fv) ∧ RelF H fs fv := by
  cases r with
  | ins h r => exact ⟨_, _, _, rfl, h, r⟩
theorem RelL.len (r : RelL H ds vs) : ds.length = vs.length := by
  induction ds generalizing vs with
  | nil =>
    cases r
    rfl
  | cons d ds ih =>
    cases r with
    | cons _ t => simp [ih t]
theorem RelL.get (r : RelL H ds vs) {i : Nat} {d : D} (h : ds[i]? = some d) : ∃ v, vs[i]? = some v ∧ Rel H d v := by
  induction ds generalizing vs i with
  | nil => simp at h
  | cons e ds ih =>
    cases r with
    | cons h1 t =>
      cases i with
      | zero =>
        simp at h
        subst h
        exact ⟨_, rfl, h1⟩
      | succ i => simpa using ih t (by simpa using h)
theorem RelL.app (r : RelL H ds vs) (q : RelL H es us) : RelL H (ds ++ es) (vs ++ us) := by
  induction ds generalizing vs with
  | nil =>
    cases r
    exact q
  | cons d ds ih =>
    cases r with
    | cons h t => exact .cons h (ih t)
theorem RelL.set (r : RelL H ds vs) (q : Rel H d v) (i : Nat) : RelL H (ds.set i d) (vs.set i v) := by
  induction ds generalizing vs i with
  | nil =>
    cases r
    exact .nil
  | cons e ds ih =>
    cases r with
    | cons h t =>
      cases i with
      | zero => exact .cons q t
      | succ i => exact .cons h (ih t i)
theorem RelL.take (r : RelL H ds vs) (n : Nat) : RelL H (ds.take n) (vs.take n) := by
  induction ds generalizing vs n with
  | nil =>
    cases r
    simp
    exact .nil
  | cons e ds ih =>
    cases r with
    | cons h t =>
      cases n with
      | zero => exact .nil
      | succ n => exact .cons h (ih t n)
theorem RelL.drop (r : RelL H ds vs) (n : Nat) : RelL H (ds.drop n) (vs.drop n) := by
  induction ds generalizing vs n with
  | nil =>
    cases r
    simp
    exact .nil
  | cons e ds ih =>
    cases r with
    | cons h t =>
      cases n with
      | zero => exact .cons h t
      | succ n => exact ih t n
theorem RelL.rev (r : RelL H ds vs) : RelL H ds.reverse vs.reverse := by
  induction ds generalizing vs with
  | nil =>
    cases r
    exact .nil
  | cons e ds ih =>
    cases r with
    | cons h t =>
      rw [List.reverse_cons, List.reverse_cons]
      exact (ih t).app (.cons h .nil)
theorem RelL.erase (r : RelL H ds vs) (n : Nat) : RelL H (ds.eraseIdx n) (vs.eraseIdx n) := by
  induction ds generalizing vs n with
  | nil =>
    cases r
    exact .nil
  | cons e ds ih =>
    cases r with
    | cons h t =>
      cases n with
      | zero => exact t
      | succ n => exact .cons h (ih t n)
/-- scalars alone -/
theorem RelL.scal {xs : List V} (r : RelL H (xs.map D.v) vs) : vs = xs := by
  induction xs generalizing vs with
  | nil =>
    cases r
    rfl
  | cons x xs ih =>
    cases r with
    | cons h t => rw [h.v_inv, ih t]
theorem RelL.ofScal {xs : List V} : RelL H (xs.map D.v) xs := by
  induction xs with
  | nil => exact .nil
  | cons x xs ih => exact .cons (.v x) ih
theorem RelL.toS {ls : List Str} (r : RelL H (ls.map D.str) vs) : vs = ls.map V.str := by
  have e : ls.map D.str = (ls.map V.str).map D.v := by
    rw [List.map_map]
    rfl
  rw [e] at r
  exact r.scal
theorem RelL.toI {ls : List Int} (r : RelL H (ls.map D.int) vs) : vs = ls.map V.int := by
  have e : ls.map D.int = (ls.map V.int).map D.v := by
    rw [List.map_map]
    rfl
  rw [e] at r
  exact r.scal
theorem RelL.toB {ls : List Bool} (r : RelL H (ls.map D.bl) vs) : vs = ls.map V.bl := by
  have e : ls.map D.bl = (ls.map V.bl).map D.v := by
    rw [List.map_map]
    rfl
  rw [e] at r
  exact r.scal
theorem RelL.ofStrs {ls : List Str} : RelL H (ls.map D.str) (ls.map V.str) := by
  have e : ls.map D.str = (ls.map V.str).map D.v := by
    rw [List.map_map]
    rfl
  rw [e]
  exact .ofScal
theorem RelL.ofInts {ls : List Int} : RelL H (ls.map D.int) (ls.map V.int) := by
  have e : ls.map D.int = (ls.map V.int).map D.v := by
    rw [List.map_map]
    rfl
  rw [e]
  exact .ofScal
theorem RelF.get {fs : List (Str × D)} {fv : List (Str × V)} (r : RelF H fs fv) {n : Str} {d : D} (h : fs.lookup n = some d) : ∃ v, fv.lookup n = some v ∧ Rel H d v := by
  induction fs generalizing fv with
  | nil => simp at h
  | cons e fs ih =>
    cases r with
    | cons h1 t =>
      rename_i m d' v' vs'
      by_cases hm : n == m
      · simp [List.lookup, hm] at h ⊢
        subst h
        exact h1
      · simp [List.lookup, hm] at h ⊢
        exact ih t h
end

/-! ### what grows: B is what is known, H what stands -/
structure Grow (B H B' H' : Hp) : Prop where
  kb : Same B B'
  kh : Same H H'
  le : Same B' H'
  fr : ∀ l o, H l = some o → B l = none → B' l = none
section
variable {B H B' H' B2 H2 B0 H0 : Hp} {p : Addr} {o : HO}
theorem Grow.refl (s : Same B H) : Grow B H B H := ⟨Same.refl B, Same.refl H, s, fun _ _ _ e => e⟩
theorem Grow.trans (a : Grow B H B' H') (b : Grow B' H' B2 H2) : Grow B H B2 H2 :=
  ⟨a.kb.trans b.kb, a.kh.trans b.kh, b.le, fun l o e n => b.fr l o (a.kh l o e) (a.fr l o e n)⟩
theorem same_new (n : H p = none) : Same H (upd H p o) := fun b x e => by
  have hb : b ≠ p := ne_of_none e n
  rw [upd_ne hb]
  exact e
theorem same_upd2 (s : Same B H) : Same (upd B p o) (upd H p o) := fun b x e => by
  by_cases hb : b = p
  · subst hb
    rw [upd_same] at e ⊢
    exact e
  · rw [upd_ne hb] at e ⊢
    exact s b x e
theorem Grow.new (s : Same B H) (n : H p = none) : Grow B H (upd B p o) (upd H p o) :=
  ⟨same_new (s.free n), same_new n, same_upd2 s, fun l u e m => by
    have hl : l ≠ p := ne_of_none e n
    rw [upd_ne hl]
    exact m⟩
/-- what came is not to be known -/
theorem Grow.anon (s : Same B H) (h : Same H H') : Grow B H B H' := ⟨Same.refl B, h, s.trans h, fun _ _ _ e => e⟩
/-- a new thing that is not to be known yet -/
theorem Grow.hid (s : Same B H) (n : H p = none) : Grow B H B (upd H p o) := Grow.anon s (same_new n)
end

/-! ### contexts -/
inductive Sl where
  | any
  | d (x : D)
  | m (ds : List D)
abbrev Ctx := List Sl

structure Kn (B0 H0 : Hp) (Γ : Ctx) (σ : L2.St) (B H : Hp) : Prop where
  g : Grow B0 H0 B H
  len : σ.length = Γ.length
  d : ∀ (i : Nat) x, Γ[i]? = some (.d x) → ∃ v, σ[i]? = some (some v) ∧ Rel B x v
  m : ∀ (i : Nat) ds, Γ[i]? = some (.m ds) → ∃ l vs, σ[i]? = some (some (.ref l)) ∧ H l = some (.lst vs) ∧ B l = none ∧ H0 l = none ∧ RelL B ds vs
  sep : ∀ (i j : Nat) ds es l, Γ[i]? = some (.m ds) → Γ[j]? = some (.m es) → σ[i]? = some (some (V.ref l)) → σ[j]? = some (some (V.ref l)) → i = j
section
variable {B0 H0 B H B' H' : Hp} {Γ Γ' : Ctx} {σ : L2.St}
theorem Kn.le (e : Kn B0 H0 Γ σ B H) : Same B H := e.g.le
theorem Kn.grow (e : Kn B0 H0 Γ σ B H) (g : Grow B H B' H') : Kn B0 H0 Γ σ B' H' where
  g := e.g.trans g
  len := e.len
  d := fun i x h => let ⟨v, h1, h2⟩ := e.d i x h; ⟨v, h1, h2.mono g.kb⟩
  m := fun i ds h => let ⟨l, vs, h1, h2, h3, h4, h5⟩ := e.m i ds h; ⟨l, vs, h1, g.kh _ _ h2, g.fr l _ h2 h3, h4, h5.mono g.kb⟩
  sep := e.sep
theorem get_set_ne {α : Type} {l : List α} {i j : Nat} {a : α} (h : i ≠ j) : (l.set i a)[j]? = l[j]? := List.getElem?_set_ne h
theorem get_set_eq {α : Type} {l : List α} {i : Nat} {a b : α} (h : (l.set i a)[i]? = some b) : b = a := by
  by_cases hi : i < l.length
  · rw [List.getElem?_set_self hi] at h
    exact (Option.some.inj h).symm
  · rw [List.getElem?_eq_none (by simpa using hi)] at h
    cases h
theorem Kn.setD (e : Kn B0 H0 Γ σ B H) {i : Nat} {x : D} {v : V} (r : Rel B x v) : Kn B0 H0 (Γ.set i (.d x)) (σ.set i (some v)) B H where
  g := e.g
  len := by simp [e.len]
  d := fun j y h => by
    by_cases hj : i = j
    · subst hj
      have hi : i < Γ.length := by
        have := (List.getElem?_eq_some_iff.mp h).1
        simpa using this
      have hy := get_set_eq h
      cases hy
      exact ⟨v, by rw [List.getElem?_set_self (by rw [e.len]; exact hi)], r⟩
    · rw [get_set_ne hj] at h ⊢
      exact e.d j y h
  m := fun j ds h => by
    by_cases hj : i = j
    · subst hj
      cases get_set_eq h
    · rw [get_set_ne hj] at h ⊢
      exact e.m j ds h
  sep := fun j k ds es l h1 h2 h3 h4 => by
    have a1 : i ≠ j := fun z => by
      subst z
      cases get_set_eq h1
    have a2 : i ≠ k := fun z => by
      subst z
      cases get_set_eq h2
    rw [get_set_ne a1] at h1 h3
    rw [get_set_ne a2] at h2 h4
    exact e.sep j k ds es l h1 h2 h3 h4
/-- a new list becomes a name's own -/
theorem Kn.setM (e : Kn B0 H0 Γ σ B H) {i : Nat} {ds : List D} {l : Addr} {vs : List V} (g : Grow B H B' H') (n : H l = none) (hl : H' l = some (.lst vs)) (hb : B' l = none) (r : RelL B' ds vs) :
    Kn B0 H0 (Γ.set i (.m ds)) (σ.set i (some (.ref l))) B' H' where
  g := e.g.trans g
  len := by simp [e.len]
  d := fun j y h => by
    by_cases hj : i = j
    · subst hj
      cases get_set_eq h
    · rw [get_set_ne hj] at h ⊢
      exact (e.grow g).d j y h
  m := fun j es h => by
    by_cases hj : i = j
    · subst hj
      have hi : i < Γ.length := by
        have := (List.getElem?_eq_some_iff.mp h).1
        simpa using this
      have hy := get_set_eq h
      cases hy
      refine ⟨l, vs, by rw [List.getElem?_set_self (by rw [e.len]; exact hi)], hl, hb, e.g.kh.free n, r⟩
    · rw [get_set_ne hj] at h ⊢
      exact (e.grow g).m j es h
  sep := fun j k es fs q h1 h2 h3 h4 => by
    by_cases a1 : i = j
    · by_cases a2 : i = k
      · exact a1.symm.trans a2
      · subst a1
        rw [get_set_ne a2] at h2 h4
        have hi : i < σ.length := by
          have := (List.getElem?_eq_some_iff.mp h1).1
          rw [e.len]
          simpa using this
        rw [List.getElem?_set_self hi] at h3
        cases h3
        obtain ⟨l', vs', q1, q2, _⟩ := e.m k fs h2
        rw [q1] at h4
        cases h4
        rw [n] at q2
        cases q2
    · by_cases a2 : i = k
      · subst a2
        rw [get_set_ne a1] at h1 h3
        have hi : i < σ.length := by
          have := (List.getElem?_eq_some_iff.mp h2).1
          rw [e.len]
          simpa using this
        rw [List.getElem?_set_self hi] at h4
        cases h4
        obtain ⟨l', vs', q1, q2, _⟩ := e.m j es h1
        rw [q1] at h3
        cases h3
        rw [n] at q2
        cases q2
      · rw [get_set_ne a1] at h1 h3
        rw [get_set_ne a2] at h2 h4
        exact e.sep j k es fs q h1 h2 h3 h4
/-- a name's own list is changed in its place -/
theorem Kn.write (e : Kn B0 H0 Γ σ B H) {i : Nat} {ds es : List D} {l : Addr} {vs : List V} (hi : Γ[i]? = some (.m ds)) (hs : σ[i]? = some (some (.ref l))) (r : RelL B es vs) :
    Kn B0 H0 (Γ.set i (.m es)) σ B (upd H l (.lst vs)) := by
  obtain ⟨l', vs', q1, q2, q3, q4, _⟩ := e.m i ds hi
  rw [hs] at q1
  cases q1
  have hil : i < Γ.length := (List.getElem?_eq_some_iff.mp hi).1
  refine ⟨⟨e.g.kb, fun b x h => ?_, fun b x h => ?_, e.g.fr⟩, by simp [e.len], fun j y h => ?_, fun j fs h => ?_, fun j k fs gs q h1 h2 h3 h4 => ?_⟩
  · rw [upd_ne (ne_of_none h q4)]
    exact e.g.kh b x h
  · rw [upd_ne (ne_of_none h q3)]
    exact e.g.le b x h
  · by_cases hj : i = j
    · subst hj
      cases get_set_eq h
    · rw [get_set_ne hj] at h
      exact e.d j y h
  · by_cases hj : i = j
    · subst hj
      cases get_set_eq h
      exact ⟨l, vs, hs, upd_same, q3, q4, r⟩
    · rw [get_set_ne hj] at h
      obtain ⟨l2, vs2, a1, a2, a3, a4, a5⟩ := e.m j fs h
      have hne : l2 ≠ l := fun z => by
        subst z
        exact hj (e.sep i j ds fs l2 hi h hs a1)
      exact ⟨l2, vs2, a1, by rw [upd_ne hne]; exact a2, a3, a4, a5⟩
  · have f : ∀ (j : Nat) (fs : List D), (Γ.set i (.m es))[j]? = some (.m fs) → ∃ gs : List D, Γ[j]? = some (.m gs) := fun j fs h => by
      by_cases hj : i = j
      · subst hj
        exact ⟨ds, hi⟩
      · rw [get_set_ne hj] at h
        exact ⟨fs, h⟩
    obtain ⟨_, b1⟩ := f j fs h1
    obtain ⟨_, b2⟩ := f k gs h2
    exact e.sep j k _ _ q b1 b2 h3 h4
theorem Kn.wipe (e : Kn B0 H0 Γ σ B H) {vs : List Nat} (h : ∀ i ∈ vs, Γ[i]? = some .any ∨ Γ[i]? = none) : Kn B0 H0 Γ (wipe σ vs) B H := by
  have ne : ∀ (i : Nat) s, Γ[i]? = some s → s ≠ .any → i ∉ vs := fun i s h1 h2 hm => by
    rcases h i hm with q | q
    · rw [q] at h1
      exact h2 (Option.some.inj h1).symm
    · rw [q] at h1
      cases h1
  have out : ∀ (vs : List Nat) (i : Nat), i ∉ vs → (L2.wipe σ vs)[i]? = σ[i]? := by
    intro vs
    induction vs with
    | nil => intro i _; rfl
    | cons w ws ih =>
      intro i hi
      simp only [List.mem_cons, not_or] at hi
      show ((L2.wipe σ ws).set w none)[i]? = _
      rw [get_set_ne (fun z => hi.1 z.symm)]
      exact ih i hi.2
  refine ⟨e.g, by rw [wipe_length]; exact e.len, fun i x q => ?_, fun i ds q => ?_, fun i j ds es l q1 q2 q3 q4 => ?_⟩
  · rw [out vs i (ne i _ q (by simp))]
    exact e.d i x q
  · rw [out vs i (ne i _ q (by simp))]
    exact e.m i ds q
  · rw [out vs i (ne i _ q1 (by simp))] at q3
    rw [out vs j (ne j _ q2 (by simp))] at q4
    exact e.sep i j ds es l q1 q2 q3 q4
/-- less is told -/
theorem Kn.weak (e : Kn B0 H0 Γ σ B H) (hl : Γ'.length = Γ.length) (h : ∀ (i : Nat) s, Γ'[i]? = some s → s ≠ .any → Γ[i]? = some s) : Kn B0 H0 Γ' σ B H where
  g := e.g
  len := by rw [hl]; exact e.len
  d := fun i x q => e.d i x (h i _ q (by simp))
  m := fun i ds q => e.m i ds (h i _ q (by simp))
  sep := fun i j ds es l q1 q2 => e.sep i j ds es l (h i _ q1 (by simp)) (h j _ q2 (by simp))
/-- the heap may grow beyond what is known -/
theorem Kn.hid (e : Kn B0 H0 Γ σ B H) {p : Addr} {o : HO} (n : H p = none) : Kn B0 H0 Γ σ B (upd H p o) := e.grow (Grow.hid e.le n)
/-- a hidden thing is changed -/
theorem Kn.hidUpd (e : Kn B0 H0 Γ σ B H) {p : Addr} {o : HO} (h0 : H0 p = none) (hb : B p = none) (hm : ∀ (i : Nat) ds, Γ[i]? = some (.m ds) → σ[i]? ≠ some (some (.ref p))) : Kn B0 H0 Γ σ B (upd H p o) where
  g := ⟨e.g.kb, fun b x q => by
      rw [upd_ne (ne_of_none q h0)]
      exact e.g.kh b x q, fun b x q => by
      rw [upd_ne (ne_of_none q hb)]
      exact e.g.le b x q, e.g.fr⟩
  len := e.len
  d := e.d
  m := fun i ds q => by
    obtain ⟨l, vs, a1, a2, a3, a4, a5⟩ := e.m i ds q
    have hne : l ≠ p := fun z => by
      subst z
      exact hm i ds q a1
    exact ⟨l, vs, a1, by rw [upd_ne hne]; exact a2, a3, a4, a5⟩
  sep := e.sep
end
end Ga
/-! Rules for tuples whose object is known to bear no dict: made, cut, joined, asked by methods. -/
namespace Ga
open PySem PySem.Spec PyProof.Rows L2
section
variable {X : Cx} {e : Expr} {es : List Expr} {te : TE} {t : TA} {pos : Pos}
theorem sqF {K : PySem.W.Frag} {H : Hp} {a : Addr} {xs : List V} {o : Obj} (h : H a = some (.frz o (.tup xs))) : SqT K H a xs := .inl (.inr ⟨o, h⟩)
/-- a display -/
def tTupF (t : TA) : TE := fun σ H Q => t σ H fun xs H1 => xs.length ≤ sizeLine ∧ ∀ p o, H1 p = none → o.dict = none → Q (.ref p) (upd H1 p (.frz o (.tup xs)))
theorem pe_tupF {x1} (h : PA X es t) : PE X (.Tuple es x1 pos) (tTupF t) := by
  refine ⟨fun pins s σ H Q I hq => ?_⟩
  refine wpAny_Tuple_spliced (thn (h.run pos pins s σ H _ I hq) fun us s1 hx => ?_)
  obtain ⟨xs, H1, I1, r, z, q⟩ := hx
  refine ⟨by rw [← r.length]; exact z, ?_⟩
  have free : H1 s1.heap.objs.size = none := I1.hok.fresh (Nat.le_refl _)
  have told := Heap.get?_push_size s1.heap (o := { cls := .type "tuple", data := .seq us.toArray }) rfl
  refine ⟨.ref _, _, I1.laid (t' := s1.toks) (o := .frz _ (.tup xs)) (fun b u w => Heap.get?_push_of_some _ w) (Nat.le_refl _) ⟨told, z, us, r, ⟨_, told, rfl, _, rfl⟩⟩, rfl, q _ _ free rfl⟩
/-- tuple(xs), xs a list -/
def rTupF (K : PySem.W.Frag) : List V → Hp → VK → Prop := fun xs H Q => ∃ p ys, xs = [.ref p] ∧ SqL K H p ys ∧ ∀ l o, H l = none → o.dict = none → Q (.ref l) (upd H l (.frz o (.tup ys)))
theorem cr_tupF : CallR X (.type "tuple") (rTupF X.K) := by
  intro pins s σ H xs us Q I r h
  obtain ⟨p, ys, rfl, hq, q⟩ := h
  obtain ⟨u, rfl, rx⟩ := vals1 r
  cases rx
  obtain ⟨its, r', pl, hz⟩ := I.list hq
  have hlen := r'.length
  refine call_tuple_list pl.isList (fun h' kp => ?_) (by simp only [List.size_toArray] <;> omega)
  have J : Inv X pins σ H { s with heap := h' } := I.kept (t' := s.toks) kp
  have told := Heap.get?_push_size h' (o := { cls := .type "tuple", data := .seq its.toArray }) rfl
  exact ⟨.ref _, _, J.laid (t' := s.toks) (o := .frz _ (.tup ys)) (fun b o e => Heap.get?_push_of_some _ e) (Nat.le_refl _) ⟨told, hz, its, r', ⟨_, told, rfl, _, rfl⟩⟩, rfl, q _ _ (J.hok.fresh (Nat.le_refl _)) rfl⟩
/-- t + u -/
def rCatF (K : PySem.W.Frag) : R2 := fun x y H Q => ∃ a b xs ys, x = .ref a ∧ y = .ref b ∧ SqT K H a xs ∧ SqT K H b ys ∧ xs.length + ys.length ≤ sizeLine ∧
  (xs = [] → Q (.ref b) H) ∧ (xs ≠ [] → ys = [] → Q (.ref a) H) ∧ (xs ≠ [] → ys ≠ [] → ∀ p o, H p = none → o.dict = none → Q (.ref p) (upd H p (.frz o (.tup (xs ++ ys)))))
theorem op_catF : OpR X (binaryOp .Add) (rCatF X.K) := by
  intro pins s σ H x y v u Q I rx ry h
  obtain ⟨a, b, xs, ys, rfl, rfl, ha, hb, hz, q0, q1, q2⟩ := h
  by_cases hx : xs = []
  · exact op_catA pins s σ H _ _ v u Q I rx ry ⟨a, b, xs, ys, rfl, rfl, ha, hb, hz, q0, fun n => absurd hx n, fun n => absurd hx n⟩
  · by_cases hy : ys = []
    · exact op_catA pins s σ H _ _ v u Q I rx ry ⟨a, b, xs, ys, rfl, rfl, ha, hb, hz, q0, q1, fun _ n => absurd hy n⟩
    · cases rx
      cases ry
      obtain ⟨its, r1, p1, _⟩ := I.tuple ha
      obtain ⟨its2, r2, p2, _⟩ := I.tuple hb
      refine HT.cat_tup p1 p2 (fun z => hx (r1.nil_iff.mp z)) (fun z => absurd (r2.nil_iff.mp z) hy) (fun z => ?_) (by rw [← r1.length, ← r2.length]; exact hz)
      have told := Heap.get?_push_size s.heap (o := { cls := .type "tuple", data := .seq (its ++ its2).toArray }) rfl
      refine ⟨.ref _, _, I.laid (t' := s.toks) (o := .frz _ (.tup (xs ++ ys))) (fun b ob q => Heap.get?_push_of_some _ q) (Nat.le_refl _) ⟨told, ?_, _, r1.append r2, ⟨_, told, rfl, _, rfl⟩⟩, rfl, q2 hx hy _ _ (I.hok.fresh (Nat.le_refl _)) rfl⟩
      show (xs ++ ys).length ≤ sizeLine
      rw [List.length_append]
      exact hz
/-- t[lo:hi] -/
def rSlF (K : PySem.W.Frag) : V → Option Int → Option Int → Hp → VK → Prop := fun x lo hi H Q => ∃ a xs, x = .ref a ∧ SqT K H a xs ∧
  (cutV xs lo hi = xs → Q (.ref a) H) ∧ (∀ p o, H p = none → o.dict = none → Q (.ref p) (upd H p (.frz o (.tup (cutV xs lo hi)))))
theorem sl_tupF : SlR X (rSlF X.K) := by
  intro pins s σ H x v vl vu lo hi sl Q I rx hs pl pu h
  obtain ⟨a, xs, rfl, hx, q1, q2⟩ := h
  by_cases hw : HT.sIx xs.length 0 lo = 0 ∧ HT.sIx xs.length xs.length hi = xs.length
  · refine sl_tupA pins s σ H _ v vl vu lo hi sl Q I rx hs pl pu ⟨a, xs, rfl, hx, fun _ => q1 ?_, fun n => absurd hw n⟩
    unfold cutV
    rw [hw.1, hw.2]
    simp
  · cases rx
    obtain ⟨its, r, ht, hz⟩ := I.tuple hx
    have hlen : its.toArray.size = xs.length := by
      rw [List.size_toArray]
      exact r.length.symm
    refine ⟨"tuple", _, PyProof.Rows.slot_tuple_getitem.lookup, ht.typeIs, ?_⟩
    refine HT.getItem_tuple_cut ht hs pl pu (by rw [hlen]; exact hw) ?_ (by rw [hlen]; exact hz)
    rw [hlen]
    have told := Heap.get?_push_size s.heap (o := { cls := .type "tuple", data := .seq ((its.drop (HT.sIx xs.length 0 lo)).take (HT.sIx xs.length xs.length hi - HT.sIx xs.length 0 lo)).toArray }) rfl
    exact ⟨.ref _, _, I.laid (t' := s.toks) (o := .frz _ (.tup (cutV xs lo hi))) (fun b ob q => Heap.get?_push_of_some _ q) (Nat.le_refl _) ⟨told, Nat.le_trans (cutV_length xs lo hi) hz, _, (r.drop _).take _, ⟨_, told, rfl, _, rfl⟩⟩, rfl, q2 _ _ (I.hok.fresh (Nat.le_refl _)) rfl⟩
end
end Ga
/-! More of tuples: turned around, asked by index and count, least and greatest, sorted. -/
namespace Ga
open PySem PySem.Spec PyProof.Rows L2
/-! ### t[::-1] -/
section
variable {prog : Program} {w : World} {A : Around} {E : Value → Shared → Prop} {s : Shared}
theorem back_adjust (n : Nat) : Builtin.Slice.sliceAdjust none none (-1) (n : Int) = ((n : Int) - 1, -1) := by
  unfold Builtin.Slice.sliceAdjust
  have h : ((-1 : Int) < 0) := by decide
  simp only [h, if_true]
theorem back_places (n : Nat) : Builtin.Slice.slicePlaces ((n : Int) - 1) (-1) (-1) = n := by
  unfold Builtin.Slice.slicePlaces
  have h : ¬ ((-1 : Int) > 0) := by decide
  rw [if_neg h]
  by_cases hn : ((n : Int) - 1) > -1
  · rw [if_pos hn]
    have e : (-(-1 : Int)) = 1 := by decide
    rw [e, Int.ediv_one]
    omega
  · rw [if_neg hn]
    omega
theorem fm_congr {α β : Type} {f g : α → Option β} : ∀ {l : List α}, (∀ x ∈ l, f x = g x) → l.filterMap f = l.filterMap g
  | [], _ => rfl
  | x :: l, h => by
    rw [List.filterMap_cons, List.filterMap_cons, h x (by simp), fm_congr fun y hy => h y (by simp [hy])]
theorem back_pick (xs : Array Value) : ((List.range xs.size).filterMap fun (k : Nat) => xs[(((xs.size : Int) - 1) + (k : Int) * (-1)).toNat]?) = xs.toList.reverse := by
  apply List.ext_getElem?
  intro i
  have e : (List.range xs.size).filterMap (fun (k : Nat) => xs[(((xs.size : Int) - 1) + (k : Int) * (-1)).toNat]?) = (List.range xs.size).map (fun k => xs.getD (xs.size - 1 - k) .none) := by
    rw [← List.filterMap_eq_map']
    apply fm_congr
    intro k hk
    have hk' : k < xs.size := List.mem_range.mp hk
    have e1 : (((xs.size : Int) - 1) + (k : Int) * (-1)).toNat = xs.size - 1 - k := by omega
    rw [e1]
    have hlt : xs.size - 1 - k < xs.size := by omega
    simp [hlt]
  rw [e]
  by_cases hi : i < xs.size
  · rw [List.getElem?_map, List.getElem?_range hi, List.getElem?_reverse (by simpa using hi)]
    simp
    have hlt : xs.size - 1 - i < xs.size := by omega
    simp [hlt]
  · rw [List.getElem?_eq_none (by simpa using hi), List.getElem?_eq_none (by simpa using hi)]
theorem back_applied {sl : Addr} {vl vu vs : Value} {n : Nat} {R : Int × Int × Nat → Shared → Prop} (hs : s.heap.IsSliceOf sl vl vu vs) (pl : IsPart vl none) (pu : IsPart vu none) (ps : IsPart vs (some (-1)))
    (hR : R ((n : Int) - 1, -1, n) s) : wpAny (model prog w) A (Builtin.Slice.sliceApplied (.ref sl) (pure (n : Int))) R E s := by
  obtain ⟨os, hos, hcs, hds⟩ := id hs
  unfold Builtin.Slice.sliceApplied Builtin.Slice.sliceFields
  refine wpAny_bind (wpAny_bind (wpAny_field hos hds (x := vl) rfl (wpAny_bind (wpAny_field hos hds (x := vu) rfl (wpAny_bind (wpAny_field hos hds (x := vs) rfl (wpAny_pure ?_)))))))
  refine wpAny_bind (HT.slicePart_ ps ?_)
  show wpAny _ _ (if ((-1 : Int) == 0) = true then _ else _) _ _ s
  rw [if_neg (by decide)]
  refine wpAny_bind (HT.slicePart_ pl (wpAny_bind (HT.slicePart_ pu (wpAny_bind (wpAny_pure ?_)))))
  show wpAny _ _ (match Builtin.Slice.sliceAdjust none none (-1) (n : Int) with | (lo, hi) => pure (lo, (-1 : Int), Builtin.Slice.slicePlaces lo hi (-1))) _ _ s
  rw [back_adjust]
  show wpAny _ _ (pure ((n : Int) - 1, (-1 : Int), Builtin.Slice.slicePlaces ((n : Int) - 1) (-1) (-1))) _ _ s
  rw [back_places]
  exact wpAny_pure hR
theorem getItem_tuple_back {t sl : Addr} {its : List Value} {vl vu vs : Value} {Q : Value → Shared → Prop} (ht : IsTup s.heap t its.toArray) (hs : s.heap.IsSliceOf sl vl vu vs) (pl : IsPart vl none) (pu : IsPart vu none) (ps : IsPart vs (some (-1)))
    (h : Q (.ref s.heap.objs.size) { s with heap := s.heap.push { cls := .type "tuple", data := .seq its.reverse.toArray } }) (hsz : its.length ≤ sizeLine) : wpAny (model prog w) A (getItem (.ref t) (.ref sl)) Q E s := by
  obtain ⟨os, hos, hcs, hds⟩ := id hs
  have hTs : s.TypeIs (.ref sl) "slice" := ⟨os, hos, hcs⟩
  have fits : sizeOk (.seq its.reverse.toArray) := by
    show its.reverse.toArray.size ≤ sizeLine
    rw [List.size_toArray, List.length_reverse]
    exact hsz
  unfold getItem
  try with_reducible refine wpAny_holding ?_
  first | refine wpAny_bind (wpAny_pure ?_) | skip
  refine wpAny_bind (wpAny_sequenceKey ht.typeIs (by decide) ?_)
  refine wpAny_bind (wpAny_callSpecial?_slot (name := Str.ofString "__getitem__") ht.typeIs PyProof.Rows.slot_tuple_getitem (wpAny_call_entry PyProof.Rows.slot_tuple_getitem ht.typeIs entry_tuple_getitem ?_ (args_tuple_getitem _ _)))
  show wpAny _ _ (Builtin.Tuple.tupleItemsOf (.ref t) >>= _) _ _ s
  refine wpAny_bind (tupleItemsOf_ ht ?_)
  refine wpAny_bind (wpAny_typeOf hTs ?_)
  rw [if_pos (by decide)]
  refine wpAny_bind (back_applied hs pl pu ps ?_)
  show wpAny _ _ (if (((its.toArray.size : Int) - 1 == 0) && ((-1 : Int) == 1) && (its.toArray.size == its.toArray.size)) = true then _ else _) _ _ s
  rw [if_neg (by simp), back_pick]
  have e : (its.toArray.toList.reverse).toArray = its.reverse.toArray := by simp
  rw [e]
  first
    | exact wpAny_bind (m := Builtin.Tuple.tupleExact _) (wpAny_newObj_type (wpAny_pure ⟨_, rfl, wpAny_pure h⟩) fits)
    | exact wpAny_bind (m := Builtin.Tuple.tupleExact _) (wpAny_newObj_type (wpAny_bind (wpAny_pure (wpAny_pure ⟨_, rfl, wpAny_pure h⟩))) fits)
    | exact wpAny_bind (wpAny_bind (m := Builtin.Tuple.tupleExact _) (wpAny_newObj_type (wpAny_pure (wpAny_pure ⟨_, rfl, wpAny_pure h⟩)) fits))
    | exact wpAny_bind (wpAny_bind (m := Builtin.Tuple.tupleExact _) (wpAny_newObj_type (wpAny_pure ⟨_, rfl, wpAny_pure h⟩) fits))
end
section
variable {X : Cx}
def tBackF (K : PySem.W.Frag) (te : TE) : TE := fun σ H Q => te σ H fun x H1 => ∃ a xs, x = .ref a ∧ SqT K H1 a xs ∧ ∀ p o, H1 p = none → o.dict = none → Q (.ref p) (upd H1 p (.frz o (.tup xs.reverse)))
theorem pe_backF {e : Expr} {te : TE} {k : Nat} {p1 p2 p3 pos : Pos} (he : PE X e te) : PE X (.Subscript e (.Slice none none (some (.UnaryOp .USub (.Constant (.int 1) k p1) p2)) p3) pos) (tBackF X.K te) := by
  refine ⟨fun pins s σ H Q I h => ?_⟩
  refine Subscript_ (thn (he.run pins s σ H _ I h) fun v s1 h1 => ?_)
  obtain ⟨x, H1, I1, r1, a, xs, ex, hx, q⟩ := h1
  subst ex
  cases r1
  have step : PO X (some (.UnaryOp .USub (.Constant (.int 1) k p1) p2)) (tPart (tUn (rU fun i => .int (-i)) (tC (.int 1)))) := po_some (pe_un un_neg pe_int)
  refine wpAny_Slice (thn (po_none.run pins s1 σ H1 (fun o G => o = none ∧ G = H1) I1 ⟨rfl, rfl⟩) fun vl s2 h2 => ?_)
  obtain ⟨l, H2, I2, pl, el, e2⟩ := h2
  subst el e2
  refine thn (po_none.run pins s2 σ H2 (fun o G => o = none ∧ G = H2) I2 ⟨rfl, rfl⟩) fun vu s3 h3 => ?_
  obtain ⟨u, H3, I3, pu, eu, e3⟩ := h3
  subst eu e3
  refine thn (step.run pins s3 σ H3 (fun o G => o = some (-1) ∧ G = H3) I3 ⟨1, rfl, -1, rfl, rfl, rfl⟩) fun vs s4 h4 => ?_
  obtain ⟨o, H4, I4, ps, eo, e4⟩ := h4
  subst eo e4
  have I5 : Inv X pins σ H4 { s4 with heap := s4.heap.push { cls := .type "slice", data := .fields #[vl, vu, vs] } } := I4.kept (t' := s4.toks) fun b ob q => Heap.get?_push_of_some _ q
  obtain ⟨its, r, ht, hz⟩ := I5.tuple hx
  refine tail_any (ops := [.ref a, .ref s4.heap.objs.size]) ht.typeIs (PyProof.Rows.slot_tuple_getitem.lookup) ?_ (by with_unfolding_all rfl)
  refine getItem_tuple_back ht (Heap.IsSliceOf.new _ vl vu vs) pl pu ps ?_ (by rw [← r.length]; exact hz)
  have told := Heap.get?_push_size (s4.heap.push { cls := .type "slice", data := .fields #[vl, vu, vs] }) (o := { cls := .type "tuple", data := .seq its.reverse.toArray }) rfl
  exact ⟨.ref _, _, I5.laid (t' := s4.toks) (o := .frz _ (.tup xs.reverse)) (fun b ob q => Heap.get?_push_of_some _ q) (Nat.le_refl _) ⟨told, by rw [List.length_reverse]; exact hz, _, r.reverse, ⟨_, told, rfl, _, rfl⟩⟩, rfl, q _ _ (I5.hok.fresh (Nat.le_refl _)) rfl⟩
/-! ### a tuple's methods -/
def tTM (r : V → List V → Hp → VK → Prop) (to : TE) (t : TA) : TE := fun σ H Q => to σ H fun x H1 => (∃ p o ys, x = .ref p ∧ H1 p = some (.frz o (.tup ys)) ∧ o.dict = none) ∧ t σ H1 fun xs H2 => r x xs H2 Q
theorem pe_tm {o e : Expr} {es : List Expr} {to : TE} {t : TA} {name : Str} {apos cpos : Pos} {id : String} {r : V → List V → Hp → VK → Prop}
    (slot : Slot "tuple" name id) (hty : typeOf (.builtin id) = pure (.type "method_descriptor")) (hm : MtR X id r) (ho : PE X o to) (ha : PA X (e :: es) t)
    (hbase : attributeBase o name X.env (eval o X.env) = eval o X.env := by rfl)
    (hfew : ((backTo cpos (starEach (e :: es) X.env)).all (fun x => !x.1) && (backToKw cpos (keywordEach [] X.env)).all (fun x => x.1.isSome)
      && decide ((e :: es).length + ([] : List Keyword).length + (if ([] : List Keyword).isEmpty then 0 else 1) < 30)) = true := by rfl)
    (hline : (apos.endLine == cpos.line) = true := by rfl) (hs : starEach (e :: es) X.env = (false, eval e X.env) :: starEach es X.env := by rfl) (hplain : (backTo cpos (starEach es X.env)).any (·.1) = false := by rfl) :
    PE X (.Call (.Attribute o name apos) (e :: es) [] cpos) (tTM r to t) := by
  refine ⟨fun pins s σ H Q I h => ?_⟩
  refine wpAny_Call_method_late hbase hfew hline rfl (thn (ho.run pins s σ H _ I h) fun v s1 h1 => ?_)
  obtain ⟨x, H1, I1, r1, ⟨p, ob, ys, ex, hp, hd⟩, q1⟩ := h1
  subst ex
  obtain rfl : v = Value.ref p := r1
  obtain ⟨g1, _, _, _, ob', g2, g3, g4⟩ := I1.hok p _ hp
  refine ⟨"tuple", id, PySem.F.plainAttrs_tuple, slot, hty, ⟨ob', g2, g3⟩, fun a ea => ?_, ?_⟩
  · cases ea
    exact ⟨ob, g1, hd⟩
  · have hA := ha.run cpos pins s1 σ H1 _ I1 q1
    rw [hs] at hA ⊢
    refine Calls.callWith_builtin (by show (false || (backTo cpos (starEach es X.env)).any (·.1)) = false; rw [hplain] <;> rfl) (Calls.evalArgs_plain ?_)
    exact thn hA fun us s2 h2 => let ⟨xs, H2, I2, r2, q2⟩ := h2; hm pins s2 σ H2 (.ref p) xs _ us Q I2 rfl r2 q2
/-- t.index(x), flat items -/
def rTIx (K : PySem.W.Frag) : V → List V → Hp → VK → Prop := fun x xs H Q => ∃ (a : Addr) (ys : List V) (y : V) (j : Nat) (z : V), x = V.ref a ∧ xs = [y] ∧ SqT K H a ys ∧ flatV y = true ∧ ys.all flatV = true ∧ ys[j]? = some z ∧ eqV z y = true ∧
  (∀ (m : Nat) (z' : V), m < j → ys[m]? = some z' → eqV z' y = false) ∧ Q (.int (j : Nat)) H
theorem mt_tix : MtR X "tuple.index" (rTIx X.K) := by
  intro pins s σ H x xs v us Q I rx rxs h
  obtain ⟨a, ys, y, j, z, rfl, rfl, hs, fy, fys, hz, hzj, hno, q⟩ := h
  cases rx
  obtain ⟨uy, rfl, ry⟩ := vals1 rxs
  obtain ⟨its, rv, ⟨⟨cls, dd, data, sl⟩, ho, hc, n, hd⟩, hlen⟩ := I.tuple hs
  simp only at hc hd
  subst hc hd
  have hvl := rv.length
  have place : ∀ (m : Nat) (hm : m < its.toArray.size), ∃ z', ys[m]? = some z' ∧ eqU y its.toArray[m] = eqV z' y := fun m hm => by
    have hml : m < its.length := by simpa using hm
    have hy' : ys[m]? = some ys[m] := List.getElem?_eq_getElem (by omega)
    obtain ⟨u2, hu2, ru2⟩ := rv.get hy'
    obtain ⟨_, hme⟩ := List.getElem?_eq_some_iff.mp hu2
    refine ⟨_, hy', ?_⟩
    rw [← eqU_of ru2 (flat_at fys hy'), ← hme]
    simp
  have hj : j < its.toArray.size := by
    have := (List.getElem?_eq_some_iff.mp hz).1
    simp only [List.size_toArray]
    omega
  refine call_meets PySem.F.slot_tuple_index ⟨_, ho, rfl⟩ PySem.F.entry_tuple_index (PySem.F.args_tuple_index_2 _ _)
    (TI.tuple_indexAt a its.toArray n dd sl uy (eqU y) j hj ?_ ?_) ⟨ho, fun u' hu' => mem_eqAt ry fy rv fys u' (by simpa using hu'), ?_⟩
  · obtain ⟨z', h1, h2⟩ := place j hj
    rw [h2]
    rw [hz] at h1
    cases h1
    exact hzj
  · intro m hm hmj
    obtain ⟨z', h1, h2⟩ := place m hm
    rw [h2]
    exact hno m z' hmj h1
  · exact ⟨.int (j : Nat), H, I.tok _, ⟨_, rfl⟩, q⟩
/-- t.count(x), flat items -/
def rTCt (K : PySem.W.Frag) : V → List V → Hp → VK → Prop := fun x xs H Q => ∃ (a : Addr) (ys : List V) (y : V), x = V.ref a ∧ xs = [y] ∧ SqT K H a ys ∧ flatV y = true ∧ ys.all flatV = true ∧ Q (.int ((ys.countP fun z => eqV z y : Nat) : Int)) H
theorem count_flat {y : V} : ∀ {ys : List V} {its : List Value}, Vals ys its → ys.all flatV = true → its.countP (eqU y) = ys.countP fun z => eqV z y
  | _, _, .nil, _ => rfl
  | z :: ys, u :: its, .cons r t, f => by
    rw [List.all_cons, Bool.and_eq_true] at f
    rw [List.countP_cons, List.countP_cons, count_flat t f.2, eqU_of r f.1]
theorem mt_tct : MtR X "tuple.count" (rTCt X.K) := by
  intro pins s σ H x xs v us Q I rx rxs h
  obtain ⟨a, ys, y, rfl, rfl, hs, fy, fys, q⟩ := h
  cases rx
  obtain ⟨uy, rfl, ry⟩ := vals1 rxs
  obtain ⟨its, rv, ⟨⟨cls, dd, data, sl⟩, ho, hc, n, hd⟩, hlen⟩ := I.tuple hs
  simp only at hc hd
  subst hc hd
  refine call_meets PySem.F.slot_tuple_count ⟨_, ho, rfl⟩ PySem.F.entry_tuple_count (PySem.F.args_tuple_count_2 _ _)
    (SeqAt.tuple_countAt a its.toArray n dd sl uy (eqU y)) ⟨ho, fun u' hu' => mem_eqAt ry fy rv fys u' (by simpa using hu'), ?_⟩
  refine ⟨.int _, H, I.tok _, ⟨_, rfl⟩, ?_⟩
  have e : its.toArray.toList.countP (eqU y) = ys.countP fun z => eqV z y := count_flat rv fys
  rw [e]
  exact q
end
end Ga
/-! Least and greatest of a tuple of numbers, a tuple of texts sorted, a tuple counted through. -/
namespace Ga
open PySem PySem.Spec PyProof.Rows L2 Mi
/-! ### the least, the greatest -/
section
variable {X : Cx}
def rMinT (K : PySem.W.Frag) : List V → Hp → VK → Prop := fun vs H Q => ∃ (a : Addr) (ns : List Int), vs = [V.ref a] ∧ SqT K H a (ns.map V.int) ∧ ns ≠ [] ∧ Q (.int (lmin ns)) H
def rMaxT (K : PySem.W.Frag) : List V → Hp → VK → Prop := fun vs H Q => ∃ (a : Addr) (ns : List Int), vs = [V.ref a] ∧ SqT K H a (ns.map V.int) ∧ ns ≠ [] ∧ Q (.int (lmax ns)) H
theorem int_of_holds {h : Heap} {v : Value} {m : Int} (H : PySem.W.Holds h v m) : ∃ t, v = .int m t := by
  have q := (PySem.W.HoldAll.cons H PySem.W.HoldAll.nil).toInts
  cases q with
  | cons _ => exact ⟨_, rfl⟩
theorem minOf_lmin (x : Int) (xs : List Int) : PySem.W.minOf x xs = lmin (x :: xs) := by
  unfold PySem.W.minOf lmin
  congr 1
  funext a y
  have e : (PySem.W.DatumOrd.lt y a = true) = (y < a) := by
    show (decide (y < a) = true) = (y < a)
    simp
  simp only [e]
theorem maxOf_lmax (x : Int) (xs : List Int) : PySem.W.maxOf x xs = lmax (x :: xs) := by
  unfold PySem.W.maxOf lmax
  congr 1
  funext a y
  have e : (PySem.W.DatumOrd.lt a y = true) = (a < y) := by
    show (decide (a < y) = true) = (a < y)
    simp
  simp only [e]
theorem cr_minT (hc : X.calm = true) (hu : X.A.units + 1 < cLine) : CallR X (.builtin "min") (rMinT X.K) := by
  intro pins s σ H vs us Q I r h
  obtain ⟨a, ns, rfl, hs, hne, q⟩ := h
  obtain ⟨its, rv, hl, _⟩ := I.tuple hs
  rw [Vals.ref1 r]
  cases ns with
  | nil => exact absurd rfl hne
  | cons x xs =>
    refine PySem.W.min_tuple_datum (α := Int) (I.ok.hd hc) hl (PySem.W.HoldAll.of_ints rv.ints) hu fun i v h' tk hv hh hk => ?_
    obtain ⟨t, rfl⟩ := int_of_holds hh
    rw [minOf_lmin]
    exact ⟨.int _, H, I.kept hk, ⟨_, rfl⟩, q⟩
theorem cr_maxT (hc : X.calm = true) (hu : X.A.units + 1 < cLine) : CallR X (.builtin "max") (rMaxT X.K) := by
  intro pins s σ H vs us Q I r h
  obtain ⟨a, ns, rfl, hs, hne, q⟩ := h
  obtain ⟨its, rv, hl, _⟩ := I.tuple hs
  rw [Vals.ref1 r]
  cases ns with
  | nil => exact absurd rfl hne
  | cons x xs =>
    refine PySem.W.max_tuple_datum (α := Int) (I.ok.hd hc) hl (PySem.W.HoldAll.of_ints rv.ints) hu fun i v h' tk hv hh hk => ?_
    obtain ⟨t, rfl⟩ := int_of_holds hh
    rw [maxOf_lmax]
    exact ⟨.int _, H, I.kept hk, ⟨_, rfl⟩, q⟩
end
/-! ### sorted(t) of texts -/
section
variable {prog : Program} {w : World} {A : Around} {E : Value → Shared → Prop} {s : Shared}
theorem gather_tuple {l : Addr} {vs : List Value} {Q : List Value → Shared → Prop} (hl : IsTup s.heap l vs.toArray)
    (h : Q vs { s with heap := (s.heap.push (seqObj "list" #[] 0)).update s.heap.objs.size (Obj.mapSeq (· ++ vs.toArray)) }) (hsz : vs.length ≤ sizeLine) :
    wpAny (model prog w) A (collect (.ref l)) Q E s := by
  obtain ⟨o, ho, hc, n, hd⟩ := id hl
  unfold collect
  refine wpAny_bind (wpAny_runValue (codeAny_builtin entry_proto_collect' ?_))
  show wpAny _ _ (do again (.builtin "list.__iadd__" ⟨[← newList [], .ref l], []⟩)) _ _ s
  refine wpAny_bind (wpAny_newList (wpAny_pure ⟨Code.quiet_builtin _ (by decide +kernel), codeAny_builtin entry_list_iadd' ?_⟩))
  show wpAny _ _ (Builtin.List.listExtendWith (.ref s.heap.objs.size) (.ref l) (.ref s.heap.objs.size)) _ _ { s with heap := s.heap.push (seqObj "list" #[] 0) }
  unfold Builtin.List.listExtendWith
  have there : (s.heap.push (seqObj "list" #[] 0)).get? l = some o := Heap.get?_push_of_some _ ho
  refine wpAny_bind (wpAny_typeOf (T := "tuple") ⟨o, there, hc⟩ ?_)
  rw [if_pos (by simp)]
  refine wpAny_bind (listItems_at there hd ?_)
  refine wpAny_bind (listItems_at (xs := #[]) (n := 0) (Heap.get?_push_size _ rfl) rfl ?_)
  rw [if_neg (by simp)]
  refine wpAny_bind (listUpdate_at (xs := #[]) (n := 0) (Heap.get?_push_size _ rfl) rfl ?_ (Nat.zero_le _) (by show (#[] ++ vs.toArray).size ≤ sizeLine + 1; simp only [Array.size_append, List.size_toArray, List.length_nil]; omega))
  refine wpAny_pure ?_
  refine wpAny_bind (wpAny_load (get?_update_seq (Heap.get?_push_size _ rfl) _) ?_)
  show wpAny _ _ (pure ((#[] : Array Value) ++ vs.toArray).toList) Q E _
  rw [show ((#[] : Array Value) ++ vs.toArray).toList = vs by simp]
  exact wpAny_pure h
theorem sorted_tuple_strs {l : Addr} {vs : List Value} {ss : List Str} {Q : Value → Shared → Prop} (hl : IsTup s.heap l vs.toArray) (hS : StrsAre vs ss) (h64 : vs.length < 64)
    (h : ∀ (out : Array Value) (ss' : List Str), StrsAre out.toList ss' → ss'.Perm ss → sortedS ss' = true → Q (.ref (s.heap.objs.size + 1)) { s with heap := sortedAll s.heap vs out }) :
    wpAny (model prog w) A (call (.builtin "sorted") [.ref l]) Q E s := by
  refine Calls.call_function_entry kind_sorted plain_sorted entry_sorted (args_sorted1 _) ?_
  unfold Builtin.«sorted»
  refine wpAny_bind (m := checkCount "sorted" 1 1 _) (wpAny_pure ?_)
  refine wpAny_bind (gather_tuple hl ?_ (Nat.le_trans (Nat.le_of_lt h64) (by rw [sizeLine_eq]; omega)))
  refine wpAny_bind (wpAny_newList ?_)
  have hsz : ((s.heap.push (seqObj "list" #[] 0)).update s.heap.objs.size (Obj.mapSeq (· ++ vs.toArray))).objs.size = s.heap.objs.size + 1 := by
    rw [Heap.size_update, size_push']
  have hoL : (((s.heap.push (seqObj "list" #[] 0)).update s.heap.objs.size (Obj.mapSeq (· ++ vs.toArray))).push (seqObj "list" vs.toArray 0)).get? (s.heap.objs.size + 1) = some (seqObj "list" vs.toArray 0) := by
    have q := Heap.get?_push_size ((s.heap.push (seqObj "list" #[] 0)).update s.heap.objs.size (Obj.mapSeq (· ++ vs.toArray))) (o := seqObj "list" vs.toArray 0) rfl
    rw [hsz] at q
    exact q
  show wpAny _ _ _ _ _ { s with heap := ((s.heap.push (seqObj "list" #[] 0)).update s.heap.objs.size (Obj.mapSeq (· ++ vs.toArray))).push (seqObj "list" vs.toArray 0) }
  rw [hsz]
  refine wpAny_bind (wpAny_holding (wpAny_call_entry slot_list_sort ⟨_, hoL, rfl⟩ entry_list_sort
    (list_sort_treeK strKind_oneLt hoL hS.keysOf (fun v₁ v₂ rest e => keyKind_strs (by rw [← e]; exact hS)) h64 fun st' hp hs => ⟨_, rfl, ?_⟩) (args_list_sort _)))
  obtain ⟨ss', h1, h2, h3⟩ := sorted_out_str hS hp hs
  exact wpAny_pure ⟨_, rfl, h _ ss' h1 h2 h3⟩
end
section
variable {X : Cx}
def rSortT (K : PySem.W.Frag) : List V → Hp → VK → Prop := fun vs H Q => ∃ (a : Addr) (xs : List Str), vs = [V.ref a] ∧ SqT K H a (xs.map V.str) ∧ xs.length < 64 ∧
  ∀ (ys : List Str) (p : Addr), ys.Perm xs → sortedS ys = true → H p = none → Q (.ref p) (upd H p (.lst (ys.map V.str)))
theorem cr_sortTS : CallR X (.builtin "sorted") (rSortT X.K) := by
  intro pins s σ H vs us Q I r h
  obtain ⟨a, xs, rfl, hs, h64, q⟩ := h
  obtain ⟨its, rv, hl, _⟩ := I.tuple hs
  rw [Vals.ref1 r]
  have hlen0 := rv.length
  rw [List.length_map] at hlen0
  refine sorted_tuple_strs hl rv.strs (by rw [← hlen0]; exact h64) fun out ys h1 h2 h3 => ?_
  obtain ⟨ep, at'⟩ := PyProof.Rows.sortedAll_at s.heap its out
  have hlen : (ys.map V.str).length ≤ sizeLine := by
    rw [List.length_map, h2.length_eq]
    exact small64 h64
  exact ⟨.ref _, upd H (s.heap.objs.size + 1) (.lst (ys.map V.str)), I.laid (t' := s.toks) (fun _ _ => PyProof.Rows.sortedAll_old) (Nat.le_succ _) ⟨hlen, out.toList, ep, vals_of_strs h1, at'⟩, rfl, q ys _ h2 h3 (I.hok.fresh (Nat.le_succ _))⟩
end
end Ga
/-! enumerate(t), t a tuple. -/
namespace Ga
open PySem PySem.Spec PyProof.Rows L2 Mi
open PySem.Sem (wp)
open PySem.AutoSeq1 (wpAny_loadPart')
theorem made_enumerate (l : Addr) (items : Array Value) (n : Nat) (dct : Option Addr) (sl : Array (Option Value)) :
    Meets (Builtin.«enumerate.__new__» ⟨[.type "enumerate", .ref l], []⟩) (fun _ R s => s.heap.get? l = some { cls := .type "tuple", dict := dct, data := .seq items n, slots := sl } ∧
      R (.ok (.ret (.ref (s.heap.push { cls := .type "tuple_iterator", data := .fields #[.ref l, .int 0 0] }).objs.size)))
        { s with heap := (s.heap.push { cls := .type "tuple_iterator", data := .fields #[.ref l, .int 0 0] }).push { cls := .type "enumerate", data := .fields #[.none, .bool false, .ref s.heap.objs.size, rawInt 0, .none, .none] } }) :=
  .of_wp fun prog w A R s h => by
    obtain ⟨hp, g, d, tk, os⟩ := s
    obtain ⟨hl, h⟩ := h
    have sub := sub_enumerate
    have isT : Heap.IsTuple (Shared.heap ⟨hp, g, d, tk, os⟩) l items := ⟨_, hl, rfl, n, rfl⟩
    wp_walk using wpAny_loadPart' hl
    refine wpAny_stack_any fun st => wpAny_pure ?_
    split
    · rename_i c _ _ _ _ _
      cases (c == Value.type "enumerate") <;> (wp_walk using wpAny_loadPart' hl, wpAny_pyIter_tuple isT) <;> exact ⟨_, rfl, h⟩
    · wp_walk using wpAny_loadPart' hl, wpAny_pyIter_tuple isT
      exact ⟨_, rfl, h⟩
section
variable {prog : Program} {w : World} {A : Around} {E : Value → Shared → Prop} {s : Shared}
theorem call_enumerate_tuple {l : Addr} {items : Array Value} {Q : Value → Shared → Prop} (hT : IsTup s.heap l items)
    (h : ∀ h', IsEnum h' (s.heap.objs.size + 1) s.heap.objs.size 0 .none → h'.IsTupleIter s.heap.objs.size l 0 → h'.objs.size = s.heap.objs.size + 2 →
      (∀ b o, s.heap.get? b = some o → h'.get? b = some o) → Q (.ref (s.heap.objs.size + 1)) { s with heap := h' }) :
    wpAny (model prog w) A (call (.type "enumerate") [.ref l]) Q E s := by
  obtain ⟨⟨c, dct, dt, sl⟩, hl, hc, n, hd⟩ := hT
  simp only at hc hd
  subst hc hd
  refine callType_new F.called_enumerate (by decide) (F.typeCall_enumerate_1 _) (F.newCall_enumerate_1 _) (fun obj => F.args_object_init_2 obj _) F.entry_enumerate_new
    (made_enumerate l items n dct sl) ⟨hl, ?_⟩
  have hz : (s.heap.push { cls := .type "tuple_iterator", data := .fields #[.ref l, .int 0 0] }).objs.size = s.heap.objs.size + 1 := Heap.size_push ..
  show _ ∧ _
  rw [hz]
  have told := Heap.get?_push_size (s.heap.push { cls := .type "tuple_iterator", data := .fields #[.ref l, .int 0 0] })
    (o := { cls := .type "enumerate", data := .fields #[.none, .bool false, .ref s.heap.objs.size, rawInt 0, .none, .none] }) rfl
  rw [hz] at told
  exact ⟨⟨_, told, rfl⟩, h _ told ⟨_, Heap.get?_push_of_some _ (Heap.get?_push_size _ rfl), rfl, rfl⟩ (by rw [Heap.size_push, hz]) fun b o x => Heap.get?_push_of_some _ (Heap.get?_push_of_some _ x)⟩
end
/-- the tuple at a as it stands at each turn, each item in a new pair -/
def ItE (K : PySem.W.Frag) (a : Addr) : It :=
  ⟨fun i H => ∃ (xs : List V) (x : V), SqT K H a xs ∧ xs[i]? = some x,
    fun i H v H' => ∃ T x, v = .ref T ∧ H T = none ∧ H' = upd H T (.tup [.int (i : Nat), x]) ∧ ∀ xs, SqT K H a xs → xs[i]? = some x,
    fun i H => ∃ xs : List V, SqT K H a xs ∧ xs.length = i⟩
theorem turn_enumT {P : Program} {w : World} {K : PySem.W.Frag} {elts : List Expr} {kk : Nat} {tpos : Pos} (a e it : Addr) :
    Turn P w K (.Tuple elts kk tpos) (ItE K a) [e, it] e (fun i h => (∃ old, IsEnum h e it ((i : Nat) : Int) old) ∧ h.IsTupleIter it a i ∧ e ≠ it ∧ a ≠ it ∧ a ≠ e) where
  mem := by simp
  obj := fun i h st b hb => by
    obtain ⟨⟨old, he⟩, ⟨o, ho, _, hd⟩, _⟩ := st
    rcases (show b = e ∨ b = it by simpa using hb) with z | z
    · rw [z]
      exact ⟨_, he, fun v q => nomatch q⟩
    · rw [z]
      exact ⟨o, ho, fun v q => by rw [hd] at q; cases q⟩
  keep := fun i h h' st k => by
    obtain ⟨⟨old, he⟩, ⟨o, ho, hr⟩, hn⟩ := st
    exact ⟨⟨old, k e (by simp) _ he⟩, ⟨o, k it (by simp) _ ho, hr⟩, hn⟩
  item := by
    intro X hP hw hK hc i pins s σ H E I hf st hg
    subst hP hw hK
    obtain ⟨⟨old, he⟩, hit, hne, hai, hae⟩ := st
    obtain ⟨xs, x, hq, hx⟩ := hg
    obtain ⟨its, rv, p, hz⟩ := I.tuple hq
    obtain ⟨u, hu, ru⟩ := rv.get hx
    have hel : e < s.heap.objs.size := Heap.lt_size he
    have hil : it < s.heap.objs.size := by
      obtain ⟨_, q, _⟩ := hit
      exact Heap.lt_size q
    have hh : X.A.in1.handled = none := I.ok.hd hc
    have hlt : i < its.toArray.size := by
      have := (List.getElem?_eq_some_iff.mp hu).1
      simpa using this
    refine wpAny_pyNext_enum_itemD (Draws.tuple hh it a hai its.toArray) he ⟨hit, p⟩ hlt hne (by simp only [List.mem_cons, List.not_mem_nil, or_false, not_or]; exact ⟨hne, fun z => hae z.symm⟩) fun y h' tk hy ho st' hT hsz hk => ?_
    have ey : y = u := by
      rw [List.getElem?_toArray, hu] at hy
      exact (Option.some.inj hy).symm
    subst ey
    refine ⟨_, rfl, wpAny_letOwnedTupleGo_enum (s := { s with heap := h', toks := tk + 1 }) ho fun h'' he' sb => ?_⟩
    have hT2 := (sb.2 _ (Nat.ne_of_gt hel)).trans hT
    have new : ObjOk X.prog X.w (upd H s.heap.objs.size (.tup [.int (i : Nat), x])) h'' s.heap.objs.size (.tup [.int (i : Nat), x]) :=
      ⟨by show 2 ≤ sizeLine; decide, [.int i tk, y], .cons ⟨_, rfl⟩ (.cons ru .nil), ⟨_, hT2, rfl, _, rfl⟩⟩
    have I1 : Inv X pins σ (upd H s.heap.objs.size (.tup [.int (i : Nat), x])) { s with heap := h'', toks := tk + 1 } :=
      I.turnedNew (ch := [e, it]) (fun b ob hb q => (sb.2 b (fun z => hb (by simp [z]))).trans (hk b ob (fun z => hb (by simp [z])) (fun z => hb (by simp [z])) q)) hf (Nat.le_refl _) new
    refine ⟨.ref s.heap.objs.size, _, I1, rfl, ⟨_, x, rfl, I.hok.fresh (Nat.le_refl _), rfl, fun ys hy => by rw [I.tuple_inj hy hq]; exact hx⟩, ⟨⟨y, ?_⟩, ?_, hne, hai, hae⟩, fun b hb => ?_⟩
    · have e1 : ((i + 1 : Nat) : Int) = (i : Int) + 1 := by omega
      rw [e1]
      exact he'
    · obtain ⟨o, ho, hr⟩ := st'.1
      exact ⟨o, (sb.2 it (Ne.symm hne)).trans ho, hr⟩
    · have hb' : b < s.heap.objs.size := by
        rcases (show b = e ∨ b = it by simpa using hb) with z | z <;> rw [z] <;> assumption
      rw [upd_ne (Nat.ne_of_lt hb')]
      exact (hf b hb).1
  done := by
    intro X hP hw hK hc i pins s σ H E I hf st hg
    subst hP hw hK
    obtain ⟨⟨old, he⟩, hit, hne, hai, hae⟩ := st
    obtain ⟨xs, hq, hx⟩ := hg
    obtain ⟨its, rv, p, hz⟩ := I.tuple hq
    obtain ⟨f0, f1, f2, f3, f4, f5⟩ := hf it (by simp)
    have hl := rv.length
    have hh : X.A.in1.handled = none := I.ok.hd hc
    have hi : i = its.toArray.size := by
      rw [List.size_toArray]
      omega
    subst hi
    exact wpAny_pyNext_enum_endD (Draws.tuple hh it a hai its.toArray) he ⟨hit, p⟩ fun h' eb => ⟨rfl, I.turned (t' := s.toks) (fun b o hb q => eb b o hb q) f0 f1 f3 f4 f5⟩
  self := fun A i s Q E st h => let ⟨⟨_, he⟩, _⟩ := st; wpAny_pyIter_enum he h
def iEnT (K : PySem.W.Frag) (ta : TA) : TI := fun σ H R => ta σ H fun vs H1 => ∃ a xs, vs = [.ref a] ∧ SqT K H1 a xs ∧ R (ItE K a) H1
theorem pi_enT {X : Cx} {e : Expr} {ta : TA} {p pos tpos : Pos} {elts : List Expr} {kk : Nat} (hg : Gl X "enumerate") (hm : X.mg "enumerate" = none) (ha : PA X [e] ta) (hs : starEach [e] X.env = [(false, eval e X.env)] := by rfl) :
    PI X (.Tuple elts kk tpos) (.Call (.Name "enumerate" p) [e] [] pos) (iEnT X.K ta) := by
  refine ⟨fun pins s σ H R I h => ?_⟩
  refine Call_ (ld_blt I hg hm boot_enumerate (PyProof.Rows.callWith_type1 (thn (ha.run pos pins s σ H _ I h) fun us s1 h1 => ?_) hs rfl))
  obtain ⟨vs, H1, I1, r1, a, xs, ex, hq, q⟩ := h1
  subst ex
  obtain ⟨u, rfl, ru⟩ := vals1 r1
  cases ru
  obtain ⟨its, rv, p', hz⟩ := I1.tuple hq
  refine call_enumerate_tuple p' fun h' he hit hsz hk => wpAny_pyIter_enum he ?_
  have hal : a < s1.heap.objs.size := by
    obtain ⟨o, ho, _⟩ := p'
    exact Heap.lt_size ho
  refine ⟨s1.heap.objs.size + 1, [s1.heap.objs.size + 1, s1.heap.objs.size], _, _, H1, rfl, I1.kept (t' := s1.toks) hk, turn_enumT a (s1.heap.objs.size + 1) s1.heap.objs.size,
    ⟨⟨.none, he⟩, hit, Nat.succ_ne_self _, Nat.ne_of_lt hal, Nat.ne_of_lt (Nat.lt_succ_of_lt hal)⟩, fun b hb => ?_, q⟩
  have hle : s1.heap.objs.size ≤ b := by
    rcases (show b = s1.heap.objs.size + 1 ∨ b = s1.heap.objs.size by simpa using hb) with z | z
    · rw [z]
      exact Nat.le_add_right _ _
    · rw [z]
      exact Nat.le_refl _
  exact I1.fpOk hle (I1.hok.fresh hle)
end Ga
/-! Readings that name their answer; the rules of expressions for them. -/
namespace Ga
open PySem PySem.Spec PyProof.Rows L2 Mi

/-! ### what an expression comes to -/
abbrev Pv := V → Hp → Hp → Prop
def isD (d : D) : Pv := fun v B _ => Rel B d v
/-- a list, one's own or known -/
def isL (ds : List D) : Pv := fun v B H => ∃ l vs, v = .ref l ∧ H l = some (.lst vs) ∧ RelL B ds vs
class Keeps (p : Pv) : Prop where
  keep : ∀ {v B H B' H'}, p v B H → Grow B H B' H' → p v B' H'
instance (d : D) : Keeps (isD d) := ⟨fun r g => r.mono g.kb⟩
instance (ds : List D) : Keeps (isL ds) := ⟨fun ⟨l, vs, h1, h2, h3⟩ g => ⟨l, vs, h1, g.kh _ _ h2, h3.mono g.kb⟩⟩
def tP (Γ : Ctx) (p : Pv) : TE := fun σ H Q => ∃ B0 H0 B, Kn B0 H0 Γ σ B H ∧ ∀ v B' H', Grow B H B' H' → p v B' H' → Q v H'
abbrev tG (Γ : Ctx) (d : D) : TE := tP Γ (isD d)
abbrev tL (Γ : Ctx) (ds : List D) : TE := tP Γ (isL ds)
/-- a new list -/
def tN (Γ : Ctx) (ds : List D) : TE := fun σ H Q => ∃ B0 H0 B, Kn B0 H0 Γ σ B H ∧ ∀ l vs B' H', H l = none → B' l = none → Grow B H B' H' → H' l = some (.lst vs) → RelL B' ds vs → Q (.ref l) H'
def tB (Γ : Ctx) (b : Bool) : TT := fun σ H Q => ∃ B0 H0 B, Kn B0 H0 Γ σ B H ∧ ∀ B' H', Grow B H B' H' → Q b H'
def tA (Γ : Ctx) (ds : List D) : TA := fun σ H Q => ∃ B0 H0 B, Kn B0 H0 Γ σ B H ∧ ∀ vs B' H', Grow B H B' H' → RelL B' ds vs → Q vs H'
def tO (Γ : Ctx) (o : Option Int) : TO := fun σ H Q => ∃ B0 H0 B, Kn B0 H0 Γ σ B H ∧ ∀ B' H', Grow B H B' H' → Q o H'

section
variable {X : Cx} {e : Expr} {es : List Expr}
theorem wkE {t t' : TE} (h : PE X e t) (w : ∀ σ H Q, t' σ H Q → t σ H Q) : PE X e t' := ⟨fun pins s σ H Q I q => h.run pins s σ H Q I (w σ H Q q)⟩
theorem wkT {t t' : TT} (h : PT X e t) (w : ∀ σ H Q, t' σ H Q → t σ H Q) : PT X e t' := ⟨fun pins s σ H Q I q => h.run pins s σ H Q I (w σ H Q q)⟩
theorem wkW {t t' : TT} (h : PW X e t) (w : ∀ σ H Q, t' σ H Q → t σ H Q) : PW X e t' := ⟨fun wh pins s σ H Q I q => h.run wh pins s σ H Q I (w σ H Q q)⟩
theorem wkA {t t' : TA} (h : PA X es t) (w : ∀ σ H Q, t' σ H Q → t σ H Q) : PA X es t' := ⟨fun pos pins s σ H Q I q => h.run pos pins s σ H Q I (w σ H Q q)⟩
theorem wkO {o : Option Expr} {t t' : TO} (h : PO X o t) (w : ∀ σ H Q, t' σ H Q → t σ H Q) : PO X o t' := ⟨fun pins s σ H Q I q => h.run pins s σ H Q I (w σ H Q q)⟩
/-- a way that is not gone -/
theorem noE : PE X e (fun _ _ _ => False) := ⟨fun _ _ _ _ _ _ h => h.elim⟩
theorem noT : PT X e (fun _ _ _ => False) := ⟨fun _ _ _ _ _ _ h => h.elim⟩
theorem noW : PW X e (fun _ _ _ => False) := ⟨fun _ _ _ _ _ _ _ h => h.elim⟩
end

section
variable {X : Cx} {Γ : Ctx} {a b c e : Expr} {es : List Expr} {pos : Pos} {d d1 d2 d3 : D} {ds ds1 ds2 : List D} {p p1 p2 : Pv}
theorem toP (h : PE X e (tP Γ p)) (w : ∀ v B H, p v B H → p1 v B H) : PE X e (tP Γ p1) :=
  wkE h fun σ H Q ⟨B0, H0, B, k, q⟩ => ⟨B0, H0, B, k, fun v B' H' g r => q v B' H' g (w v B' H' r)⟩
theorem isD_eq (h : PE X e (tG Γ d)) (q : d = d1) : PE X e (tG Γ d1) := q ▸ h
/-- a known list is a list -/
theorem g_l (h : PE X e (tG Γ (.lst ds))) : PE X e (tL Γ ds) :=
  wkE h fun σ H Q ⟨B0, H0, B, k, q⟩ => ⟨B0, H0, B, k, fun v B' H' g r => by
    obtain ⟨l, vs, h1, h2, h3⟩ := r.lst_inv
    exact q v B' H' g ⟨l, vs, h1, g.le _ _ h2, h3⟩⟩
theorem g_at {p : Addr} (h : PE X e (tG Γ (.at_ p ds))) : PE X e (tL Γ ds) :=
  wkE h fun σ H Q ⟨B0, H0, B, k, q⟩ => ⟨B0, H0, B, k, fun v B' H' g r => by
    obtain ⟨vs, h1, h2, h3⟩ := r.at_inv
    exact q v B' H' g ⟨p, vs, h1, g.le _ _ h2, h3⟩⟩
/-- a new list is known from now on -/
theorem g_n (h : PE X e (tN Γ ds)) : PE X e (tG Γ (.lst ds)) :=
  wkE h fun σ H Q ⟨B0, H0, B, k, q⟩ => ⟨B0, H0, B, k, fun l vs B' H' n nb g hl r => by
    have g2 : Grow B H (upd B' l (.lst vs)) H' := ⟨g.kb.trans (same_new nb), g.kh, fun x o hx => by
      by_cases hxl : x = l
      · subst hxl
        rw [upd_same] at hx
        cases hx
        exact hl
      · rw [upd_ne hxl] at hx
        exact g.le x o hx, fun x o hx hb => by
      have hxl : x ≠ l := fun z => by
        subst z
        rw [n] at hx
        cases hx
      rw [upd_ne hxl]
      exact g.fr x o hx hb⟩
    exact q _ _ _ g2 (.lst upd_same (r.mono (same_new nb)))⟩
theorem g_nl (h : PE X e (tN Γ ds)) : PE X e (tL Γ ds) :=
  wkE h fun σ H Q ⟨B0, H0, B, k, q⟩ => ⟨B0, H0, B, k, fun l vs B' H' n nb g hl r => q _ _ _ g ⟨l, vs, rfl, hl, r⟩⟩

/-! ### names, constants -/
theorem g_var {i : Nat} {x : Str} (hΓ : Γ[i]? = some (.d d)) (h : PE X (.Name x pos) (tVar i)) : PE X (.Name x pos) (tG Γ d) :=
  wkE h fun σ H Q ⟨B0, H0, B, k, q⟩ => by
    obtain ⟨v, h1, h2⟩ := k.d i d hΓ
    exact ⟨v, h1, q v B H (Grow.refl k.le) h2⟩
theorem g_varm {i : Nat} {x : Str} (hΓ : Γ[i]? = some (.m ds)) (h : PE X (.Name x pos) (tVar i)) : PE X (.Name x pos) (tL Γ ds) :=
  wkE h fun σ H Q ⟨B0, H0, B, k, q⟩ => by
    obtain ⟨l, vs, h1, h2, _, _, h5⟩ := k.m i ds hΓ
    exact ⟨.ref l, h1, q _ B H (Grow.refl k.le) ⟨l, vs, rfl, h2, h5⟩⟩
theorem g_con {v : V} (h : PE X e (tC v)) : PE X e (tG Γ (.v v)) :=
  wkE h fun σ H Q ⟨B0, H0, B, k, q⟩ => q v B H (Grow.refl k.le) (.v v)
theorem g_int {i : Int} {j} : PE X (.Constant (.int i) j pos) (tG Γ (.int i)) := g_con pe_int
theorem g_bl {i : Bool} {j} : PE X (.Constant (.bool i) j pos) (tG Γ (.bl i)) := g_con pe_bl
theorem g_non {j} : PE X (.Constant .none j pos) (tG Γ .non) := g_con pe_non
theorem g_str {i : Str} {j} : PE X (.Constant (.str i) j pos) (tG Γ (.str i)) := g_con pe_str

/-! ### operators -/
theorem g_op {op : Operator} {r : R2} [Keeps p1] (ho : OpR X (binaryOp op) r) (ha : PE X a (tP Γ p1)) (hb : PE X b (tP Γ p2))
    (h : ∀ x y B H (Q : VK), Same B H → p1 x B H → p2 y B H → (∀ v B' H', Grow B H B' H' → p v B' H' → Q v H') → r x y H Q) : PE X (.BinOp a op b pos) (tP Γ p) :=
  wkE (pe_op ho ha hb) fun σ H Q ⟨B0, H0, B, k, q⟩ => ⟨B0, H0, B, k, fun x B1 H1 g1 r1 => ⟨B0, H0, B1, k.grow g1, fun y B2 H2 g2 r2 =>
    h x y B2 H2 Q g2.le (Keeps.keep r1 g2) r2 fun v B' H' g r => q v B' H' ((g1.trans g2).trans g) r⟩⟩
theorem g_opN {op : Operator} {r : R2} [Keeps p1] (ho : OpR X (binaryOp op) r) (ha : PE X a (tP Γ p1)) (hb : PE X b (tP Γ p2))
    (h : ∀ x y B H (Q : VK), Same B H → p1 x B H → p2 y B H → (∀ l vs, H l = none → RelL B ds vs → Q (.ref l) (upd H l (.lst vs))) → r x y H Q) : PE X (.BinOp a op b pos) (tN Γ ds) :=
  wkE (pe_op ho ha hb) fun σ H Q ⟨B0, H0, B, k, q⟩ => ⟨B0, H0, B, k, fun x B1 H1 g1 r1 => ⟨B0, H0, B1, k.grow g1, fun y B2 H2 g2 r2 => by
    refine h x y B2 H2 Q g2.le (Keeps.keep r1 g2) r2 fun l vs n r => ?_
    have g := g1.trans g2
    exact q l vs B2 _ (g.kh.free n) (g.le.free n) (g.trans (Grow.hid g.le n)) upd_same r⟩⟩
/-- a comparison, as a value or as a test -/
def Cmp (X : Cx) (Γ : Ctx) (op : CmpOp) (a b : Expr) (x : Bool) : Prop := ∃ (p1 p2 : Pv) (r : R2), Keeps p1 ∧ OpR X (compareOp op) r ∧ behindInMarks op b = false ∧ PE X a (tP Γ p1) ∧ PE X b (tP Γ p2) ∧
  ∀ u v B H (Q : VK), Same B H → p1 u B H → p2 v B H → (∀ B' H', Grow B H B' H' → Q (.bl x) H') → r u v H Q
theorem g_cmp {op : CmpOp} {r : R2} {x : Bool} [kp : Keeps p1] (ho : OpR X (compareOp op) r) (hm : behindInMarks op b = false) (ha : PE X a (tP Γ p1)) (hb : PE X b (tP Γ p2))
    (h : ∀ u v B H (Q : VK), Same B H → p1 u B H → p2 v B H → (∀ v B' H', Grow B H B' H' → isD (.bl x) v B' H' → Q v H') → r u v H Q) : Cmp X Γ op a b x :=
  ⟨p1, p2, r, kp, ho, hm, ha, hb, fun u v B H Q le r1 r2 k => h u v B H Q le r1 r2 fun z B' H' g rz => by
    rw [rz.v_inv]
    exact k B' H' g⟩
theorem Cmp.v {op : CmpOp} {x : Bool} (c : Cmp X Γ op a b x) : PE X (.Compare a [op] [b] pos) (tG Γ (.bl x)) := by
  obtain ⟨p1, p2, r, kp, ho, hm, ha, hb, h⟩ := c
  exact wkE (pe_cmpR ho ha hb hm) fun σ H Q ⟨B0, H0, B, k, q⟩ => ⟨B0, H0, B, k, fun x B1 H1 g1 r1 => ⟨B0, H0, B1, k.grow g1, fun y B2 H2 g2 r2 =>
    h x y B2 H2 Q g2.le (Keeps.keep r1 g2) r2 fun B' H' g => q _ B' H' ((g1.trans g2).trans g) (.v _)⟩⟩
theorem Cmp.t {op : CmpOp} {x : Bool} (c : Cmp X Γ op a b x) : PT X (.Compare a [op] [b] pos) (tB Γ x) := by
  obtain ⟨p1, p2, r, kp, ho, hm, ha, hb, h⟩ := c
  exact wkT (pt_cmpR ho ha hb hm) fun σ H Q ⟨B0, H0, B, k, q⟩ => ⟨B0, H0, B, k, fun u B1 H1 g1 r1 => ⟨B0, H0, B1, k.grow g1, fun y B2 H2 g2 r2 =>
    h u y B2 H2 _ g2.le (Keeps.keep r1 g2) r2 fun B' H' g => ⟨x, rfl, q B' H' ((g1.trans g2).trans g)⟩⟩⟩
theorem Cmp.is {op : CmpOp} {x y : Bool} (c : Cmp X Γ op a b x) (e : x = y) : Cmp X Γ op a b y := e ▸ c
section
variable {i j : Int} {s t : Str}
theorem g_add (ha : PE X a (tG Γ (.int i))) (hb : PE X b (tG Γ (.int j))) : PE X (.BinOp a .Add b pos) (tG Γ (.int (i + j))) :=
  g_op op_add ha hb fun x y B H Q le r1 r2 k => ⟨i, j, r1.v_inv, r2.v_inv, k _ B H (Grow.refl le) (.v _)⟩
theorem g_sub (ha : PE X a (tG Γ (.int i))) (hb : PE X b (tG Γ (.int j))) : PE X (.BinOp a .Sub b pos) (tG Γ (.int (i - j))) :=
  g_op op_sub ha hb fun x y B H Q le r1 r2 k => ⟨i, j, r1.v_inv, r2.v_inv, k _ B H (Grow.refl le) (.v _)⟩
theorem g_mul (h : CMul i j) (ha : PE X a (tG Γ (.int i))) (hb : PE X b (tG Γ (.int j))) : PE X (.BinOp a .Mult b pos) (tG Γ (.int (i * j))) :=
  g_op op_mul ha hb fun x y B H Q le r1 r2 k => ⟨i, j, r1.v_inv, r2.v_inv, h, k _ B H (Grow.refl le) (.v _)⟩
theorem g_fdiv (h : CDiv i j) (ha : PE X a (tG Γ (.int i))) (hb : PE X b (tG Γ (.int j))) : PE X (.BinOp a .FloorDiv b pos) (tG Γ (.int (i / j))) :=
  g_op op_fdiv ha hb fun x y B H Q le r1 r2 k => ⟨i, j, r1.v_inv, r2.v_inv, h, k _ B H (Grow.refl le) (.v _)⟩
theorem g_mod (h : 0 < j) (ha : PE X a (tG Γ (.int i))) (hb : PE X b (tG Γ (.int j))) : PE X (.BinOp a .Mod b pos) (tG Γ (.int (i % j))) :=
  g_op op_mod ha hb fun x y B H Q le r1 r2 k => ⟨i, j, r1.v_inv, r2.v_inv, h, k _ B H (Grow.refl le) (.v _)⟩
theorem g_pow (h : CPow i j) (ha : PE X a (tG Γ (.int i))) (hb : PE X b (tG Γ (.int j))) : PE X (.BinOp a .Pow b pos) (tG Γ (.int (i ^ j.toNat))) :=
  g_op op_pow ha hb fun x y B H Q le r1 r2 k => ⟨i, j, r1.v_inv, r2.v_inv, h, k _ B H (Grow.refl le) (.v _)⟩
theorem g_neg (ha : PE X a (tG Γ (.int i))) : PE X (.UnaryOp .USub a pos) (tG Γ (.int (-i))) :=
  wkE (pe_un un_neg ha) fun σ H Q ⟨B0, H0, B, k, q⟩ => ⟨B0, H0, B, k, fun x B1 H1 g1 r1 => ⟨i, r1.v_inv, q _ _ _ g1 (.v _)⟩⟩
theorem g_lt (ha : PE X a (tG Γ (.int i))) (hb : PE X b (tG Γ (.int j))) : Cmp X Γ .Lt a b (decide (i < j)) :=
  g_cmp op_lt (nomark _) ha hb fun x y B H Q le r1 r2 k => ⟨i, j, r1.v_inv, r2.v_inv, k _ B H (Grow.refl le) (.v _)⟩
theorem g_le (ha : PE X a (tG Γ (.int i))) (hb : PE X b (tG Γ (.int j))) : Cmp X Γ .LtE a b (decide (i ≤ j)) :=
  g_cmp op_le (nomark _) ha hb fun x y B H Q le r1 r2 k => ⟨i, j, r1.v_inv, r2.v_inv, k _ B H (Grow.refl le) (.v _)⟩
theorem g_gt (ha : PE X a (tG Γ (.int i))) (hb : PE X b (tG Γ (.int j))) : Cmp X Γ .Gt a b (decide (j < i)) :=
  g_cmp op_gt (nomark _) ha hb fun x y B H Q le r1 r2 k => ⟨i, j, r1.v_inv, r2.v_inv, k _ B H (Grow.refl le) (.v _)⟩
theorem g_ge (ha : PE X a (tG Γ (.int i))) (hb : PE X b (tG Γ (.int j))) : Cmp X Γ .GtE a b (decide (j ≤ i)) :=
  g_cmp op_ge (nomark _) ha hb fun x y B H Q le r1 r2 k => ⟨i, j, r1.v_inv, r2.v_inv, k _ B H (Grow.refl le) (.v _)⟩
/-- scalars -/
theorem g_eq {u v : V} (h : scal u v = true) (ha : PE X a (tG Γ (.v u))) (hb : PE X b (tG Γ (.v v))) : Cmp X Γ .Eq a b (decide (u = v)) :=
  g_cmp op_eq (nomark _) ha hb fun x y B H Q le r1 r2 k => by
    rw [r1.v_inv, r2.v_inv]
    exact ⟨h, k _ B H (Grow.refl le) (.v _)⟩
theorem g_ne {u v : V} (h : scal u v = true) (ha : PE X a (tG Γ (.v u))) (hb : PE X b (tG Γ (.v v))) : Cmp X Γ .NotEq a b (!decide (u = v)) :=
  g_cmp op_ne (nomark _) ha hb fun x y B H Q le r1 r2 k => by
    rw [r1.v_inv, r2.v_inv]
    exact ⟨h, k _ B H (Grow.refl le) (.v _)⟩
theorem g_eqI (ha : PE X a (tG Γ (.int i))) (hb : PE X b (tG Γ (.int j))) : Cmp X Γ .Eq a b (decide (i = j)) :=
  (g_eq rfl ha hb).is (by simp)
theorem g_neI (ha : PE X a (tG Γ (.int i))) (hb : PE X b (tG Γ (.int j))) : Cmp X Γ .NotEq a b (!decide (i = j)) :=
  (g_ne rfl ha hb).is (by simp)
theorem g_eqS (ha : PE X a (tG Γ (.str s))) (hb : PE X b (tG Γ (.str t))) : Cmp X Γ .Eq a b (decide (s = t)) :=
  (g_eq rfl ha hb).is (by simp)
theorem g_neS (ha : PE X a (tG Γ (.str s))) (hb : PE X b (tG Γ (.str t))) : Cmp X Γ .NotEq a b (!decide (s = t)) :=
  (g_ne rfl ha hb).is (by simp)
theorem g_eqB {s t : Bool} (ha : PE X a (tG Γ (.bl s))) (hb : PE X b (tG Γ (.bl t))) : Cmp X Γ .Eq a b (decide (s = t)) :=
  (g_eq rfl ha hb).is (by simp)
/-- x is not True -/
theorem g_nisB {s t : Bool} (ha : PE X a (tG Γ (.bl s))) (hb : PE X b (tG Γ (.bl t))) : Cmp X Γ .IsNot a b (!decide (s = t)) :=
  g_cmp op_notBl (nomark _) ha hb fun x y B H Q le r1 r2 k => ⟨s, t, r1.v_inv, r2.v_inv, k _ B H (Grow.refl le) (.v _)⟩
/-- a scalar is None -/
theorem g_isN {u : V} (ha : PE X a (tG Γ (.v u))) (hb : PE X b (tG Γ .non)) : Cmp X Γ .Is a b (decide (u = .non)) :=
  g_cmp op_isN (nomark _) ha hb fun x y B H Q le r1 r2 k => by
    rw [r1.v_inv]
    exact ⟨r2.v_inv, k _ B H (Grow.refl le) (.v _)⟩
/-- a chain of two comparisons of numbers: i <= j <= n -/
theorem g_chain {n : Int} (hm : lastMarks [CmpOp.LtE, CmpOp.LtE] [b, c] = false) (ha : PE X a (tG Γ (.int i))) (hb : PE X b (tG Γ (.int j))) (hc : PE X c (tG Γ (.int n))) : PE X (.Compare a [.LtE, .LtE] [b, c] pos) (tG Γ (.bl (decide (i ≤ j) && decide (j ≤ n)))) :=
  wkE (pe_chain op_le op_le ha hb hc (hm := hm)) fun σ H Q ⟨B0, H0, B, k, q⟩ => ⟨B0, H0, B, k, fun x B1 H1 g1 r1 => ⟨B0, H0, B1, k.grow g1, fun y B2 H2 g2 r2 => by
    refine ⟨i, j, r1.v_inv, r2.v_inv, _, rfl, ?_⟩
    by_cases h : i ≤ j
    · rw [decide_eq_true h]
      rw [decide_eq_true h] at q
      refine iteT ⟨B0, H0, B2, (k.grow g1).grow g2, fun z B3 H3 g3 r3 => ⟨j, n, r2.v_inv, r3.v_inv, ?_⟩⟩
      exact q _ B3 H3 ((g1.trans g2).trans g3) (.v _)
    · rw [decide_eq_false h]
      rw [decide_eq_false h] at q
      exact iteF (q _ B2 H2 (g1.trans g2) (.v _))⟩⟩
end
/-! ### in -/
theorem inV_strs (x : Str) (ls : List Str) : inV (.str x) (ls.map V.str) = decide (x ∈ ls) := by
  unfold inV
  rw [List.any_map]
  induction ls with
  | nil => simp
  | cons y ys ih =>
    rw [List.any_cons, ih]
    show ((y == x) || decide (x ∈ ys)) = _
    by_cases h : x = y
    · subst h
      simp
    · have h' : ¬ y = x := fun z => h z.symm
      simp [h, h']
theorem flat_strsV (ls : List Str) : (ls.map V.str).all flatV = true := by
  rw [List.all_map]
  exact List.all_eq_true.mpr fun _ _ => rfl
theorem flat_intsV (ls : List Int) : (ls.map V.int).all flatV = true := by
  rw [List.all_map]
  exact List.all_eq_true.mpr fun _ _ => rfl
theorem g_inT {x : Str} {ls : List Str} (hm : behindInMarks .In b = false) (ha : PE X a (tG Γ (.str x))) (hb : PE X b (tG Γ (tS ls))) : Cmp X Γ .In a b (decide (x ∈ ls)) :=
  g_cmp op_in_seq hm ha hb fun u v B H Q le r1 r2 k => by
    rw [r1.v_inv]
    obtain ⟨q, o, vs, h1, h2, h3, h4⟩ := r2.tup_inv
    refine ⟨q, vs, h1, .inr (sqF (le _ _ h2)), rfl, by rw [h4.toS]; exact flat_strsV ls, ?_⟩
    rw [h4.toS]
    show Q (.bl (inV (.str x) (ls.map V.str))) H
    rw [inV_strs]
    exact k _ B H (Grow.refl le) (.v _)
/-- one sign in a text -/
theorem g_inS {x : Nat} {z : Str} (hm : behindInMarks .In b = false) (ha : PE X a (tG Γ (.str ⟨#[x]⟩))) (hb : PE X b (tG Γ (.str z))) : Cmp X Γ .In a b (decide (x ∈ z.cps.toList)) :=
  g_cmp op_in_sign hm ha hb fun u v B H Q le r1 r2 k => ⟨x, z, r1.v_inv, r2.v_inv, k _ B H (Grow.refl le) (.v _)⟩
theorem g_ninS {x : Nat} {z : Str} (hm : behindInMarks .NotIn b = false) (ha : PE X a (tG Γ (.str ⟨#[x]⟩))) (hb : PE X b (tG Γ (.str z))) : Cmp X Γ .NotIn a b (!decide (x ∈ z.cps.toList)) :=
  g_cmp op_notIn_sign hm ha hb fun u v B H Q le r1 r2 k => ⟨x, z, r1.v_inv, r2.v_inv, k _ B H (Grow.refl le) (.v _)⟩
/-- a key in a dict -/
theorem g_inDv {x : Str} {kvs : List (Key × V)} (hu : X.A.units + 1 < cLine) (hm : behindInMarks .In b = false) (ha : PE X a (tG Γ (.str x))) (hb : PE X b (tG Γ (.dic kvs))) : PE X (.Compare a [.In] [b] pos) (tG Γ (.bl (valV kvs (Sum.inr x)).isSome)) :=
  wkE (pe_cmp (pc_din hu ha hb) hm) fun σ H Q ⟨B0, H0, B, k, q⟩ => ⟨B0, H0, B, k, fun x' B1 H1 g1 r1 => ⟨B0, H0, B1, k.grow g1, fun y B2 H2 g2 r2 => by
    obtain ⟨l, h1, h2⟩ := r2.dic_inv
    rw [r1.v_inv]
    exact ⟨l, _, h1, DGet.k (k := Sum.inr x) (g2.le _ _ h2), q _ B2 H2 (g1.trans g2) (.v _)⟩⟩⟩
theorem g_inDt {x : Str} {kvs : List (Key × V)} (hu : X.A.units + 1 < cLine) (hm : behindInMarks .In b = false) (ha : PE X a (tG Γ (.str x))) (hb : PE X b (tG Γ (.dic kvs))) : PT X (.Compare a [.In] [b] pos) (tB Γ (valV kvs (Sum.inr x)).isSome) :=
  wkT (pt_cmp (pc_din hu ha hb) hm) fun σ H Q ⟨B0, H0, B, k, q⟩ => ⟨B0, H0, B, k, fun x' B1 H1 g1 r1 => ⟨B0, H0, B1, k.grow g1, fun y B2 H2 g2 r2 => by
    obtain ⟨l, h1, h2⟩ := r2.dic_inv
    rw [r1.v_inv]
    exact ⟨l, _, h1, DGet.k (k := Sum.inr x) (g2.le _ _ h2), _, rfl, q B2 H2 (g1.trans g2)⟩⟩⟩
/-! ### data compared -/
mutual
def toPy : D → PyData
  | .v .non => .none
  | .v (.bl b) => .bool b
  | .v (.int i) => .int i
  | .v (.str x) => .str x
  | .tup ds => .tuple (toPys ds)
  | .pr ds => .tuple (toPys ds)
  | .lst ds => .list (toPys ds)
  | _ => .none
def toPys : List D → List PyData
  | [] => []
  | d :: ds => toPy d :: toPys ds
end
mutual
def plainD : D → Bool
  | .v .non => true
  | .v (.bl _) => true
  | .v (.int _) => true
  | .v (.str _) => true
  | .tup ds => plainDs ds
  | .pr ds => plainDs ds
  | .lst ds => plainDs ds
  | _ => false
def plainDs : List D → Bool
  | [] => true
  | d :: ds => plainD d && plainDs ds
end
mutual
theorem Rel.dp {K : PySem.W.Frag} {H : Hp} : ∀ {d : D} {v : V}, Rel H d v → plainD d = true → Dp K H v (toPy d)
  | _, _, .v .non, _ => .non
  | _, _, .v (.bl b), _ => .bl b
  | _, _, .v (.int i), _ => .int i
  | _, _, .v (.str x), _ => .str x
  | _, _, .v (.byt x), h => by simp [plainD] at h
  | _, _, .v (.flt x), h => by simp [plainD] at h
  | _, _, .v (.ref x), h => by simp [plainD] at h
  | _, _, .v (.ty x), h => by simp [plainD] at h
  | _, _, .tup h _ r, q => .tup (sqF h) (RelL.dp r (by simpa [plainD] using q))
  | _, _, .pr h r, q => .tup (.of h) (RelL.dp r (by simpa [plainD] using q))
  | _, _, .lst h r, q => .lst (.of h) (RelL.dp r (by simpa [plainD] using q))
  | _, _, .at_ h r, q => by simp [plainD] at q
  | _, _, .dic h, q => by simp [plainD] at q
  | _, _, .ins h r, q => by simp [plainD] at q
theorem RelL.dp {K : PySem.W.Frag} {H : Hp} : ∀ {ds : List D} {vs : List V}, RelL H ds vs → plainDs ds = true → DpAll K H vs (toPys ds)
  | _, _, .nil, _ => .nil
  | _, _, .cons h r, q => by
    simp only [plainDs, Bool.and_eq_true] at q
    exact .cons (Rel.dp h q.1) (RelL.dp r q.2)
end
theorem g_eqD (hu : X.A.units + 64 < cLine) (h1 : plainD d1 = true) (h2 : plainD d2 = true) (s1 : SeqAt.shaped (toPy d1) = true) (s2 : SeqAt.shaped (toPy d2) = true)
    (ha : PE X a (tG Γ d1)) (hb : PE X b (tG Γ d2)) : Cmp X Γ .Eq a b (PyData.eqv (toPy d1) (toPy d2)) :=
  g_cmp (op_eqD hu) (nomark _) ha hb fun u v B H Q le r1 r2 k => ⟨_, _, Rel.dp (r1.mono le) h1, Rel.dp (r2.mono le) h2, s1, s2, k _ B H (Grow.refl le) (.v _)⟩
theorem g_neD (hu : X.A.units + 64 < cLine) (h1 : plainD d1 = true) (h2 : plainD d2 = true) (s1 : SeqAt.shaped (toPy d1) = true) (s2 : SeqAt.shaped (toPy d2) = true)
    (ha : PE X a (tG Γ d1)) (hb : PE X b (tG Γ d2)) : Cmp X Γ .NotEq a b (!PyData.eqv (toPy d1) (toPy d2)) :=
  g_cmp (op_neD hu) (nomark _) ha hb fun u v B H Q le r1 r2 k => ⟨_, _, Rel.dp (r1.mono le) h1, Rel.dp (r2.mono le) h2, s1, s2, k _ B H (Grow.refl le) (.v _)⟩
end
end Ga
/-! Further rules: subscripts, slices, displays, calls, attributes, truth. -/
namespace Ga
open PySem PySem.Spec PyProof.Rows L2 Mi
section
variable {X : Cx} {Γ : Ctx} {a b c e : Expr} {es : List Expr} {pos : Pos} {d d1 d2 d3 : D} {ds ds1 ds2 : List D} {p p1 p2 : Pv}
/-! ### items -/
theorem RelL.at {H : Hp} {ds : List D} {vs : List V} {i : Int} {d : D} (r : RelL H ds vs) (h : atI ds i = some d) : ∃ v, atI vs i = some v ∧ Rel H d v := by
  unfold atI at h ⊢
  rw [← r.len]
  cases hj : ixN ds.length i with
  | none =>
    rw [hj] at h
    cases h
  | some j =>
    rw [hj] at h
    obtain ⟨v, h1, h2⟩ := r.get (i := j) h
    exact ⟨v, h1, h2⟩
theorem g_ixT {i : Int} (h : atI ds i = some d) (ha : PE X a (tG Γ (.tup ds))) (hb : PE X b (tG Γ (.int i))) (hs : PlainIx b) : PE X (.Subscript a b pos) (tG Γ d) :=
  wkE (pe_ix ix_tup ha hb hs) fun σ H Q ⟨B0, H0, B, k, q⟩ => ⟨B0, H0, B, k, fun x B1 H1 g1 r1 => ⟨B0, H0, B1, k.grow g1, fun y B2 H2 g2 r2 => by
    obtain ⟨p, o, vs, h1, h2, h3, h4⟩ := (r1.mono g2.kb).tup_inv
    obtain ⟨v, h5, h6⟩ := h4.at h
    exact ⟨p, vs, i, v, h1, r2.v_inv, sqF (g2.le _ _ h2), h5, q v B2 H2 (g1.trans g2) h6⟩⟩⟩
theorem g_ixL {i : Int} (h : atI ds i = some d) (ha : PE X a (tL Γ ds)) (hb : PE X b (tG Γ (.int i))) (hs : PlainIx b) : PE X (.Subscript a b pos) (tG Γ d) :=
  wkE (pe_ix ix_list ha hb hs) fun σ H Q ⟨B0, H0, B, k, q⟩ => ⟨B0, H0, B, k, fun x B1 H1 g1 r1 => ⟨B0, H0, B1, k.grow g1, fun y B2 H2 g2 r2 => by
    obtain ⟨l, vs, h1, h2, h4⟩ := Keeps.keep r1 g2
    obtain ⟨v, h5, h6⟩ := h4.at h
    exact ⟨l, vs, i, v, h1, r2.v_inv, .of h2, h5, q v B2 H2 (g1.trans g2) h6⟩⟩⟩
theorem g_ixS {i : Int} {z : Str} {x : Nat} (hz : z.length ≤ sizeLine) (h : atI z.cps.toList i = some x) (ha : PE X a (tG Γ (.str z))) (hb : PE X b (tG Γ (.int i))) (hs : PlainIx b) : PE X (.Subscript a b pos) (tG Γ (.str ⟨#[x]⟩)) :=
  wkE (pe_ix ix_str ha hb hs) fun σ H Q ⟨B0, H0, B, k, q⟩ => ⟨B0, H0, B, k, fun u B1 H1 g1 r1 => ⟨B0, H0, B1, k.grow g1, fun y B2 H2 g2 r2 =>
    ⟨z, i, x, r1.v_inv, r2.v_inv, hz, h, q _ B2 H2 (g1.trans g2) (.v _)⟩⟩⟩
theorem g_ixD {x : Str} {kvs : List (Key × V)} {v : V} (hu : X.A.units + 1 < cLine) (h : valV kvs (Sum.inr x) = some v) (ha : PE X a (tG Γ (.dic kvs))) (hb : PE X b (tG Γ (.str x))) (hs : NoSl b) : PE X (.Subscript a b pos) (tG Γ (.v v)) :=
  wkE (pe_dget hu ha hb hs) fun σ H Q ⟨B0, H0, B, k, q⟩ => ⟨B0, H0, B, k, fun u B1 H1 g1 r1 => ⟨B0, H0, B1, k.grow g1, fun y B2 H2 g2 r2 => by
    obtain ⟨l, h1, h2⟩ := (r1.mono g2.kb).dic_inv
    rw [r2.v_inv]
    refine ⟨l, v, h1, ?_, q _ B2 H2 (g1.trans g2) (.v _)⟩
    rw [← h]
    exact DGet.k (k := Sum.inr x) (g2.le _ _ h2)⟩⟩
/-! ### slices -/
def cut {α : Type} (xs : List α) (lo hi : Option Int) : List α := (xs.drop (HT.sIx xs.length 0 lo)).take (HT.sIx xs.length xs.length hi - HT.sIx xs.length 0 lo)
theorem RelL.cut {H : Hp} {ds : List D} {vs : List V} (r : RelL H ds vs) (lo hi : Option Int) : RelL H (Ga.cut ds lo hi) (cutV vs lo hi) := by
  unfold Ga.cut cutV
  rw [r.len]
  exact (r.drop _).take _
theorem cut_map {α β : Type} (f : α → β) (xs : List α) (lo hi : Option Int) : cut (xs.map f) lo hi = (cut xs lo hi).map f := by
  unfold cut
  simp [List.map_take, List.map_drop]
theorem g_o0 : PO X none (tO Γ none) := wkO po_none fun σ H Q ⟨B0, H0, B, k, q⟩ => q B H (Grow.refl k.le)
theorem g_o1 {i : Int} (h : PE X e (tG Γ (.int i))) : PO X (some e) (tO Γ (some i)) :=
  wkO (po_some h) fun σ H Q ⟨B0, H0, B, k, q⟩ => ⟨B0, H0, B, k, fun x B1 H1 g1 r1 => ⟨i, r1.v_inv, q B1 H1 g1⟩⟩
theorem g_slT {lo hi : Option Expr} {l h : Option Int} {p2 : Pos} (he : PE X e (tG Γ (.tup ds))) (hl : PO X lo (tO Γ l)) (hh : PO X hi (tO Γ h)) : PE X (.Subscript e (.Slice lo hi none p2) pos) (tG Γ (.tup (cut ds l h))) :=
  wkE (pe_slice sl_tupF he hl hh) fun σ H Q ⟨B0, H0, B, k, q⟩ => ⟨B0, H0, B, k, fun x B1 H1 g1 r1 => ⟨B0, H0, B1, k.grow g1, fun B2 H2 g2 => ⟨B0, H0, B2, (k.grow g1).grow g2, fun B3 H3 g3 => by
    have g := (g1.trans g2).trans g3
    obtain ⟨t, o, vs, h1, h2, h3, h4⟩ := (r1.mono (g2.trans g3).kb).tup_inv
    refine ⟨t, vs, h1, sqF (g3.le _ _ h2), fun ec => ?_, fun t' o' n hd => ?_⟩
    · refine q _ B3 H3 g (.tup h2 h3 ?_)
      have := h4.cut l h
      rwa [ec] at this
    · exact q _ _ _ (g.trans (Grow.new g3.le n)) (.tup upd_same hd ((h4.cut l h).mono (same_new (g3.le.free n))))⟩⟩⟩
theorem g_slL {lo hi : Option Expr} {l h : Option Int} {p2 : Pos} (he : PE X e (tL Γ ds)) (hl : PO X lo (tO Γ l)) (hh : PO X hi (tO Γ h)) : PE X (.Subscript e (.Slice lo hi none p2) pos) (tN Γ (cut ds l h)) :=
  wkE (pe_slice sl_list he hl hh) fun σ H Q ⟨B0, H0, B, k, q⟩ => ⟨B0, H0, B, k, fun x B1 H1 g1 r1 => ⟨B0, H0, B1, k.grow g1, fun B2 H2 g2 => ⟨B0, H0, B2, (k.grow g1).grow g2, fun B3 H3 g3 => by
    have g := (g1.trans g2).trans g3
    obtain ⟨t, vs, h1, h2, h4⟩ := Keeps.keep r1 (g2.trans g3)
    refine ⟨t, vs, h1, .of h2, fun t' n => ?_⟩
    exact q t' _ B3 _ (g.kh.free n) (g3.le.free n) (g.trans (Grow.hid g3.le n)) upd_same (h4.cut l h)⟩⟩⟩
theorem g_back {k1 : Nat} {p1 p2 p3 : Pos} (he : PE X e (tG Γ (.tup ds))) : PE X (.Subscript e (.Slice none none (some (.UnaryOp .USub (.Constant (.int 1) k1 p1) p2)) p3) pos) (tG Γ (.tup ds.reverse)) :=
  wkE (pe_backF he) fun σ H Q ⟨B0, H0, B, k, q⟩ => ⟨B0, H0, B, k, fun x B1 H1 g1 r1 => by
    obtain ⟨t, o, vs, h1, h2, h3, h4⟩ := r1.tup_inv
    exact ⟨t, vs, h1, sqF (g1.le _ _ h2), fun t' o' n hd => q _ _ _ (g1.trans (Grow.new g1.le n)) (.tup upd_same hd ((h4.rev).mono (same_new (g1.le.free n))))⟩⟩
/-! ### argument lists, displays -/
theorem ga_nil : PA X [] (tA Γ []) := wkA pa_nil fun σ H Q ⟨B0, H0, B, k, q⟩ => q [] B H (Grow.refl k.le) .nil
theorem ga_cons (ha : PE X e (tG Γ d)) (hr : PA X es (tA Γ ds)) (hs : starEach (e :: es) X.env = (false, eval e X.env) :: starEach es X.env := by rfl) : PA X (e :: es) (tA Γ (d :: ds)) :=
  wkA (pa_cons ha hr hs) fun σ H Q ⟨B0, H0, B, k, q⟩ => ⟨B0, H0, B, k, fun x B1 H1 g1 r1 => ⟨B0, H0, B1, k.grow g1, fun xs B2 H2 g2 r2 => q _ B2 H2 (g1.trans g2) (.cons (r1.mono g2.kb) r2)⟩⟩
theorem g_tup {x1} (h : PA X es (tA Γ ds)) (hz : ds.length ≤ 1000) : PE X (.Tuple es x1 pos) (tG Γ (.tup ds)) :=
  wkE (pe_tupF h) fun σ H Q ⟨B0, H0, B, k, q⟩ => ⟨B0, H0, B, k, fun xs B1 H1 g1 r1 => ⟨by rw [← r1.len]; exact Nat.le_of_lt (small1000 hz), fun t o n hd =>
    q _ _ _ (g1.trans (Grow.new g1.le n)) (.tup upd_same hd (r1.mono (same_new (g1.le.free n))))⟩⟩
theorem g_lst (h : PA X es (tA Γ ds)) (hz : ds.length ≤ 1000) : PE X (.List es pos) (tN Γ ds) :=
  wkE (pe_lst h) fun σ H Q ⟨B0, H0, B, k, q⟩ => ⟨B0, H0, B, k, fun xs B1 H1 g1 r1 => ⟨by rw [← r1.len]; exact Nat.le_of_lt (small1000 hz), fun t n =>
    q t xs B1 _ (g1.kh.free n) (g1.le.free n) (g1.trans (Grow.hid g1.le n)) upd_same r1⟩⟩
/-! ### + of tuples, of lists -/
theorem g_catT (hz : ds1.length + ds2.length ≤ 1000) (ha : PE X a (tG Γ (.tup ds1))) (hb : PE X b (tG Γ (.tup ds2))) : PE X (.BinOp a .Add b pos) (tG Γ (.tup (ds1 ++ ds2))) :=
  g_op op_catF ha hb fun x y B H Q le r1 r2 k => by
    obtain ⟨t1, o1, v1, e1, e2, e3, e4⟩ := r1.tup_inv
    obtain ⟨t2, o2, v2, f1, f2, f3, f4⟩ := r2.tup_inv
    have l1 := e4.len
    have l2 := f4.len
    refine ⟨t1, t2, v1, v2, e1, f1, sqF (le _ _ e2), sqF (le _ _ f2), Nat.le_of_lt (small1000 (by omega)), fun z => ?_, fun _ z => ?_, fun _ _ p o n hd => ?_⟩
    · refine k _ B H (Grow.refl le) (.tup f2 f3 ?_)
      subst z
      have : ds1 = [] := List.eq_nil_of_length_eq_zero (by simpa using l1)
      rw [this]
      exact f4
    · refine k _ B H (Grow.refl le) (.tup e2 e3 ?_)
      subst z
      have : ds2 = [] := List.eq_nil_of_length_eq_zero (by simpa using l2)
      rw [this, List.append_nil]
      exact e4
    · exact k _ _ _ (Grow.new le n) (.tup upd_same hd ((e4.app f4).mono (same_new (le.free n))))
theorem g_catL (hz : ds1.length + ds2.length ≤ 1000) (ha : PE X a (tL Γ ds1)) (hb : PE X b (tL Γ ds2)) : PE X (.BinOp a .Add b pos) (tN Γ (ds1 ++ ds2)) :=
  g_opN op_cat ha hb fun x y B H Q le r1 r2 k => by
    obtain ⟨t1, v1, e1, e2, e4⟩ := r1
    obtain ⟨t2, v2, f1, f2, f4⟩ := r2
    have l1 := e4.len
    have l2 := f4.len
    exact ⟨t1, t2, v1, v2, e1, f1, e2, f2, Nat.le_of_lt (small1000 (by omega)), fun p n => k p _ n (e4.app f4)⟩
/-! ### attributes -/
theorem g_fld {C : Addr} {fs : List (Str × D)} {f : Str} (cl : Cls X.K C) (na : NoAttr X.K C f) (hl : fs.lookup f = some d) (he : PE X e (tG Γ (.ins C fs))) (hb : attributeBase e f X.env (eval e X.env) = eval e X.env := by rfl) : PE X (.Attribute e f pos) (tG Γ d) :=
  wkE (pe_fld he hb) fun σ H Q ⟨B0, H0, B, k, q⟩ => ⟨B0, H0, B, k, fun x B1 H1 g1 r1 => by
    obtain ⟨p, dx, fv, h1, h2, h3⟩ := r1.ins_inv
    obtain ⟨v, h4, h5⟩ := h3.get hl
    exact ⟨p, C, dx, fv, v, h1, g1.le _ _ h2, cl, na, h4, q v B1 H1 g1 h5⟩⟩
/-! ### built-ins -/
/-- no star at the argument -/
abbrev St1 (X : Cx) (a : Expr) : Prop := starEach [a] X.env = (false, eval a X.env) :: starEach [] X.env
abbrev St2 (X : Cx) (a b : Expr) : Prop := starEach [a, b] X.env = (false, eval a X.env) :: starEach [b] X.env
/-- one argument -/
theorem g_b1 {x : Str} {id : String} {r : List V → Hp → VK → Prop} {np : Pos} (hc : CallR X (.builtin id) r) (hg : Gl X x) (hm : X.mg x = none) (hv : bootBuiltins x = some (.builtin id)) (ha : PE X a (tP Γ p1))
    (h : ∀ u B H (Q : VK), Same B H → p1 u B H → (∀ v B' H', Grow B H B' H' → p v B' H' → Q v H') → r [u] H Q)
    (hn : x ≠ "__name__" := by decide) (hdb : (x == ("__debug__" : Str)) = false := by decide) (hs : St1 X a := by rfl) :
    PE X (.Call (.Name x np) [a] [] pos) (tP Γ p) :=
  wkE (pe_callB hc hg hm hv (pa_cons ha pa_nil hs) hn hdb hs) fun σ H Q ⟨B0, H0, B, k, q⟩ => ⟨B0, H0, B, k, fun u B1 H1 g1 r1 => h u B1 H1 Q g1.le r1 fun v B' H' g r => q v B' H' (g1.trans g) r⟩
theorem g_t1 {x : Str} {T : String} {r : List V → Hp → VK → Prop} {np : Pos} (hc : CallR X (.type T) r) (hg : Gl X x) (hm : X.mg x = none) (hv : bootBuiltins x = some (.type T)) (ha : PE X a (tP Γ p1))
    (h : ∀ u B H (Q : VK), Same B H → p1 u B H → (∀ v B' H', Grow B H B' H' → p v B' H' → Q v H') → r [u] H Q)
    (hn : x ≠ "__name__" := by decide) (hdb : (x == ("__debug__" : Str)) = false := by decide) (hs : St1 X a := by rfl) :
    PE X (.Call (.Name x np) [a] [] pos) (tP Γ p) :=
  wkE (pe_callTy hc hg hm hv (pa_cons ha pa_nil hs) hn hdb hs) fun σ H Q ⟨B0, H0, B, k, q⟩ => ⟨B0, H0, B, k, fun u B1 H1 g1 r1 => h u B1 H1 Q g1.le r1 fun v B' H' g r => q v B' H' (g1.trans g) r⟩
/-- one argument, a new list comes -/
theorem g_b1N {x : Str} {id : String} {r : List V → Hp → VK → Prop} {np : Pos} (hc : CallR X (.builtin id) r) (hg : Gl X x) (hm : X.mg x = none) (hv : bootBuiltins x = some (.builtin id)) (ha : PE X a (tP Γ p1))
    (h : ∀ u B H (Q : VK), Same B H → p1 u B H → (∀ l vs, H l = none → RelL B ds vs → Q (.ref l) (upd H l (.lst vs))) → r [u] H Q)
    (hn : x ≠ "__name__" := by decide) (hdb : (x == ("__debug__" : Str)) = false := by decide) (hs : St1 X a := by rfl) :
    PE X (.Call (.Name x np) [a] [] pos) (tN Γ ds) :=
  wkE (pe_callB hc hg hm hv (pa_cons ha pa_nil hs) hn hdb hs) fun σ H Q ⟨B0, H0, B, k, q⟩ => ⟨B0, H0, B, k, fun u B1 H1 g1 r1 => h u B1 H1 Q g1.le r1 fun l vs n r =>
    q l vs B1 _ (g1.kh.free n) (g1.le.free n) (g1.trans (Grow.hid g1.le n)) upd_same r⟩
theorem g_t1N {x : Str} {T : String} {r : List V → Hp → VK → Prop} {np : Pos} (hc : CallR X (.type T) r) (hg : Gl X x) (hm : X.mg x = none) (hv : bootBuiltins x = some (.type T)) (ha : PE X a (tP Γ p1))
    (h : ∀ u B H (Q : VK), Same B H → p1 u B H → (∀ l vs, H l = none → RelL B ds vs → Q (.ref l) (upd H l (.lst vs))) → r [u] H Q)
    (hn : x ≠ "__name__" := by decide) (hdb : (x == ("__debug__" : Str)) = false := by decide) (hs : St1 X a := by rfl) :
    PE X (.Call (.Name x np) [a] [] pos) (tN Γ ds) :=
  wkE (pe_callTy hc hg hm hv (pa_cons ha pa_nil hs) hn hdb hs) fun σ H Q ⟨B0, H0, B, k, q⟩ => ⟨B0, H0, B, k, fun u B1 H1 g1 r1 => h u B1 H1 Q g1.le r1 fun l vs n r =>
    q l vs B1 _ (g1.kh.free n) (g1.le.free n) (g1.trans (Grow.hid g1.le n)) upd_same r⟩
section
variable {np : Pos}
theorem g_lenL (hg : Gl X "len") (hm : X.mg "len" = none) (ha : PE X a (tL Γ ds)) (hs : St1 X a := by rfl) : PE X (.Call (.Name "len" np) [a] [] pos) (tG Γ (.int ds.length)) :=
  g_b1 (hs := hs) call_len_seq hg hm boot_len ha fun u B H Q le r1 k => by
    obtain ⟨l, vs, h1, h2, h3⟩ := r1
    subst h1
    refine ⟨l, vs, rfl, .inl (.of h2), k _ B H (Grow.refl le) ?_⟩
    rw [h3.len]
    exact .v _
theorem g_lenT (hg : Gl X "len") (hm : X.mg "len" = none) (ha : PE X a (tG Γ (.tup ds))) (hs : St1 X a := by rfl) : PE X (.Call (.Name "len" np) [a] [] pos) (tG Γ (.int ds.length)) :=
  g_b1 (hs := hs) call_len_seq hg hm boot_len ha fun u B H Q le r1 k => by
    obtain ⟨l, o, vs, h1, h2, _, h3⟩ := r1.tup_inv
    subst h1
    refine ⟨l, vs, rfl, .inr (sqF (le _ _ h2)), k _ B H (Grow.refl le) ?_⟩
    rw [h3.len]
    exact .v _
theorem g_lenS {z : Str} (hz : z.length ≤ sizeLine) (hg : Gl X "len") (hm : X.mg "len" = none) (ha : PE X a (tG Γ (.str z))) (hs : St1 X a := by rfl) : PE X (.Call (.Name "len" np) [a] [] pos) (tG Γ (.int z.length)) :=
  g_b1 (hs := hs) call_len_str hg hm boot_len ha fun u B H Q le r1 k => ⟨z, by rw [r1.v_inv], hz, k _ B H (Grow.refl le) (.v _)⟩
theorem g_minT {ns : List Int} (hc : X.calm = true) (hu : X.A.units + 1 < cLine) (hne : ns ≠ []) (hg : Gl X "min") (hm : X.mg "min" = none) (ha : PE X a (tG Γ (tI ns))) (hs : St1 X a := by rfl) : PE X (.Call (.Name "min" np) [a] [] pos) (tG Γ (.int (lmin ns))) :=
  g_b1 (hs := hs) (cr_minT hc hu) hg hm (by decide +kernel) ha fun u B H Q le r1 k => by
    obtain ⟨l, o, vs, h1, h2, _, h3⟩ := r1.tup_inv
    subst h1
    rw [h3.toI] at h2
    exact ⟨l, ns, rfl, sqF (le _ _ h2), hne, k _ B H (Grow.refl le) (.v _)⟩
theorem g_maxT {ns : List Int} (hc : X.calm = true) (hu : X.A.units + 1 < cLine) (hne : ns ≠ []) (hg : Gl X "max") (hm : X.mg "max" = none) (ha : PE X a (tG Γ (tI ns))) (hs : St1 X a := by rfl) : PE X (.Call (.Name "max" np) [a] [] pos) (tG Γ (.int (lmax ns))) :=
  g_b1 (hs := hs) (cr_maxT hc hu) hg hm (by decide +kernel) ha fun u B H Q le r1 k => by
    obtain ⟨l, o, vs, h1, h2, _, h3⟩ := r1.tup_inv
    subst h1
    rw [h3.toI] at h2
    exact ⟨l, ns, rfl, sqF (le _ _ h2), hne, k _ B H (Grow.refl le) (.v _)⟩
theorem len_pos {α : Type} {l : List α} (h : l ≠ []) : 0 < l.length := by
  cases l with
  | nil => exact absurd rfl h
  | cons _ _ => simp
theorem g_minL {ns : List Int} (he : ds = ns.map D.int) (hc : X.calm = true) (hne : ns ≠ []) (hg : Gl X "min") (hm : X.mg "min" = none) (ha : PE X a (tL Γ ds)) (hs : St1 X a := by rfl) : PE X (.Call (.Name "min" np) [a] [] pos) (tG Γ (.int (lmin ns))) :=
  g_b1 (hs := hs) (cr_min hc) hg hm (by decide +kernel) ha fun u B H Q le r1 k => by
    obtain ⟨l, vs, h1, h2, h3⟩ := r1
    subst h1
    rw [he] at h3
    rw [h3.toI] at h2
    exact ⟨l, ns, rfl, .of h2, len_pos hne, fun m hm hl => by
      rw [← lmin_eq hm hl]
      exact k _ B H (Grow.refl le) (.v _)⟩
theorem g_maxL {ns : List Int} (he : ds = ns.map D.int) (hc : X.calm = true) (hne : ns ≠ []) (hg : Gl X "max") (hm : X.mg "max" = none) (ha : PE X a (tL Γ ds)) (hs : St1 X a := by rfl) : PE X (.Call (.Name "max" np) [a] [] pos) (tG Γ (.int (lmax ns))) :=
  g_b1 (hs := hs) (cr_max hc) hg hm (by decide +kernel) ha fun u B H Q le r1 k => by
    obtain ⟨l, vs, h1, h2, h3⟩ := r1
    subst h1
    rw [he] at h3
    rw [h3.toI] at h2
    exact ⟨l, ns, rfl, .of h2, len_pos hne, fun m hm hl => by
      rw [← lmax_eq hm hl]
      exact k _ B H (Grow.refl le) (.v _)⟩
theorem g_allC {α : Type} {xs : List α} {f : α → Bool} (hc : X.calm = true) (hg : Gl X "all") (hm : X.mg "all" = none) (ha : PE X a (tL Γ (xs.map fun x => D.bl (f x)))) (hs : St1 X a := by rfl) : PE X (.Call (.Name "all" np) [a] [] pos) (tG Γ (.bl (xs.all f))) :=
  g_b1 (hs := hs) (cr_all hc) hg hm (by decide +kernel) ha fun u B H Q le r1 k => by
    obtain ⟨l, vs, h1, h2, h3⟩ := r1
    subst h1
    have e : (xs.map fun x => D.bl (f x)) = (xs.map f).map D.bl := by
      rw [List.map_map]
      rfl
    rw [e] at h3
    rw [h3.toB] at h2
    refine ⟨l, xs.map f, rfl, .of h2, ?_⟩
    rw [List.all_map]
    exact k _ B H (Grow.refl le) (.v _)
theorem g_all {bs : List Bool} (hc : X.calm = true) (hg : Gl X "all") (hm : X.mg "all" = none) (ha : PE X a (tL Γ (bs.map D.bl))) (hs : St1 X a := by rfl) : PE X (.Call (.Name "all" np) [a] [] pos) (tG Γ (.bl (bs.all id))) :=
  g_b1 (hs := hs) (cr_all hc) hg hm (by decide +kernel) ha fun u B H Q le r1 k => by
    obtain ⟨l, vs, h1, h2, h3⟩ := r1
    subst h1
    rw [h3.toB] at h2
    exact ⟨l, bs, rfl, .of h2, k _ B H (Grow.refl le) (.v _)⟩
theorem g_anyC {α : Type} {xs : List α} {f : α → Bool} (hc : X.calm = true) (hg : Gl X "any") (hm : X.mg "any" = none) (ha : PE X a (tL Γ (xs.map fun x => D.bl (f x)))) (hs : St1 X a := by rfl) : PE X (.Call (.Name "any" np) [a] [] pos) (tG Γ (.bl (xs.any f))) :=
  g_b1 (hs := hs) (cr_any hc) hg hm (by decide +kernel) ha fun u B H Q le r1 k => by
    obtain ⟨l, vs, h1, h2, h3⟩ := r1
    subst h1
    have e : (xs.map fun x => D.bl (f x)) = (xs.map f).map D.bl := by
      rw [List.map_map]
      rfl
    rw [e] at h3
    rw [h3.toB] at h2
    refine ⟨l, xs.map f, rfl, .of h2, ?_⟩
    rw [List.any_map]
    exact k _ B H (Grow.refl le) (.v _)
theorem g_any {bs : List Bool} (hc : X.calm = true) (hg : Gl X "any") (hm : X.mg "any" = none) (ha : PE X a (tL Γ (bs.map D.bl))) (hs : St1 X a := by rfl) : PE X (.Call (.Name "any" np) [a] [] pos) (tG Γ (.bl (bs.any id))) :=
  g_b1 (hs := hs) (cr_any hc) hg hm (by decide +kernel) ha fun u B H Q le r1 k => by
    obtain ⟨l, vs, h1, h2, h3⟩ := r1
    subst h1
    rw [h3.toB] at h2
    exact ⟨l, bs, rfl, .of h2, k _ B H (Grow.refl le) (.v _)⟩
theorem g_abs {i : Int} (hg : Gl X "abs") (hm : X.mg "abs" = none) (ha : PE X a (tG Γ (.int i))) (hs : St1 X a := by rfl) : PE X (.Call (.Name "abs" np) [a] [] pos) (tG Γ (.int (if i < 0 then -i else i))) :=
  g_b1 (hs := hs) call_abs hg hm (by decide +kernel) ha fun u B H Q le r1 k => ⟨i, by rw [r1.v_inv], k _ B H (Grow.refl le) (.v _)⟩
theorem g_int1 {i : Int} (hg : Gl X "int") (hm : X.mg "int" = none) (ha : PE X a (tG Γ (.int i))) (hs : St1 X a := by rfl) : PE X (.Call (.Name "int" np) [a] [] pos) (tG Γ (.int i)) :=
  g_t1 (hs := hs) call_int1 hg hm (by decide +kernel) ha fun u B H Q le r1 k => .inl ⟨i, by rw [r1.v_inv], k _ B H (Grow.refl le) (.v _)⟩
theorem g_tupL (hg : Gl X "tuple") (hm : X.mg "tuple" = none) (ha : PE X a (tL Γ ds)) (hs : St1 X a := by rfl) : PE X (.Call (.Name "tuple" np) [a] [] pos) (tG Γ (.tup ds)) :=
  g_t1 (hs := hs) cr_tupF hg hm (by decide +kernel) ha fun u B H Q le r1 k => by
    obtain ⟨l, vs, h1, h2, h3⟩ := r1
    subst h1
    exact ⟨l, vs, rfl, .of h2, fun t o n hd => k _ _ _ (Grow.new le n) (.tup upd_same hd (h3.mono (same_new (le.free n))))⟩
theorem g_listT (hg : Gl X "list") (hm : X.mg "list" = none) (ha : PE X a (tG Γ (.tup ds))) (hs : St1 X a := by rfl) : PE X (.Call (.Name "list" np) [a] [] pos) (tN Γ ds) :=
  g_t1N (hs := hs) call_list_of hg hm (by decide +kernel) ha fun u B H Q le r1 k => by
    obtain ⟨l, o, vs, h1, h2, _, h3⟩ := r1.tup_inv
    subst h1
    exact ⟨l, vs, rfl, .inr (sqF (le _ _ h2)), fun t n => k t vs n h3⟩
theorem g_listL (hg : Gl X "list") (hm : X.mg "list" = none) (ha : PE X a (tL Γ ds)) (hs : St1 X a := by rfl) : PE X (.Call (.Name "list" np) [a] [] pos) (tN Γ ds) :=
  g_t1N (hs := hs) call_list_of hg hm (by decide +kernel) ha fun u B H Q le r1 k => by
    obtain ⟨l, vs, h1, h2, h3⟩ := r1
    subst h1
    exact ⟨l, vs, rfl, .inl (.of h2), fun t n => k t vs n h3⟩
end
theorem g_max2 {i j : Int} {np : Pos} (hc : X.calm = true) (hg : Gl X "max") (hm : X.mg "max" = none) (ha : PE X a (tG Γ (.int i))) (hb : PE X b (tG Γ (.int j))) (s2 : St2 X a b := by rfl) (s1 : St1 X b := by rfl) (sp : (backTo pos (starEach [b] X.env)).any (·.1) = false := by rfl) : PE X (.Call (.Name "max" np) [a, b] [] pos) (tG Γ (.int (max i j))) :=
  wkE (pe_callB (call_max2 hc) hg hm (by decide +kernel) (pa_cons ha (pa_cons hb pa_nil s1) s2) (he := s2) (hpl := sp)) fun σ H Q ⟨B0, H0, B, k, q⟩ => ⟨B0, H0, B, k, fun u B1 H1 g1 r1 => ⟨B0, H0, B1, k.grow g1, fun w B2 H2 g2 r2 => by
    refine ⟨i, j, by rw [r1.v_inv, r2.v_inv], ?_⟩
    have em : (if j > i then j else i) = max i j := by
      by_cases hj : j > i
      · rw [if_pos hj]
        omega
      · rw [if_neg hj]
        omega
    rw [em]
    exact q _ B2 H2 (g1.trans g2) (.v _)⟩⟩
theorem g_min2 {i j : Int} {np : Pos} (hc : X.calm = true) (hg : Gl X "min") (hm : X.mg "min" = none) (ha : PE X a (tG Γ (.int i))) (hb : PE X b (tG Γ (.int j))) (s2 : St2 X a b := by rfl) (s1 : St1 X b := by rfl) (sp : (backTo pos (starEach [b] X.env)).any (·.1) = false := by rfl) : PE X (.Call (.Name "min" np) [a, b] [] pos) (tG Γ (.int (min i j))) :=
  wkE (pe_callB (call_min2 hc) hg hm (by decide +kernel) (pa_cons ha (pa_cons hb pa_nil s1) s2) (he := s2) (hpl := sp)) fun σ H Q ⟨B0, H0, B, k, q⟩ => ⟨B0, H0, B, k, fun u B1 H1 g1 r1 => ⟨B0, H0, B1, k.grow g1, fun w B2 H2 g2 r2 => by
    refine ⟨i, j, by rw [r1.v_inv, r2.v_inv], ?_⟩
    have em : (if j < i then j else i) = min i j := by
      by_cases hj : j < i
      · rw [if_pos hj]
        omega
      · rw [if_neg hj]
        omega
    rw [em]
    exact q _ B2 H2 (g1.trans g2) (.v _)⟩⟩
/-- isinstance(x, T) -/
def tyN : D → String
  | .v .non => "NoneType"
  | .v (.bl _) => "bool"
  | .v (.int _) => "int"
  | .v (.str _) => "str"
  | .tup _ => "tuple"
  | .lst _ => "list"
  | _ => "object"
theorem g_isi {tn tm : String} {r : Bool} {np : Pos} (hk : kitB tm tn = some r) (ht : tyN d = tm) (hn : tm ≠ "object") (hg : Gl X "isinstance") (hm : X.mg "isinstance" = none)
    (ha : PE X a (tG Γ d)) (hT : PE X b (tC (.ty tn))) (s2 : St2 X a b := by rfl) (s1 : St1 X b := by rfl) (sp : (backTo pos (starEach [b] X.env)).any (·.1) = false := by rfl) :
    PE X (.Call (.Name "isinstance" np) [a, b] [] pos) (tG Γ (.bl r)) :=
  wkE (pe_callB call_isi hg hm (by decide +kernel) (pa_cons ha (pa_cons hT pa_nil s1) s2) (he := s2) (hpl := sp)) fun σ H Q ⟨B0, H0, B, k, q⟩ => ⟨B0, H0, B, k, fun u B1 H1 g1 r1 => by
    subst ht
    refine ⟨u, .ty tn, .type (tyN d), .type tn, r, rfl, .ty tn, ?_, kit_ty hk, q _ B1 H1 g1 (.v _)⟩
    cases d with
    | v x =>
      rw [r1.v_inv]
      cases x with
      | non => exact .base .non
      | bl b => exact .base (.bl b)
      | int i => exact .base (.int i)
      | str s => exact .base (.str s)
      | _ => exact absurd rfl hn
    | tup ds =>
      obtain ⟨l, o, vs, h1, h2, _, _⟩ := r1.tup_inv
      subst h1
      exact .fTuple (g1.le _ _ h2)
    | lst ds =>
      obtain ⟨l, vs, h1, h2, _⟩ := r1.lst_inv
      subst h1
      exact .base (.lst (g1.le _ _ h2))
    | _ => exact absurd rfl hn⟩
theorem kk_ii : kitB "int" "int" = some true := by decide +kernel
theorem kk_ib : kitB "int" "bool" = some false := by decide +kernel
theorem kk_bb : kitB "bool" "bool" = some true := by decide +kernel
theorem kk_ss : kitB "str" "str" = some true := by decide +kernel
theorem kk_tt : kitB "tuple" "tuple" = some true := by decide +kernel
theorem kk_lt : kitB "list" "tuple" = some false := by decide +kernel
theorem kk_nt : kitB "NoneType" "tuple" = some false := by decide +kernel
/-- list(range(n)) -/
theorem g_listR {n : Int} {np nq p2 : Pos} (hc : X.calm = true) (hn : n ≤ 1000) (h0 : 0 ≤ n) (hg : Gl X "list") (hm : X.mg "list" = none) (hg2 : Gl X "range") (hm2 : X.mg "range" = none) (ha : PE X a (tG Γ (.int n)))
    (na : starEach [Expr.Call (.Name "range" nq) [a] [] p2] X.env = [(false, eval (.Call (.Name "range" nq) [a] [] p2) X.env)] := by rfl) (s1 : St1 X a := by rfl) :
    PE X (.Call (.Name "list" np) [.Call (.Name "range" nq) [a] [] p2] [] pos) (tN Γ ((List.range n.toNat).map fun i => D.int (i : Nat))) :=
  wkE (pe_listRg hc hg hm (prg_1 hg2 hm2 ha s1) na) fun σ H Q ⟨B0, H0, B, k, q⟩ => ⟨B0, H0, B, k, fun u B1 H1 g1 r1 => by
    refine ⟨n, r1.v_inv, .of_le (Int.le_refl 0) (by omega) (by omega) (by omega), fun l nl => ?_⟩
    refine q l _ B1 _ (g1.kh.free nl) (g1.le.free nl) (g1.trans (Grow.hid g1.le nl)) upd_same ?_
    have e : rgV 0 n = (List.range n.toNat).map fun i => V.int ((i : Nat) : Int) := by
      unfold rgV
      rw [Int.sub_zero]
      congr 1
      funext i
      rw [Int.zero_add]
    have e2 : ((List.range n.toNat).map fun i => D.int ((i : Nat) : Int)) = (rgV 0 n).map D.v := by
      rw [e, List.map_map]
      rfl
    rw [e2]
    exact .ofScal⟩
end
end Ga
/-! Truth, methods, calls, what is walked, comprehensions. -/
namespace Ga
open PySem PySem.Spec PyProof.Rows L2 Mi
section
variable {X : Cx} {Γ : Ctx} {a b c e : Expr} {es rest : List Expr} {pos : Pos} {d d1 d2 d3 : D} {ds ds1 ds2 : List D} {p p1 p2 : Pv} {x y : Bool}
/-! ### truth -/
theorem gt_val (h : PE X e (tG Γ (.bl x))) (he : ∀ whole, isTrue e X.env whole = (do let v ← whole; standAt e.pos; holding [v] (truthy v)) := by intro _; rfl) : PT X e (tB Γ x) :=
  wkT (pt_val h he) fun σ H Q ⟨B0, H0, B, k, q⟩ => ⟨B0, H0, B, k, fun v B' H' g r => ⟨x, r.v_inv, q B' H' g⟩⟩
theorem gt_chain {i j n : Int} (hm : lastMarks [CmpOp.LtE, CmpOp.LtE] [b, c] = false) (ha : PE X a (tG Γ (.int i))) (hb : PE X b (tG Γ (.int j))) (hc : PE X c (tG Γ (.int n))) : PT X (.Compare a [.LtE, .LtE] [b, c] pos) (tB Γ (decide (i ≤ j) && decide (j ≤ n))) :=
  wkT (pt_chain op_le op_le ha hb hc (hm := hm)) fun σ H Q ⟨B0, H0, B, k, q⟩ => ⟨B0, H0, B, k, fun x B1 H1 g1 r1 => ⟨B0, H0, B1, k.grow g1, fun y B2 H2 g2 r2 => by
    refine ⟨i, j, r1.v_inv, r2.v_inv, _, rfl, ?_⟩
    by_cases h : i ≤ j
    · rw [decide_eq_true h] at q ⊢
      refine iteT ⟨B0, H0, B2, (k.grow g1).grow g2, fun z B3 H3 g3 r3 => ⟨j, n, r2.v_inv, r3.v_inv, _, rfl, ?_⟩⟩
      exact q B3 H3 ((g1.trans g2).trans g3)
    · rw [decide_eq_false h] at q ⊢
      exact iteF ⟨_, rfl, q B2 H2 (g1.trans g2)⟩⟩⟩
theorem gt_tup (h : PE X e (tG Γ (.tup ds))) (he : ∀ whole, isTrue e X.env whole = (do let v ← whole; standAt e.pos; holding [v] (truthy v)) := by intro _; rfl) : PT X e (tB Γ (!ds.isEmpty)) :=
  wkT (pt_truth h he) fun σ H Q ⟨B0, H0, B, k, q⟩ => ⟨B0, H0, B, k, fun v B' H' g r => by
    obtain ⟨t, o, vs, h1, h2, _, h3⟩ := r.tup_inv
    subst h1
    refine ⟨!ds.isEmpty, .inr (.inl ⟨vs, sqF (g.le _ _ h2), ?_⟩), q B' H' g⟩
    cases h3 <;> rfl⟩
theorem gt_not (h : PT X a (tB Γ x)) : PT X (.UnaryOp .Not a pos) (tB Γ (!x)) :=
  wkT (pt_not h) fun σ H Q ⟨B0, H0, B, k, q⟩ => ⟨B0, H0, B, k, fun B' H' g => q B' H' g⟩
theorem gw_and1 (h : PT X a (tB Γ x)) : PW X (.BoolOp .And [a] pos) (tB Γ x) := pw_and1 h
theorem gw_or1 (h : PT X a (tB Γ x)) : PW X (.BoolOp .Or [a] pos) (tB Γ x) := pw_or1 h
theorem gw_and (h : PT X a (tB Γ x)) (r : x = true → PW X (.BoolOp .And (b :: rest) pos) (tB Γ y)) : PW X (.BoolOp .And (a :: b :: rest) pos) (tB Γ (x && y)) := by
  cases x with
  | true => exact wkW (pw_and h (r rfl)) fun σ H Q ⟨B0, H0, B, k, q⟩ => ⟨B0, H0, B, k, fun B' H' g => iteT ⟨B0, H0, B', k.grow g, fun B2 H2 g2 => q B2 H2 (g.trans g2)⟩⟩
  | false => exact wkW (pw_and h noW) fun σ H Q ⟨B0, H0, B, k, q⟩ => ⟨B0, H0, B, k, fun B' H' g => iteF (q B' H' g)⟩
theorem gw_or (h : PT X a (tB Γ x)) (r : x = false → PW X (.BoolOp .Or (b :: rest) pos) (tB Γ y)) : PW X (.BoolOp .Or (a :: b :: rest) pos) (tB Γ (x || y)) := by
  cases x with
  | true => exact wkW (pw_or h noW) fun σ H Q ⟨B0, H0, B, k, q⟩ => ⟨B0, H0, B, k, fun B' H' g => iteT (q B' H' g)⟩
  | false => exact wkW (pw_or h (r rfl)) fun σ H Q ⟨B0, H0, B, k, q⟩ => ⟨B0, H0, B, k, fun B' H' g => iteF ⟨B0, H0, B', k.grow g, fun B2 H2 g2 => q B2 H2 (g.trans g2)⟩⟩
theorem gt_w (h : PW X e (tB Γ x)) : PT X e (tB Γ x) := h.pt
theorem tB_eq (h : PT X e (tB Γ x)) (q : x = y) : PT X e (tB Γ y) := q ▸ h
/-! ### and, or, not as values -/
theorem g_one {op} (h : PE X a (tG Γ d)) : PE X (.BoolOp op [a] pos) (tG Γ d) := pe_one h
theorem g_and (h : PE X a (tG Γ (.bl x))) (r : x = true → PE X (.BoolOp .And (b :: rest) pos) (tG Γ (.bl y))) : PE X (.BoolOp .And (a :: b :: rest) pos) (tG Γ (.bl (x && y))) := by
  cases x with
  | true => exact wkE (pe_and h (r rfl)) fun σ H Q ⟨B0, H0, B, k, q⟩ => ⟨B0, H0, B, k, fun v B' H' g r => ⟨true, r.v_inv, iteT ⟨B0, H0, B', k.grow g, fun v B2 H2 g2 => q v B2 H2 (g.trans g2)⟩⟩⟩
  | false => exact wkE (pe_and h noE) fun σ H Q ⟨B0, H0, B, k, q⟩ => ⟨B0, H0, B, k, fun v B' H' g r => ⟨false, r.v_inv, iteF (q _ B' H' g (.v _))⟩⟩
theorem g_or (h : PE X a (tG Γ (.bl x))) (r : x = false → PE X (.BoolOp .Or (b :: rest) pos) (tG Γ (.bl y))) : PE X (.BoolOp .Or (a :: b :: rest) pos) (tG Γ (.bl (x || y))) := by
  cases x with
  | true => exact wkE (pe_or h noE) fun σ H Q ⟨B0, H0, B, k, q⟩ => ⟨B0, H0, B, k, fun v B' H' g r => ⟨true, r.v_inv, iteT (q _ B' H' g (.v _))⟩⟩
  | false => exact wkE (pe_or h (r rfl)) fun σ H Q ⟨B0, H0, B, k, q⟩ => ⟨B0, H0, B, k, fun v B' H' g r => ⟨false, r.v_inv, iteF ⟨B0, H0, B', k.grow g, fun v B2 H2 g2 => q v B2 H2 (g.trans g2)⟩⟩⟩
theorem g_not (h : PE X a (tG Γ (.bl x))) : PE X (.UnaryOp .Not a pos) (tG Γ (.bl (!x))) :=
  wkE (pe_not h) fun σ H Q ⟨B0, H0, B, k, q⟩ => ⟨B0, H0, B, k, fun v B' H' g r => ⟨x, r.v_inv, q _ B' H' g (.v _)⟩⟩
theorem g_if (h : PT X c (tB Γ x)) (ha : x = true → PE X a (tG Γ d)) (hb : x = false → PE X b (tG Γ d)) : PE X (.IfExp c a b pos) (tG Γ d) := by
  cases x with
  | true => exact wkE (pe_ifExp h (ha rfl) noE) fun σ H Q ⟨B0, H0, B, k, q⟩ => ⟨B0, H0, B, k, fun B' H' g => iteT ⟨B0, H0, B', k.grow g, fun v B2 H2 g2 => q v B2 H2 (g.trans g2)⟩⟩
  | false => exact wkE (pe_ifExp h noE (hb rfl)) fun σ H Q ⟨B0, H0, B, k, q⟩ => ⟨B0, H0, B, k, fun B' H' g => iteF ⟨B0, H0, B', k.grow g, fun v B2 H2 g2 => q v B2 H2 (g.trans g2)⟩⟩
/-! ### methods of tuples and lists -/
theorem idx_at {α β : Type} [DecidableEq α] {ls : List α} {x : α} (h : x ∈ ls) (f : α → β) : (ls.map f)[ls.idxOf x]? = some (f x) := by
  have hl : ls.idxOf x < ls.length := List.idxOf_lt_length_of_mem h
  rw [List.getElem?_map, List.getElem?_eq_getElem hl, List.getElem_idxOf hl]
  rfl
theorem idx_before {α : Type} [DecidableEq α] {ls : List α} {x z : α} {m : Nat} (hm : m < ls.idxOf x) (h : ls[m]? = some z) : z ≠ x := by
  intro e
  subst e
  obtain ⟨h1, h2⟩ := List.getElem?_eq_some_iff.mp h
  have := List.not_of_lt_findIdx (p := (· == z)) (xs := ls) (i := m) hm
  simp [h2] at this
theorem str_before {ls : List Str} {x : Str} : ∀ (m : Nat) (z' : V), m < ls.idxOf x → (ls.map V.str)[m]? = some z' → eqV z' (.str x) = false := by
  intro m z' hm hz
  rw [List.getElem?_map] at hz
  cases hq : ls[m]? with
  | none =>
    rw [hq] at hz
    cases hz
  | some w =>
    rw [hq] at hz
    have := Option.some.inj hz
    subst this
    show (w == x) = false
    exact beq_eq_false_iff_ne.mpr (idx_before hm hq)
theorem int_before {ls : List Int} {x : Int} : ∀ (m : Nat) (z' : V), m < ls.idxOf x → (ls.map V.int)[m]? = some z' → eqV z' (.int x) = false := by
  intro m z' hm hz
  rw [List.getElem?_map] at hz
  cases hq : ls[m]? with
  | none =>
    rw [hq] at hz
    cases hz
  | some w =>
    rw [hq] at hz
    have := Option.some.inj hz
    subst this
    show (w == x) = false
    exact beq_eq_false_iff_ne.mpr (idx_before hm hq)
theorem g_tixS {ls : List Str} {x : Str} (h : PE X e (tTM (rTIx X.K) (tG Γ (tS ls)) (tA Γ [.str x]))) (hx : x ∈ ls) : PE X e (tG Γ (.int (ls.idxOf x : Nat))) :=
  wkE h fun σ H Q ⟨B0, H0, B, k, q⟩ => ⟨B0, H0, B, k, fun u B1 H1 g1 r1 => by
    obtain ⟨t, o, vs, h1, h2, h3, h4⟩ := r1.tup_inv
    rw [h4.toS] at h2
    refine ⟨⟨t, o, _, h1, g1.le _ _ h2, h3⟩, B0, H0, B1, k.grow g1, fun us B2 H2 g2 r2 => ?_⟩
    cases r2 with
    | cons r r' =>
      cases r'
      rw [r.v_inv, h1]
      exact ⟨t, _, .str x, ls.idxOf x, .str x, rfl, rfl, sqF (g2.kh _ _ (g1.le _ _ h2)), rfl, flat_strsV ls, idx_at hx V.str, beq_self_eq_true x, str_before, q _ B2 H2 (g1.trans g2) (.v _)⟩⟩
theorem g_tixI {ls : List Int} {x : Int} (h : PE X e (tTM (rTIx X.K) (tG Γ (tI ls)) (tA Γ [.int x]))) (hx : x ∈ ls) : PE X e (tG Γ (.int (ls.idxOf x : Nat))) :=
  wkE h fun σ H Q ⟨B0, H0, B, k, q⟩ => ⟨B0, H0, B, k, fun u B1 H1 g1 r1 => by
    obtain ⟨t, o, vs, h1, h2, h3, h4⟩ := r1.tup_inv
    rw [h4.toI] at h2
    refine ⟨⟨t, o, _, h1, g1.le _ _ h2, h3⟩, B0, H0, B1, k.grow g1, fun us B2 H2 g2 r2 => ?_⟩
    cases r2 with
    | cons r r' =>
      cases r'
      rw [r.v_inv, h1]
      exact ⟨t, _, .int x, ls.idxOf x, .int x, rfl, rfl, sqF (g2.kh _ _ (g1.le _ _ h2)), rfl, flat_intsV ls, idx_at hx V.int, beq_self_eq_true x, int_before, q _ B2 H2 (g1.trans g2) (.v _)⟩⟩
theorem g_tct {ls : List Str} {x : Str} (h : PE X e (tTM (rTCt X.K) (tG Γ (tS ls)) (tA Γ [.str x]))) : PE X e (tG Γ (.int (ls.count x : Nat))) :=
  wkE h fun σ H Q ⟨B0, H0, B, k, q⟩ => ⟨B0, H0, B, k, fun u B1 H1 g1 r1 => by
    obtain ⟨t, o, vs, h1, h2, h3, h4⟩ := r1.tup_inv
    rw [h4.toS] at h2
    refine ⟨⟨t, o, _, h1, g1.le _ _ h2, h3⟩, B0, H0, B1, k.grow g1, fun us B2 H2 g2 r2 => ?_⟩
    cases r2 with
    | cons r r' =>
      cases r'
      rw [r.v_inv, h1]
      refine ⟨t, _, .str x, rfl, rfl, sqF (g2.kh _ _ (g1.le _ _ h2)), rfl, flat_strsV ls, ?_⟩
      rw [List.countP_map]
      exact q _ B2 H2 (g1.trans g2) (.v _)⟩
theorem g_lixS {ls : List Str} {x : Str} (h : PE X e (tBM X.K "list" (rIndex X.K) (tL Γ (ls.map D.str)) (tA Γ [.str x]))) (hx : x ∈ ls) : PE X e (tG Γ (.int (ls.idxOf x : Nat))) :=
  wkE h fun σ H Q ⟨B0, H0, B, k, q⟩ => ⟨B0, H0, B, k, fun u B1 H1 g1 r1 => by
    obtain ⟨t, vs, h1, h2, h4⟩ := r1
    rw [h4.toS] at h2
    subst h1
    refine ⟨.inl ⟨rfl, _, .of h2⟩, B0, H0, B1, k.grow g1, fun us B2 H2 g2 r2 => ?_⟩
    cases r2 with
    | cons r r' =>
      cases r'
      rw [r.v_inv]
      exact ⟨t, _, .str x, ls.idxOf x, .str x, rfl, rfl, .of (g2.kh _ _ h2), rfl, flat_strsV ls, idx_at hx V.str, beq_self_eq_true x, str_before, q _ B2 H2 (g1.trans g2) (.v _)⟩⟩
/-! ### sorted -/
def leS (x y : Str) : Prop := x.cps.toList ≤ y.cps.toList
theorem rising_pw : ∀ {ls : List Str} {x : Str}, risingS x ls = true → (x :: ls).Pairwise leS
  | [], x, _ => by simp
  | y :: ls, x, h => by
    simp only [risingS, Bool.and_eq_true, Bool.not_eq_true'] at h
    have ih := rising_pw h.2
    have hxy : leS x y := by
      have h1 := h.1
      rw [ltCps_eq] at h1
      exact List.not_lt.mp (of_decide_eq_false h1)
    refine List.pairwise_cons.mpr ⟨fun z hz => ?_, ih⟩
    rcases List.mem_cons.mp hz with rfl | hz
    · exact hxy
    · exact List.le_trans hxy ((List.pairwise_cons.mp ih).1 z hz)
theorem sortedS_pw {ls : List Str} (h : sortedS ls = true) : ls.Pairwise leS := by
  cases ls with
  | nil => exact .nil
  | cons x r => exact rising_pw h
theorem sorted_one {xs ys : List Str} (hp : xs.Perm ys) (h1 : sortedS xs = true) (h2 : sortedS ys = true) : xs = ys := by
  refine List.Perm.eq_of_pairwise (le := leS) ?_ (sortedS_pw h1) (sortedS_pw h2) hp
  intro a b _ _ hab hba
  have e : a.cps.toList = b.cps.toList := List.le_antisymm hab hba
  obtain ⟨ac⟩ := a
  obtain ⟨bc⟩ := b
  have : ac = bc := Array.toList_inj.mp e
  rw [this]
open Classical in
noncomputable def srt (xs : List Str) : List Str := if h : ∃ ys : List Str, ys.Perm xs ∧ sortedS ys = true then Classical.choose h else xs
theorem srt_eq {xs ys : List Str} (hp : ys.Perm xs) (hs : sortedS ys = true) : srt xs = ys := by
  have h : ∃ ys : List Str, ys.Perm xs ∧ sortedS ys = true := ⟨ys, hp, hs⟩
  unfold srt
  rw [dif_pos h]
  have c := Classical.choose_spec h
  exact sorted_one (c.1.trans hp.symm) c.2 hs
theorem srt_perm {xs ys : List Str} (hp : xs.Perm ys) : srt xs = srt ys ∨ srt xs = xs := by
  by_cases h : ∃ zs : List Str, zs.Perm xs ∧ sortedS zs = true
  · obtain ⟨zs, h1, h2⟩ := h
    exact .inl ((srt_eq h1 h2).trans (srt_eq (h1.trans hp) h2).symm)
  · exact .inr (by unfold srt; rw [dif_neg h])
theorem g_sortT {ls : List Str} {np : Pos} (hz : ls.length < 64) (hg : Gl X "sorted") (hm : X.mg "sorted" = none) (ha : PE X a (tG Γ (tS ls))) (hs : St1 X a := by rfl) :
    PE X (.Call (.Name "sorted" np) [a] [] pos) (tN Γ ((srt ls).map D.str)) :=
  g_b1N (hs := hs) cr_sortTS hg hm (by decide +kernel) ha fun u B H Q le r1 k => by
    obtain ⟨l, o, vs, h1, h2, _, h3⟩ := r1.tup_inv
    subst h1
    rw [h3.toS] at h2
    exact ⟨l, ls, rfl, sqF (le _ _ h2), hz, fun ys t hp hso n => by
      rw [srt_eq hp hso] at k
      exact k t _ n .ofStrs⟩
/-! ### own defs -/
def spF (R : List D → D → Prop) : Sp := fun vs H Q _ => ∃ B ds d, Same B H ∧ RelL B ds vs ∧ R ds d ∧ ∀ v B' H', Grow B H B' H' → Rel B' d v → Q v H'
theorem g_call {R : List D → D → Prop} {E : XK} (h : PE X e (tCall (spF R) [] E (tA Γ ds))) (hR : R ds d) : PE X e (tG Γ d) :=
  wkE h fun σ H Q ⟨B0, H0, B, k, q⟩ => ⟨B0, H0, B, k, fun vs B1 H1 g1 r1 => ⟨B1, ds, d, g1.le, by rw [List.append_nil]; exact r1, hR, fun v B' H' g r => q v B' H' (g1.trans g) r⟩⟩
theorem RelF.none {H : Hp} {fs : List (Str × D)} {fv : List (Str × V)} (r : RelF H fs fv) {n : Str} (h : fs.lookup n = none) : fv.lookup n = none := by
  induction fs generalizing fv with
  | nil =>
    cases r
    rfl
  | cons e fs ih =>
    cases r with
    | cons h1 t =>
      rename_i m d' v' vs'
      cases hm : n == m with
      | true =>
        simp only [List.lookup, hm] at h
        cases h
      | false =>
        simp only [List.lookup, hm] at h ⊢
        exact ih t h
theorem g_meth {C : Addr} {m : Str} {fs : List (Str × D)} {R : List D → D → Prop} {E : XK} (h : PE X e (tMeth C m (spF R) [] E (tG Γ (.ins C fs)) (tA Γ ds))) (hl : fs.lookup m = none) (hR : R (.ins C fs :: ds) d) : PE X e (tG Γ d) :=
  wkE h fun σ H Q ⟨B0, H0, B, k, q⟩ => ⟨B0, H0, B, k, fun u B1 H1 g1 r1 => by
    obtain ⟨t, dx, fv, h1, h2, h3⟩ := r1.ins_inv
    refine ⟨t, dx, fv, h1, g1.le _ _ h2, h3.none hl, B0, H0, B1, k.grow g1, fun vs B2 H2 g2 r2 => ?_⟩
    refine ⟨B2, _, d, g2.le, .cons (r1.mono g2.kb) (by rw [List.append_nil]; exact r2), hR, fun v B' H' g r => q v B' H' ((g1.trans g2).trans g) r⟩⟩
theorem g_meth0 {C : Addr} {m : Str} {fs : List (Str × D)} {R : List D → D → Prop} {E : XK} (h : PE X e (tMeth C m (spF R) [] E (tG Γ (.ins C fs)) tNil)) (hl : fs.lookup m = none) (hR : R [.ins C fs] d) : PE X e (tG Γ d) :=
  wkE h fun σ H Q ⟨B0, H0, B, k, q⟩ => ⟨B0, H0, B, k, fun u B1 H1 g1 r1 => by
    obtain ⟨t, dx, fv, h1, h2, h3⟩ := r1.ins_inv
    refine ⟨t, dx, fv, h1, g1.le _ _ h2, h3.none hl, ?_⟩
    exact ⟨B1, _, d, g1.le, .cons r1 .nil, hR, fun v B' H' g r => q v B' H' (g1.trans g) r⟩⟩
/-- __init__ of the class at C -/
def spI (C : Addr) (R : List D → List (Str × D) → Prop) : Sp := fun vs H Q _ => ∃ B x dx ds fs vs', vs = .ref x :: vs' ∧ H x = some (.ins C dx []) ∧ H dx = some (.own x) ∧ B x = none ∧ B dx = none ∧ Same B H ∧ RelL B ds vs' ∧ R ds fs ∧
  ∀ B' H' fv, Same B B' → (∀ b o, b ≠ x → H b = some o → H' b = some o) → Same B' H' → (∀ l o, H l = some o → B l = none → B' l = none) → H' x = some (.ins C dx fv) → RelF B' fs fv → Q .non H'
theorem g_make {C : Addr} {R : List D → List (Str × D) → Prop} {E : XK} {fs : List (Str × D)} (h : PE X e (tMake C (spI C R) [] E (tA Γ ds))) (hR : R ds fs) : PE X e (tG Γ (.ins C fs)) :=
  wkE h fun σ H Q ⟨B0, H0, B, k, q⟩ => ⟨B0, H0, B, k, fun vs B1 H1 g1 r1 x dx nx ndx ne => by
    have hx2 : (upd (upd H1 dx (.own x)) x (.ins C dx [])) dx = some (.own x) := by
      rw [upd_ne ne, upd_same]
    have s1 : Same B1 (upd (upd H1 dx (.own x)) x (.ins C dx [])) := fun b o hb => by
      have a1 : b ≠ x := ne_of_none (g1.le b o hb) nx
      have a2 : b ≠ dx := ne_of_none (g1.le b o hb) ndx
      rw [upd_ne a1, upd_ne a2]
      exact g1.le b o hb
    refine ⟨B1, x, dx, ds, fs, vs, by rw [List.append_nil], upd_same, hx2, g1.le.free nx, g1.le.free ndx, s1, r1, hR, fun B' H' fv sb kh le fr hx rf => ⟨rfl, ?_⟩⟩
    have nbx : B' x = none := fr x _ upd_same (g1.le.free nx)
    have gg : Grow B1 H1 (upd B' x (.ins C dx fv)) H' := ⟨sb.trans (same_new nbx), fun b o hb => by
        have a1 : b ≠ x := ne_of_none hb nx
        have a2 : b ≠ dx := ne_of_none hb ndx
        exact kh b o a1 (by rw [upd_ne a1, upd_ne a2]; exact hb), fun b o hb => by
        by_cases a1 : b = x
        · subst a1
          rw [upd_same] at hb
          cases hb
          exact hx
        · rw [upd_ne a1] at hb
          exact le b o hb, fun l o hl hn => by
        have a1 : l ≠ x := ne_of_none hl nx
        have a2 : l ≠ dx := ne_of_none hl ndx
        rw [upd_ne a1]
        exact fr l o (by rw [upd_ne a1, upd_ne a2]; exact hl) hn⟩
    exact q _ _ _ (g1.trans gg) (.ins upd_same (rf.mono (same_new nbx)))⟩
end
end Ga
/-! What is walked; comprehensions. -/
namespace Ga
open PySem PySem.Spec PyProof.Rows L2 Mi
/-! ### two sorted texts -/
theorem sortedS_of : ∀ {ls : List Str}, ls.Pairwise leS → sortedS ls = true
  | [], _ => rfl
  | x :: ls, h => by
    show risingS x ls = true
    revert x
    induction ls with
    | nil =>
      intro x _
      rfl
    | cons y ls ih =>
      intro x h
      have h2 := List.pairwise_cons.mp h
      simp only [risingS, Bool.and_eq_true, Bool.not_eq_true']
      refine ⟨?_, ih y h2.2⟩
      rw [ltCps_eq]
      exact decide_eq_false (List.not_lt.mpr (h2.1 y (by simp)))
theorem sorted_ex (xs : List Str) : ∃ ys : List Str, ys.Perm xs ∧ sortedS ys = true := by
  refine ⟨xs.mergeSort (fun x y => decide (x.cps.toList ≤ y.cps.toList)), List.mergeSort_perm _ _, sortedS_of ?_⟩
  have h := List.pairwise_mergeSort (le := fun x y : Str => decide (x.cps.toList ≤ y.cps.toList)) (fun a b c h1 h2 => by
    simp only [decide_eq_true_eq] at h1 h2 ⊢
    exact List.le_trans h1 h2) (fun a b => by
    simp only [Bool.or_eq_true, decide_eq_true_eq]
    exact List.le_total _ _) xs
  exact h.imp fun q => of_decide_eq_true q
theorem srt_congr {xs ys : List Str} (hp : xs.Perm ys) : srt xs = srt ys := by
  obtain ⟨zs, h1, h2⟩ := sorted_ex xs
  exact (srt_eq h1 h2).trans (srt_eq (h1.trans hp) h2).symm
theorem srt_perm' (xs : List Str) : (srt xs).Perm xs := by
  obtain ⟨zs, h1, h2⟩ := sorted_ex xs
  rw [srt_eq h1 h2]
  exact h1
/-! ### walks -/
structure Walks (J : It) (B : Hp) (its : List D) : Prop where
  go : ∀ i H, Same B H → i < its.length → J.go i H
  stop : ∀ H, Same B H → J.stop its.length H
  yld : ∀ i H x H' B1, Same B B1 → Same B1 H → i < its.length → J.yld i H x H' → ∃ d B2, its[i]? = some d ∧ Grow B1 H B2 H' ∧ Rel B2 d x
def iG (Γ : Ctx) (its : List D) : TI := fun σ H R => ∃ B0 H0 B, Kn B0 H0 Γ σ B H ∧ ∀ J B' H', Grow B H B' H' → Walks J B' its → R J H'
section
variable {X : Cx} {Γ : Ctx} {a b c e tg iter : Expr} {pos np : Pos} {d d1 d2 : D} {ds ds1 ds2 : List D}
theorem wkI {w w' : TI} (h : PI X tg iter w) (k : ∀ σ H R, w' σ H R → w σ H R) : PI X tg iter w' := ⟨fun pins s σ H R I q => h.run pins s σ H R I (k σ H R q)⟩
theorem gi_lst (h : PE X e (tG Γ (.lst ds))) : PI X tg e (iG Γ ds) :=
  wkI (pi_list h) fun σ H R ⟨B0, H0, B, k, q⟩ => ⟨B0, H0, B, k, fun v B' H' g r => by
    obtain ⟨l, vs, h1, h2, h3⟩ := r.lst_inv
    have hl := h3.len
    refine ⟨l, h1, ⟨vs, .of (g.le _ _ h2)⟩, q _ B' H' g ⟨fun i H s hi => ?_, fun H s => ⟨vs, .of (s _ _ h2), by omega⟩, fun i H x H' B1 s1 s2 hi y => ?_⟩⟩
    · exact ⟨vs, vs[i]'(by omega), .of (s _ _ h2), List.getElem?_eq_getElem (by omega)⟩
    · obtain ⟨rfl, y⟩ := y
      have hv := y vs (.of (s2 _ _ (s1 _ _ h2)))
      obtain ⟨w, h4, h5⟩ := h3.get (List.getElem?_eq_getElem hi)
      rw [hv] at h4
      cases h4
      exact ⟨_, B1, List.getElem?_eq_getElem hi, Grow.refl s2, h5.mono s1⟩⟩
theorem gi_tup (h : PE X e (tG Γ (.tup ds))) : PI X tg e (iG Γ ds) :=
  wkI (pi_tup h) fun σ H R ⟨B0, H0, B, k, q⟩ => ⟨B0, H0, B, k, fun v B' H' g r => by
    obtain ⟨l, o, vs, h1, h2, _, h3⟩ := r.tup_inv
    have hl := h3.len
    refine ⟨l, h1, ⟨vs, sqF (g.le _ _ h2)⟩, q _ B' H' g ⟨fun i H s hi => ?_, fun H s => ⟨vs, sqF (s _ _ h2), by omega⟩, fun i H x H' B1 s1 s2 hi y => ?_⟩⟩
    · exact ⟨vs, vs[i]'(by omega), sqF (s _ _ h2), List.getElem?_eq_getElem (by omega)⟩
    · obtain ⟨rfl, y⟩ := y
      have hv := y vs (sqF (s2 _ _ (s1 _ _ h2)))
      obtain ⟨w, h4, h5⟩ := h3.get (List.getElem?_eq_getElem hi)
      rw [hv] at h4
      cases h4
      exact ⟨_, B1, List.getElem?_eq_getElem hi, Grow.refl s2, h5.mono s1⟩⟩
theorem gi_str {z : Str} (h : PE X e (tG Γ (.str z))) : PI X tg e (iG Γ (z.cps.toList.map fun c => D.str ⟨#[c]⟩)) :=
  wkI (pi_str h) fun σ H R ⟨B0, H0, B, k, q⟩ => ⟨B0, H0, B, k, fun v B' H' g r => by
    refine ⟨z, r.v_inv, q _ B' H' g ⟨fun i H s hi => ?_, fun H s => ?_, fun i H x H' B1 s1 s2 hi y => ?_⟩⟩
    · simpa [Its] using hi
    · simp [Its]
    · obtain ⟨rfl, c, hc, rfl⟩ := y
      exact ⟨D.str ⟨#[c]⟩, B1, by simp [hc], Grow.refl s2, .v _⟩⟩
/-- range(n) -/
theorem gi_rng1 {n : Int} (hb : 0 ≤ n ∧ n ≤ 100000) (hg : Gl X "range") (hm : X.mg "range" = none) (h : PE X a (tG Γ (.int n))) (hs : St1 X a := by rfl) :
    PI X tg (.Call (.Name "range" np) [a] [] pos) (iG Γ ((List.range n.toNat).map fun i => D.int (i : Nat))) :=
  wkI (pi_range1 hg hm (pa_cons h pa_nil hs) hs) fun σ H R ⟨B0, H0, B, k, q⟩ => ⟨B0, H0, B, k, fun v B' H' g r => by
    refine ⟨n, by rw [r.v_inv], by omega, by omega, q _ B' H' g ⟨fun i H s hi => ?_, fun H s => ?_, fun i H x H' B1 s1 s2 hi y => ?_⟩⟩
    · simpa [Itr] using hi
    · show _ ≤ List.length _
      simp
    · obtain ⟨rfl, rfl⟩ := y
      have hi' : i < n.toNat := by simpa using hi
      exact ⟨D.int (i : Nat), B1, by simp [hi'], Grow.refl s2, by rw [Int.zero_add]; exact .v _⟩⟩
/-- range(m, n) -/
theorem gi_rng2 {m n : Int} (hb : -100000 ≤ m ∧ m ≤ 100000 ∧ -100000 ≤ n ∧ n ≤ 100000) (hg : Gl X "range") (hm : X.mg "range" = none) (h : PE X a (tG Γ (.int m))) (h2 : PE X b (tG Γ (.int n)))
    (hs : St2 X a b := by rfl) (hs2 : St1 X b := by rfl) : PI X tg (.Call (.Name "range" np) [a, b] [] pos) (iG Γ ((List.range (n - m).toNat).map fun i => D.int (m + (i : Nat)))) :=
  wkI (pi_range2 hg hm (pa_cons h (pa_cons h2 pa_nil hs2) hs) (hs := by rw [hs, hs2]; rfl) (hs2 := hs2)) fun σ H R ⟨B0, H0, B, k, q⟩ => ⟨B0, H0, B, k, fun v B1 H1 g1 r1 => ⟨B0, H0, B1, k.grow g1, fun u B' H' g r => by
    refine ⟨m, n, by rw [r1.v_inv, r.v_inv], by omega, q _ B' H' (g1.trans g) ⟨fun i H s hi => ?_, fun H s => ?_, fun i H x H' B1 s1 s2 hi y => ?_⟩⟩
    · simpa [Itr] using hi
    · show _ ≤ List.length _
      simp
    · obtain ⟨rfl, rfl⟩ := y
      have hi' : i < (n - m).toNat := by simpa using hi
      exact ⟨D.int (m + (i : Nat)), B1, by simp [hi'], Grow.refl s2, .v _⟩⟩⟩
/-- range(m, n, -1) -/
theorem gi_rng3 {m n : Int} (hb : -100000 ≤ m ∧ m ≤ 100000 ∧ -100000 ≤ n ∧ n ≤ 100000) (h : PI X tg iter (iRng3 (tA Γ [.int m, .int n, .int (-1)]))) : PI X tg iter (iG Γ ((List.range (m - n).toNat).map fun i => D.int (m - (i : Nat)))) :=
  wkI h fun σ H R ⟨B0, H0, B, k, q⟩ => ⟨B0, H0, B, k, fun vs B' H' g r => by
    have e : vs = [.int m, .int n, .int (-1)] := by
      have r' : RelL B' ([V.int m, V.int n, V.int (-1)].map D.v) vs := r
      exact r'.scal
    subst e
    refine ⟨m, n, -1, (m - n).toNat, rfl, RgC.neg (by omega) (by omega) (by omega) (by omega), q _ B' H' g ⟨fun i H s hi => ?_, fun H s => ?_, fun i H x H' B1 s1 s2 hi y => ?_⟩⟩
    · simpa [Itc] using hi
    · show _ ≤ List.length _
      simp
    · obtain ⟨rfl, rfl⟩ := y
      have hi' : i < (m - n).toNat := by simpa using hi
      have e : m + (i : Int) * -1 = m - (i : Int) := by omega
      exact ⟨D.int (m - (i : Nat)), B1, by simp [hi'], Grow.refl s2, by rw [e]; exact .v _⟩⟩
/-- zip of two known lists -/
theorem zip_get {i : Nat} {d1 d2 : D} {f : D × D → D} (h1 : ds1[i]? = some d1) (h2 : ds2[i]? = some d2) : ((ds1.zip ds2).map f)[i]? = some (f (d1, d2)) := by
  have hz : (ds1.zip ds2)[i]? = some (d1, d2) := List.getElem?_zip_eq_some.mpr ⟨h1, h2⟩
  rw [List.getElem?_map, hz]
  rfl
theorem gi_zipL (h : PI X tg iter (RZ.iZipA X.K (tA Γ [.lst ds1, .lst ds2]))) : PI X tg iter (iG Γ ((ds1.zip ds2).map fun p => .pr [p.1, p.2])) :=
  wkI h fun σ H R ⟨B0, H0, B, k, q⟩ => ⟨B0, H0, B, k, fun vs B' H' g r => by
    cases r with
    | cons r r2 =>
      cases r2 with
      | cons r2 r3 =>
        cases r3
        obtain ⟨l, xs, h1, h2, h3⟩ := r.lst_inv
        obtain ⟨l2, ys, f1, f2, f3⟩ := r2.lst_inv
        subst h1 f1
        have e1 := h3.len
        have e2 := f3.len
        have el : ((ds1.zip ds2).map fun p => D.pr [p.1, p.2]).length = min xs.length ys.length := by simp [e1, e2]
        refine ⟨l, l2, xs, ys, rfl, .inl ⟨.of (g.le _ _ h2), .of (g.le _ _ f2), q _ B' H' g ⟨fun i H s hi => ?_, fun H s => ?_, fun i H x H' B1 s1 s2 hi y => ?_⟩⟩⟩
        · rw [el] at hi
          exact ⟨xs, ys, xs[i]'(by omega), ys[i]'(by omega), .of (s _ _ h2), .of (s _ _ f2), List.getElem?_eq_getElem (by omega), List.getElem?_eq_getElem (by omega)⟩
        · rw [el]
          exact ⟨xs, ys, .of (s _ _ h2), .of (s _ _ f2), by omega⟩
        · rw [el] at hi
          obtain ⟨T, u, w, rfl, nT, rfl, y1, y2⟩ := y
          have hu := y1 xs (.of (s2 _ _ (s1 _ _ h2)))
          have hw := y2 ys (.of (s2 _ _ (s1 _ _ f2)))
          have i1 : i < ds1.length := by omega
          have i2 : i < ds2.length := by omega
          obtain ⟨u', a1, a2⟩ := h3.get (List.getElem?_eq_getElem i1)
          obtain ⟨w', b1, b2⟩ := f3.get (List.getElem?_eq_getElem i2)
          rw [hu] at a1
          rw [hw] at b1
          cases a1
          cases b1
          have sm := same_new (o := .tup [u, w]) (s2.free nT)
          exact ⟨.pr [ds1[i], ds2[i]], _, zip_get (f := fun p => .pr [p.1, p.2]) (List.getElem?_eq_getElem i1) (List.getElem?_eq_getElem i2), Grow.new s2 nT, .pr upd_same (.cons ((a2.mono s1).mono sm) (.cons ((b2.mono s1).mono sm) .nil))⟩⟩
theorem gi_zipT (h : PI X tg iter (RZ.iZipA X.K (tA Γ [.tup ds1, .tup ds2]))) : PI X tg iter (iG Γ ((ds1.zip ds2).map fun p => .pr [p.1, p.2])) :=
  wkI h fun σ H R ⟨B0, H0, B, k, q⟩ => ⟨B0, H0, B, k, fun vs B' H' g r => by
    cases r with
    | cons r r2 =>
      cases r2 with
      | cons r2 r3 =>
        cases r3
        obtain ⟨l, o, xs, h1, h2, _, h3⟩ := r.tup_inv
        obtain ⟨l2, o2, ys, f1, f2, _, f3⟩ := r2.tup_inv
        subst h1 f1
        have e1 := h3.len
        have e2 := f3.len
        have el : ((ds1.zip ds2).map fun p => D.pr [p.1, p.2]).length = min xs.length ys.length := by simp [e1, e2]
        refine ⟨l, l2, xs, ys, rfl, .inr ⟨sqF (g.le _ _ h2), sqF (g.le _ _ f2), q _ B' H' g ⟨fun i H s hi => ?_, fun H s => ?_, fun i H x H' B1 s1 s2 hi y => ?_⟩⟩⟩
        · rw [el] at hi
          exact ⟨xs, ys, xs[i]'(by omega), ys[i]'(by omega), sqF (s _ _ h2), sqF (s _ _ f2), List.getElem?_eq_getElem (by omega), List.getElem?_eq_getElem (by omega)⟩
        · rw [el]
          exact ⟨xs, ys, sqF (s _ _ h2), sqF (s _ _ f2), by omega⟩
        · rw [el] at hi
          obtain ⟨T, u, w, rfl, nT, rfl, y1, y2⟩ := y
          have hu := y1 xs (sqF (s2 _ _ (s1 _ _ h2)))
          have hw := y2 ys (sqF (s2 _ _ (s1 _ _ f2)))
          have i1 : i < ds1.length := by omega
          have i2 : i < ds2.length := by omega
          obtain ⟨u', a1, a2⟩ := h3.get (List.getElem?_eq_getElem i1)
          obtain ⟨w', b1, b2⟩ := f3.get (List.getElem?_eq_getElem i2)
          rw [hu] at a1
          rw [hw] at b1
          cases a1
          cases b1
          have sm := same_new (o := .tup [u, w]) (s2.free nT)
          exact ⟨.pr [ds1[i], ds2[i]], _, zip_get (f := fun p => .pr [p.1, p.2]) (List.getElem?_eq_getElem i1) (List.getElem?_eq_getElem i2), Grow.new s2 nT, .pr upd_same (.cons ((a2.mono s1).mono sm) (.cons ((b2.mono s1).mono sm) .nil))⟩⟩
/-- enumerate of a tuple -/
theorem gi_en (h : PI X tg iter (iEnT X.K (tA Γ [.tup ds]))) : PI X tg iter (iG Γ (ds.zipIdx.map fun p => .pr [.int (p.2 : Nat), p.1])) :=
  wkI h fun σ H R ⟨B0, H0, B, k, q⟩ => ⟨B0, H0, B, k, fun vs B' H' g r => by
    cases r with
    | cons r r2 =>
      cases r2
      obtain ⟨l, o, xs, h1, h2, _, h3⟩ := r.tup_inv
      subst h1
      have e1 := h3.len
      have el : (ds.zipIdx.map fun p => D.pr [.int (p.2 : Nat), p.1]).length = xs.length := by simp [e1]
      refine ⟨l, xs, rfl, sqF (g.le _ _ h2), q _ B' H' g ⟨fun i H s hi => ?_, fun H s => ?_, fun i H x H' B1 s1 s2 hi y => ?_⟩⟩
      · rw [el] at hi
        exact ⟨xs, xs[i]'(by omega), sqF (s _ _ h2), List.getElem?_eq_getElem (by omega)⟩
      · rw [el]
        exact ⟨xs, sqF (s _ _ h2), rfl⟩
      · rw [el] at hi
        obtain ⟨T, u, rfl, nT, rfl, y1⟩ := y
        have hu := y1 xs (sqF (s2 _ _ (s1 _ _ h2)))
        have i1 : i < ds.length := by omega
        obtain ⟨u', a1, a2⟩ := h3.get (List.getElem?_eq_getElem i1)
        rw [hu] at a1
        cases a1
        have sm := same_new (o := .tup [.int ((i : Nat) : Int), u]) (s2.free nT)
        refine ⟨.pr [.int ((i : Nat) : Int), ds[i]], _, ?_, Grow.new s2 nT, .pr upd_same (.cons (.v _) (.cons ((a2.mono s1).mono sm) .nil))⟩
        rw [List.getElem?_map, List.getElem?_zipIdx, List.getElem?_eq_getElem i1]
        simp⟩
/-! ### targets -/
def gA (g : TG) (Γ Γ' : Ctx) (d : D) (W : L2.St → L2.St → Prop) : Prop := ∀ v σ B0 H0 B H Q, Kn B0 H0 Γ σ B H → Rel B d v → (∀ σ', Kn B0 H0 Γ' σ' B H → W σ σ' → Q σ' H) → g v σ H Q
def anyW : L2.St → L2.St → Prop := fun _ _ => True
def ownW (vs : List Nat) : L2.St → L2.St → Prop := fun σ σ' => wipe σ' vs = wipe σ vs
theorem wipe_set {σ : L2.St} {x : Option V} : ∀ {vs : List Nat} {j : Nat}, j ∈ vs → wipe (σ.set j x) vs = wipe σ vs
  | w :: ws, j, h => by
    show (wipe (σ.set j x) ws).set w none = (wipe σ ws).set w none
    by_cases hj : j ∈ ws
    · rw [wipe_set hj]
    · have e : j = w := by
        rcases List.mem_cons.mp h with e | e
        · exact e
        · exact absurd e hj
      subst e
      have comm : ∀ (ws : List Nat) (τ : L2.St), j ∉ ws → wipe (τ.set j x) ws = (wipe τ ws).set j x := by
        intro ws
        induction ws with
        | nil => intro τ _; rfl
        | cons u us ih =>
          intro τ hu
          simp only [List.mem_cons, not_or] at hu
          show (wipe (τ.set j x) us).set u none = ((wipe τ us).set u none).set j x
          rw [ih τ hu.2, List.set_comm _ _ (fun z => hu.1 z)]
      rw [comm ws σ hj, List.set_set]
theorem wipe_wipe {σ : L2.St} : ∀ {vs : List Nat}, wipe (wipe σ vs) vs = wipe σ vs := by
  have gen : ∀ (ws vs : List Nat), (∀ w ∈ ws, w ∈ vs) → wipe (wipe σ ws) vs = wipe σ vs := by
    intro ws
    induction ws with
    | nil => intro vs _; rfl
    | cons u us ih =>
      intro vs h
      show wipe ((wipe σ us).set u none) vs = _
      rw [wipe_set (h u (by simp))]
      exact ih vs fun w hw => h w (by simp [hw])
  intro vs
  exact gen vs vs fun _ h => h
theorem ga_name {j : Nat} : gA (gName j) Γ (Γ.set j (.d d)) d anyW := fun v σ B0 H0 B H Q k r q => q _ (k.setD r) trivial
theorem ga_nameW {j : Nat} {vs : List Nat} (hj : j ∈ vs) : gA (gName j) Γ (Γ.set j (.d d)) d (ownW vs) := fun v σ B0 H0 B H Q k r q => q _ (k.setD r) (wipe_set hj)
theorem ga_two {K : PySem.W.Frag} {i j : Nat} : gA (gTup K 2 (gCons (gName i) (gCons (gName j) gNil))) Γ ((Γ.set i (.d d1)).set j (.d d2)) (.pr [d1, d2]) anyW := fun v σ B0 H0 B H Q k r q => by
  obtain ⟨t, vs, h1, h2, h3⟩ := r.pr_inv
  cases h3 with
  | cons r1 r2 =>
    cases r2 with
    | cons r2 r3 =>
      cases r3
      exact ⟨t, _, h1, .of (k.le _ _ h2), rfl, _, _, rfl, _, _, rfl, rfl, q _ ((k.setD r1).setD r2) trivial⟩
theorem ga_twoW {K : PySem.W.Frag} {i j : Nat} {ws : List Nat} (hi : i ∈ ws) (hj : j ∈ ws) : gA (gTup K 2 (gCons (gName i) (gCons (gName j) gNil))) Γ ((Γ.set i (.d d1)).set j (.d d2)) (.pr [d1, d2]) (ownW ws) := fun v σ B0 H0 B H Q k r q => by
  obtain ⟨t, vs, h1, h2, h3⟩ := r.pr_inv
  cases h3 with
  | cons r1 r2 =>
    cases r2 with
    | cons r2 r3 =>
      cases r3
      exact ⟨t, _, h1, .of (k.le _ _ h2), rfl, _, _, rfl, _, _, rfl, rfl, q _ ((k.setD r1).setD r2) (by unfold ownW; rw [wipe_set hj, wipe_set hi])⟩
/-- a tuple of two taken apart -/
theorem ga_tup2 {K : PySem.W.Frag} {i j : Nat} : gA (gTup K 2 (gCons (gName i) (gCons (gName j) gNil))) Γ ((Γ.set i (.d d1)).set j (.d d2)) (.tup [d1, d2]) anyW := fun v σ B0 H0 B H Q k r q => by
  obtain ⟨t, o, vs, h1, h2, _, h3⟩ := r.tup_inv
  cases h3 with
  | cons r1 r2 =>
    cases r2 with
    | cons r2 r3 =>
      cases r3
      exact ⟨t, _, h1, sqF (k.le _ _ h2), rfl, _, _, rfl, _, _, rfl, rfl, q _ ((k.setD r1).setD r2) trivial⟩
theorem ga_tup4 {K : PySem.W.Frag} {i j k l : Nat} {d3 d4 : D} : gA (gTup K 4 (gCons (gName i) (gCons (gName j) (gCons (gName k) (gCons (gName l) gNil))))) Γ ((((Γ.set i (.d d1)).set j (.d d2)).set k (.d d3)).set l (.d d4)) (.tup [d1, d2, d3, d4]) anyW := fun v σ B0 H0 B H Q kn r q => by
  obtain ⟨t, o, vs, h1, h2, _, h3⟩ := r.tup_inv
  cases h3 with
  | cons r1 r2 =>
    cases r2 with
    | cons r2 r3 =>
      cases r3 with
      | cons r3 r4 =>
        cases r4 with
        | cons r4 r5 =>
          cases r5
          exact ⟨t, _, h1, sqF (kn.le _ _ h2), rfl, _, _, rfl, _, _, rfl, _, _, rfl, _, _, rfl, rfl, q _ ((((kn.setD r1).setD r2).setD r3).setD r4) trivial⟩
end
end Ga
/-! Comprehensions; statements. -/
namespace Ga
open PySem PySem.Spec PyProof.Rows L2 Mi
section
variable {B0 H0 B H B' H' B1 H1 : Hp} {Γ : Ctx} {σ : L2.St} {p : Addr} {o : HO}
theorem Grow.hidUpd (g : Grow B1 H1 B H) (hn : H1 p = none) (hb : B p = none) : Grow B1 H1 B (upd H p o) :=
  ⟨g.kb, fun b x q => by
    rw [upd_ne (ne_of_none q hn)]
    exact g.kh b x q, fun b x q => by
    rw [upd_ne (ne_of_none q hb)]
    exact g.le b x q, g.fr⟩
theorem Kn.nom (k : Kn B0 H0 Γ σ B H) (n : H p = none) : ∀ (i : Nat) ds, Γ[i]? = some (.m ds) → σ[i]? ≠ some (some (.ref p)) := fun i ds h z => by
  obtain ⟨l, vs, h1, h2, _⟩ := k.m i ds h
  rw [h1] at z
  cases z
  rw [n] at h2
  cases h2
end
section
variable {α : Type} {xs : List α} {emb : α → D} {Γ : Ctx} {Γ' : α → Ctx} {tst : α → Bool} {out : α → D} {g : TG} {vs : List Nat}
def tX (I : α → Prop) (t : α → TE) : TE := fun σ H Q => ∃ x, I x ∧ t x σ H Q
def tXT (I : α → Prop) (t : α → TT) : TT := fun σ H Q => ∃ x, I x ∧ t x σ H Q
theorem peX {X : Cx} {e : Expr} {I : α → Prop} {t : α → TE} (h : ∀ x, I x → PE X e (t x)) : PE X e (tX I t) := ⟨fun pins s σ H Q J ⟨x, i, q⟩ => (h x i).run pins s σ H Q J q⟩
theorem ptsX {X : Cx} {es : List Expr} {I : α → Prop} {t : α → TT} (h : ∀ x, I x → PTs X es (t x)) : PTs X es (tXT I t) := ⟨fun pins s σ H Q J ⟨x, i, q⟩ => (h x i).run pins s σ H Q J q⟩
theorem filt_len (i : Nat) : (((xs.take i).filter tst).map out).length ≤ xs.length := by
  rw [List.length_map]
  exact Nat.le_trans (List.length_filter_le _ _) (by rw [List.length_take]; omega)
theorem lcR {σ : L2.St} {H : Hp} {Q : VK} (ha : ∀ x ∈ xs, gA g Γ (Γ' x) (emb x) (ownW vs)) (hw : ∀ i ∈ vs, Γ[i]? = some .any ∨ Γ[i]? = none) (hz : xs.length ≤ 1000) (h : tN Γ ((xs.filter tst).map out) σ H Q) :
    tLc (iG Γ (xs.map emb)) g (tXT (· ∈ xs) fun x => tB (Γ' x) (tst x)) (tX (fun x => x ∈ xs ∧ tst x = true) fun x => tG (Γ' x) (out x)) vs σ H Q := by
  obtain ⟨B0, H0, B, k, q⟩ := h
  refine ⟨B0, H0, B, k, fun J B1 H1 g1 wk Dl hD => ?_⟩
  have k1 := k.grow g1
  have hBD : B1 Dl = none := g1.le.free hD
  have hH0 : H0 Dl = none := k1.g.kh.free hD
  refine ⟨fun i m Hi => m = xs.length - i ∧ i ≤ xs.length ∧ ∃ Bi acc, Kn B0 H0 Γ σ Bi Hi ∧ Grow B1 H1 Bi Hi ∧ Bi Dl = none ∧ Hi Dl = some (.lst acc) ∧ RelL Bi (((xs.take i).filter tst).map out) acc,
    ⟨xs.length, by simp, Nat.zero_le _, B1, [], k1.hid hD, Grow.hid k1.le hD, hBD, upd_same, by simp; exact .nil⟩, ?_⟩
  rintro i m Hi ⟨rfl, hi, Bi, acc, ki, gi, bi, di, ri⟩
  have hlen : (xs.map emb).length = xs.length := by simp
  by_cases hlt : i < xs.length
  · refine .inr ⟨wk.go i Hi (gi.kb.trans gi.le) (by rw [hlen]; exact hlt), fun Hn => (i + 1 ≤ xs.length) ∧ ∃ Bn acc', Kn B0 H0 Γ σ Bn Hn ∧ Grow B1 H1 Bn Hn ∧ Bn Dl = none ∧ Hn Dl = some (.lst acc') ∧ RelL Bn (((xs.take (i + 1)).filter tst).map out) acc',
      fun Hn hn => ⟨xs.length - (i + 1), by omega, rfl, hn⟩, fun x H' y => ?_⟩
    obtain ⟨d, B2, hd, g2, r2⟩ := wk.yld i Hi x H' Bi gi.kb gi.le (by rw [hlen]; exact hlt) y
    have hx : xs[i]? = some xs[i] := List.getElem?_eq_getElem hlt
    have mem : xs[i] ∈ xs := List.getElem_mem hlt
    rw [List.getElem?_map, hx] at hd
    have ed : emb xs[i] = d := Option.some.inj hd
    subst ed
    refine ha xs[i] mem x (wipe σ vs) B0 H0 B2 H' _ ((ki.wipe hw).grow g2) r2 fun σ' kn hW => ⟨hW.trans wipe_wipe, xs[i], mem, B0, H0, B2, kn, fun B3 H3 g3 => ?_⟩
    have gg : Grow Bi Hi B3 H3 := g2.trans g3
    have tk : xs.take (i + 1) = xs.take i ++ [xs[i]] := by
      rw [List.take_add_one, hx]
      rfl
    cases ht : tst xs[i] with
    | true =>
      refine iteT ⟨xs[i], ⟨mem, ht⟩, B0, H0, B3, kn.grow g3, fun v B4 H4 g4 r4 => ?_⟩
      have gz : Grow Bi Hi B4 H4 := gg.trans g4
      have dz : H4 Dl = some (.lst acc) := gz.kh _ _ di
      have bz : B4 Dl = none := gz.fr _ _ di bi
      refine ⟨acc, dz, ?_, by omega, B4, acc ++ [v], ?_, ((gi.trans gz).hidUpd hD bz), bz, upd_same, ?_⟩
      · rw [← ri.len]
        exact small1000 (Nat.le_trans (filt_len i) hz)
      · exact (ki.grow gz).hidUpd hH0 bz (k1.nom hD)
      · rw [tk, List.filter_append, List.map_append]
        have e1 : [xs[i]].filter tst = [xs[i]] := by simp [ht]
        rw [e1]
        exact (ri.mono gz.kb).app (.cons r4 .nil)
    | false =>
      refine iteF ⟨by omega, B3, acc, ki.grow gg, gi.trans gg, gg.fr _ _ di bi, gg.kh _ _ di, ?_⟩
      rw [tk, List.filter_append, List.map_append]
      have e1 : [xs[i]].filter tst = [] := by simp [ht]
      rw [e1, List.map_nil, List.append_nil]
      exact ri.mono gg.kb
  · have e : i = xs.length := by omega
    subst e
    have st := wk.stop Hi (gi.kb.trans gi.le)
    rw [hlen] at st
    rw [List.take_length] at ri
    exact .inl ⟨st, q Dl acc Bi Hi (g1.kh.free hD) bi (g1.trans gi) di ri⟩
end
section
variable {X : Cx} {α : Type} {xs : List α} {emb : α → D} {Γ : Ctx} {Γ' : α → Ctx} {tst : α → Bool} {out : α → D} {g : TG} {elt tg iter : Expr} {ifs : List Expr} {scope : Scope} {own : List (Str × Nat)} {pos : Pos}
abbrev Blk (X : Cx) (scope : Scope) (P : Cx → Prop) : Prop := ∀ (s : Shared) (H : Hp) (C : Addr) (cl : List (Str × Addr)) (fp : List Addr), P (X.blk s H scope (compEnvC scope cl C X.env) fp)
/-- a comprehension with a test -/
theorem g_lcF (tst : α → Bool) (out : α → D) (hc : X.calm = true) (hN : X.N.Nodup) (hi : PI X tg iter (iG Γ (xs.map emb))) (ok : BlkOk X.N X.env.scope scope own)
    (hg : Blk X scope fun Y => PG Y tg g) (ha : ∀ x ∈ xs, gA g Γ (Γ' x) (emb x) (ownW (own.map (·.2)))) (ht : Blk X scope fun Y => ∀ x ∈ xs, PTs Y ifs (tB (Γ' x) (tst x)))
    (he : Blk X scope fun Y => ∀ x ∈ xs, tst x = true → PE Y elt (tG (Γ' x) (out x))) (hw : ∀ i ∈ own.map (·.2), Γ[i]? = some .any ∨ Γ[i]? = none) (hz : xs.length ≤ 1000)
    (hs : ∀ x, foldedSetIterable iter X.env x = pure x := by intro _; rfl) : PE X (.ListComp elt [⟨tg, iter, ifs, 0⟩] scope pos) (tN Γ ((xs.filter tst).map out)) :=
  wkE (pe_lc hc hN hi ok hg (fun s H C cl fp => ptsX (ht s H C cl fp)) (fun s H C cl fp => peX fun x ⟨h1, h2⟩ => he s H C cl fp x h1 h2) hs) fun σ H Q h => lcR ha hw hz h
theorem gts_nil : PTs X [] (tB Γ true) := ⟨fun pins s σ H Q I ⟨B0, H0, B, k, q⟩ => pts_nil.run pins s σ H Q I (q B H (Grow.refl k.le))⟩
theorem gts_one {c : Expr} {b : Bool} (h : PT X c (tB Γ b)) : PTs X [c] (tB Γ b) := pts_one h
/-- .. without one -/
theorem g_lc (out : α → D) (hc : X.calm = true) (hN : X.N.Nodup) (hi : PI X tg iter (iG Γ (xs.map emb))) (ok : BlkOk X.N X.env.scope scope own)
    (hg : Blk X scope fun Y => PG Y tg g) (ha : ∀ x ∈ xs, gA g Γ (Γ' x) (emb x) (ownW (own.map (·.2))))
    (he : Blk X scope fun Y => ∀ x ∈ xs, PE Y elt (tG (Γ' x) (out x))) (hw : ∀ i ∈ own.map (·.2), Γ[i]? = some .any ∨ Γ[i]? = none) (hz : xs.length ≤ 1000)
    (hs : ∀ x, foldedSetIterable iter X.env x = pure x := by intro _; rfl) : PE X (.ListComp elt [⟨tg, iter, [], 0⟩] scope pos) (tN Γ (xs.map out)) := by
  have h := g_lcF (fun _ : α => true) out hc hN hi ok hg ha (fun s H C cl fp x hx => gts_nil) (fun s H C cl fp x hx _ => he s H C cl fp x hx) hw hz hs (pos := pos)
  have e : xs.filter (fun _ => true) = xs := by simp
  rwa [e] at h
end
/-! ### statements -/
inductive Out where
  | nx (Γ : Ctx)
  | rt (d : D)
def sG (Γ : Ctx) (o : Out) : TS := fun D σ H => ∃ B0 H0 B, Kn B0 H0 Γ σ B H ∧ match o with
  | .nx Γ' => ∀ σ' B' H', Kn B0 H0 Γ' σ' B' H' → D.nx σ' H'
  | .rt d => ∀ v B' H', Grow B0 H0 B' H' → Rel B' d v → D.rt v H'
section
variable {X : Cx} {Γ Γ1 Γ2 : Ctx} {o : Out} {st : Stmt} {sts rest body orelse : List Stmt} {e c : Expr} {pos : Pos} {d : D} {ds : List D} {b : Bool}
theorem wkS {t t' : TS} (h : PS X st t) (w : ∀ D σ H, t' D σ H → t D σ H) : PS X st t' := ⟨fun pins s σ H D I q => h.run pins s σ H D I (w D σ H q)⟩
theorem wkSs {t t' : TS} (h : PSs X sts t) (w : ∀ D σ H, t' D σ H → t D σ H) : PSs X sts t' := ⟨fun pins s σ H D I q => h.run pins s σ H D I (w D σ H q)⟩
theorem s_end : PSs X [] (sG Γ (.nx Γ)) := wkSs pss_nil fun D σ H ⟨B0, H0, B, k, q⟩ => q σ B H k
theorem s_cons (h1 : PS X st (sG Γ (.nx Γ1))) (h2 : PSs X rest (sG Γ1 o)) : PSs X (st :: rest) (sG Γ o) :=
  wkSs (pss_cons h1 h2) fun D σ H ⟨B0, H0, B, k, q⟩ => ⟨B0, H0, B, k, fun σ' B' H' k' => ⟨B0, H0, B', k', q⟩⟩
theorem s_ret (h : PS X st (sG Γ (.rt d))) : PSs X (st :: rest) (sG Γ (.rt d)) :=
  wkSs (pss_cons h pss_never) fun D σ H ⟨B0, H0, B, k, q⟩ => ⟨B0, H0, B, k, q⟩
/-- what is told less -/
def subC : Ctx → Ctx → Prop
  | [], [] => True
  | .any :: a, _ :: b => subC a b
  | s :: a, t :: b => s = t ∧ subC a b
  | _, _ => False
theorem subC.len : ∀ {Γ2 Γ1 : Ctx}, subC Γ2 Γ1 → Γ2.length = Γ1.length
  | [], [], _ => rfl
  | .any :: a, _ :: b, h => by
    have h' : subC a b := h
    simp [h'.len]
  | .d _ :: a, _ :: b, h => by
    have h' := h.2
    simp [h'.len]
  | .m _ :: a, _ :: b, h => by
    have h' := h.2
    simp [h'.len]
  | [], _ :: _, h => h.elim
  | .any :: _, [], h => h.elim
  | .d _ :: _, [], h => h.elim
  | .m _ :: _, [], h => h.elim
theorem subC.get : ∀ {Γ2 Γ1 : Ctx}, subC Γ2 Γ1 → ∀ (i : Nat) s, Γ2[i]? = some s → s ≠ .any → Γ1[i]? = some s
  | [], [], _, _, _, h, _ => by simp at h
  | .any :: a, t :: b, h, 0, s, hs, hn => by
    simp at hs
    exact absurd hs.symm hn
  | .any :: a, t :: b, h, i + 1, s, hs, hn => by
    have h' : subC a b := h
    simpa using h'.get i s (by simpa using hs) hn
  | .d _ :: a, t :: b, h, 0, s, hs, hn => by
    simp at hs
    simp [← h.1, hs]
  | .m _ :: a, t :: b, h, 0, s, hs, hn => by
    simp at hs
    simp [← h.1, hs]
  | .d _ :: a, t :: b, h, i + 1, s, hs, hn => by
    have h' := h.2
    simpa using h'.get i s (by simpa using hs) hn
  | .m _ :: a, t :: b, h, i + 1, s, hs, hn => by
    have h' := h.2
    simpa using h'.get i s (by simpa using hs) hn
  | [], _ :: _, h, _, _, _, _ => h.elim
  | .any :: _, [], h, _, _, _, _ => h.elim
  | .d _ :: _, [], h, _, _, _, _ => h.elim
  | .m _ :: _, [], h, _, _, _, _ => h.elim
theorem Kn.sub {B0 H0 B H : Hp} {σ : L2.St} (k : Kn B0 H0 Γ1 σ B H) (h : subC Γ2 Γ1) : Kn B0 H0 Γ2 σ B H := k.weak h.len h.get
theorem s_less (h : PSs X sts (sG Γ (.nx Γ1))) (w : subC Γ2 Γ1) : PSs X sts (sG Γ (.nx Γ2)) :=
  wkSs h fun D σ H ⟨B0, H0, B, k, q⟩ => ⟨B0, H0, B, k, fun σ' B' H' k' => q σ' B' H' (k'.sub w)⟩
theorem s_from (w : subC Γ2 Γ1) (h : PSs X sts (sG Γ2 o)) : PSs X sts (sG Γ1 o) :=
  wkSs h fun D σ H ⟨B0, H0, B, k, q⟩ => ⟨B0, H0, B, k.sub w, q⟩
/-- name = e -/
theorem p_asg {i : Nat} {x : Str} {pos' : Pos} (hN : X.N.Nodup) (hi : X.N[i]? = some x) (hx : Loc X.env.scope x) (he : PE X e (tG Γ d))
    (hs : swapsWith e (some (.Name x pos')) pos.line X.env = pure false := by rfl) (hf : X.fn x = true ∨ X.env.scope.names.lookup x = some .local := by first | exact .inl rfl | exact .inr rfl | assumption) :
    PS X (.Assign [.Name x pos'] e pos) (sG Γ (.nx (Γ.set i (.d d)))) :=
  wkS (ps_set hN hi hx he hs hf) fun D σ H ⟨B0, H0, B, k, q⟩ => ⟨B0, H0, B, k, fun v B' H' g r => q _ B' H' ((k.grow g).setD r)⟩
theorem p_asgN {i : Nat} {x : Str} {pos' : Pos} (hN : X.N.Nodup) (hi : X.N[i]? = some x) (hx : Loc X.env.scope x) (he : PE X e (tN Γ ds))
    (hs : swapsWith e (some (.Name x pos')) pos.line X.env = pure false := by rfl) (hf : X.fn x = true ∨ X.env.scope.names.lookup x = some .local := by first | exact .inl rfl | exact .inr rfl | assumption) :
    PS X (.Assign [.Name x pos'] e pos) (sG Γ (.nx (Γ.set i (.m ds)))) :=
  wkS (ps_set hN hi hx he hs hf) fun D σ H ⟨B0, H0, B, k, q⟩ => ⟨B0, H0, B, k, fun l vs B' H' n nb g hl r => q _ B' H' (k.setM g n hl nb r)⟩
/-- e1, .. = e -/
theorem p_unp {tg : Expr} {g : TG} (he : PE X e (tG Γ d)) (hg : PG X tg g) (ha : gA g Γ Γ1 d anyW) (hs : swapsWithSole [tg] e pos.line X.env = pure false := by rfl) (hw : swappedStores [tg] e X.env = pure none := by rfl) (h1 : (assignEach [tg] X.env).map (·.2) = [assign tg X.env] := by rfl) :
    PS X (.Assign [tg] e pos) (sG Γ (.nx Γ1)) :=
  wkS (ps_asg he hg hs hw h1) fun D σ H ⟨B0, H0, B, k, q⟩ => ⟨B0, H0, B, k, fun v B' H' g r => ha v σ B0 H0 B' H' _ (k.grow g) r fun σ' k' _ => q σ' B' H' k'⟩
theorem p_ret (he : PE X e (tG Γ d)) : PS X (.Return (some e) pos) (sG Γ (.rt d)) :=
  wkS (ps_ret he) fun D σ H ⟨B0, H0, B, k, q⟩ => ⟨B0, H0, B, k, fun v B' H' g r => q v B' H' (k.g.trans g) r⟩
/-- one's own list is handed back -/
theorem p_retM {i : Nat} {x : Str} {p : Pos} (hΓ : Γ[i]? = some (.m ds)) (h : PE X (.Name x p) (tVar i)) : PS X (.Return (some (.Name x p)) pos) (sG Γ (.rt (.lst ds))) :=
  wkS (ps_ret h) fun D σ H ⟨B0, H0, B, k, q⟩ => by
    obtain ⟨l, vs, h1, h2, h3, h4, h5⟩ := k.m i ds hΓ
    refine ⟨.ref l, h1, q (.ref l) (upd B l (.lst vs)) H ⟨k.g.kb.trans (same_new h3), k.g.kh, fun b o hb => ?_, fun b o hb hn => ?_⟩ (.lst upd_same (h5.mono (same_new h3)))⟩
    · by_cases hbl : b = l
      · subst hbl
        rw [upd_same] at hb
        cases hb
        exact h2
      · rw [upd_ne hbl] at hb
        exact k.le b o hb
    · rw [upd_ne (ne_of_none hb h4)]
      exact k.g.fr b o hb hn
theorem p_retN (he : PE X e (tN Γ ds)) : PS X (.Return (some e) pos) (sG Γ (.rt (.lst ds))) := p_ret (g_n he)
/-- if, then the rest -/
theorem s_if (hc : PT X c (tB Γ b)) (h1 : b = true → PSs X body (sG Γ (.rt d))) (h2 : b = false → PSs X rest (sG Γ (.rt d))) : PSs X (.If c body [] pos :: rest) (sG Γ (.rt d)) := by
  cases b with
  | true => exact wkSs (pss_cons (ps_if hc (h1 rfl) pss_never) pss_never) fun D σ H ⟨B0, H0, B, k, q⟩ => ⟨B0, H0, B, k, fun B' H' g => iteT ⟨B0, H0, B', k.grow g, q⟩⟩
  | false => exact wkSs (pss_cons (ps_if hc pss_never pss_nil) (h2 rfl)) fun D σ H ⟨B0, H0, B, k, q⟩ => ⟨B0, H0, B, k, fun B' H' g => iteF ⟨B0, H0, B', k.grow g, q⟩⟩
/-- if .. else, both go on -/
theorem s_if2 {Γ1 Γ2 : Ctx} (hc : PT X c (tB Γ b)) (h1 : b = true → PSs X body (sG Γ (.nx Γ1))) (r1 : b = true → PSs X rest (sG Γ1 o)) (h2 : b = false → PSs X orelse (sG Γ (.nx Γ2))) (r2 : b = false → PSs X rest (sG Γ2 o)) :
    PSs X (.If c body orelse pos :: rest) (sG Γ o) := by
  cases b with
  | true => exact wkSs (pss_cons (ps_if hc (h1 rfl) pss_never) (r1 rfl)) fun D σ H ⟨B0, H0, B, k, q⟩ => ⟨B0, H0, B, k, fun B' H' g => iteT ⟨B0, H0, B', k.grow g, fun σ' B2 H2 k2 => ⟨B0, H0, B2, k2, q⟩⟩⟩
  | false => exact wkSs (pss_cons (ps_if hc pss_never (h2 rfl)) (r2 rfl)) fun D σ H ⟨B0, H0, B, k, q⟩ => ⟨B0, H0, B, k, fun B' H' g => iteF ⟨B0, H0, B', k.grow g, fun σ' B2 H2 k2 => ⟨B0, H0, B2, k2, q⟩⟩⟩
/-- if without else, both go on with the same -/
theorem s_ifj {Γ1 : Ctx} (hc : PT X c (tB Γ b)) (h1 : b = true → PSs X body (sG Γ (.nx Γ1))) (h2 : b = false → subC Γ1 Γ) (r : PSs X rest (sG Γ1 o)) : PSs X (.If c body [] pos :: rest) (sG Γ o) :=
  s_if2 hc h1 (fun _ => r) (fun _ => s_end) fun q => s_from (h2 q) r
/-! ### own lists changed -/
theorem p_app {i : Nat} {x : Str} {xp ap cp : Pos} (hΓ : Γ[i]? = some (.m ds)) (hz : ds.length < 1000)
    (h : PE X (.Call (.Attribute (.Name x xp) "append" ap) [e] [] cp) (tBM X.K "list" rAppend (tVar i) (tA Γ [d]))) (hs : swapsWith (.Call (.Attribute (.Name x xp) "append" ap) [e] [] cp) none pos.line X.env = pure false := by rfl) :
    PS X (.Expr (.Call (.Attribute (.Name x xp) "append" ap) [e] [] cp) pos) (sG Γ (.nx (Γ.set i (.m (ds ++ [d]))))) :=
  wkS (ps_expr h hs) fun D σ H ⟨B0, H0, B, k, q⟩ => by
    obtain ⟨l, vs, h1, h2, h3, h4, h5⟩ := k.m i ds hΓ
    refine ⟨.ref l, h1, .inl ⟨rfl, _, .of h2⟩, B0, H0, B, k, fun us B' H' g r => ?_⟩
    cases r with
    | cons r r' =>
      cases r'
      refine ⟨l, vs, _, rfl, rfl, g.kh _ _ h2, ?_, ?_⟩
      · rw [← h5.len]
        exact small1000 (Nat.le_of_lt hz)
      · exact q σ B' _ ((k.grow g).write hΓ h1 ((h5.mono g.kb).app (.cons r .nil)))
/-- x[j] = e -/
theorem p_setL {i j : Nat} (hΓ : Γ[i]? = some (.m ds)) (hj : j < ds.length) (h : PS X st (tAsg (tG Γ d) (gSub (tVar i) (tG Γ (.int (j : Nat))) rSetL))) :
    PS X st (sG Γ (.nx (Γ.set i (.m (ds.set j d))))) :=
  wkS h fun D σ H ⟨B0, H0, B, k, q⟩ => by
    refine ⟨B0, H0, B, k, fun x B1 H1 g1 r1 => ?_⟩
    obtain ⟨l, vs, h1, h2, h3, h4, h5⟩ := k.m i ds hΓ
    refine ⟨.ref l, h1, B0, H0, B1, k.grow g1, fun y B2 H2 g2 r2 => ?_⟩
    have g := g1.trans g2
    refine ⟨l, vs, (j : Nat), j, rfl, r2.v_inv, g.kh _ _ h2, ?_, ?_⟩
    · unfold ixN
      rw [← h5.len, if_pos (by omega), if_pos (by omega)]
      simp
    · exact q σ B2 _ ((k.grow g).write hΓ h1 ((h5.mono g.kb).set (r1.mono g2.kb) j))
/-- insert -/
theorem p_ins {i : Nat} {n : Nat} {x : Str} {e2 : Expr} {xp ap cp : Pos} {r : V → List V → Hp → VK → Prop} (hΓ : Γ[i]? = some (.m ds)) (hz : ds.length < 1000) (hn : n ≤ ds.length)
    (hr : ∀ (l : Addr) (vs : List V) (y : V) (H : Hp) (Q : VK), H l = some (.lst vs) → vs.length ≤ 1000 → Q .non (upd H l (.lst (vs.take n ++ [y] ++ vs.drop n))) → r (.ref l) [.int (n : Nat), y] H Q)
    (h : PE X (.Call (.Attribute (.Name x xp) "insert" ap) [e, e2] [] cp) (tBM X.K "list" r (tVar i) (tA Γ [.int (n : Nat), d]))) (hs : swapsWith (.Call (.Attribute (.Name x xp) "insert" ap) [e, e2] [] cp) none pos.line X.env = pure false := by rfl) :
    PS X (.Expr (.Call (.Attribute (.Name x xp) "insert" ap) [e, e2] [] cp) pos) (sG Γ (.nx (Γ.set i (.m (ds.take n ++ [d] ++ ds.drop n))))) :=
  wkS (ps_expr h hs) fun D σ H ⟨B0, H0, B, k, q⟩ => by
    obtain ⟨l, vs, h1, h2, h3, h4, h5⟩ := k.m i ds hΓ
    refine ⟨.ref l, h1, .inl ⟨rfl, _, .of h2⟩, B0, H0, B, k, fun us B' H' g rr => ?_⟩
    cases rr with
    | cons r1 r' =>
      cases r' with
      | cons r2 r' =>
        cases r'
        rw [r1.v_inv]
        refine hr l vs _ H' _ (g.kh _ _ h2) (by rw [← h5.len]; omega) ?_
        have h6 := h5.mono g.kb
        exact q σ B' _ ((k.grow g).write hΓ h1 (((h6.take n).app (.cons r2 .nil)).app (h6.drop n)))
/-! ### loops -/
theorem Kn.rebase {B0 H0 B1 H1 B H : Hp} {σ : L2.St} (k : Kn B0 H0 Γ σ B H) (g1 : Grow B0 H0 B1 H1) (s : Same B1 B) : Kn B1 H0 Γ σ B H :=
  ⟨⟨s, k.g.kh, k.g.le, fun l o h n => k.g.fr l o h (g1.kb.free n)⟩, k.len, k.d, k.m, k.sep⟩
theorem Kn.unbase {B0 H0 B1 H1 B H : Hp} {σ : L2.St} (k : Kn B1 H0 Γ σ B H) (g1 : Grow B0 H0 B1 H1) : Kn B0 H0 Γ σ B H :=
  ⟨⟨g1.kb.trans k.g.kb, k.g.kh, k.g.le, fun l o h n => k.g.fr l o h (g1.fr l o h n)⟩, k.len, k.d, k.m, k.sep⟩
theorem Grow.unbase {B0 H0 B1 H1 B H : Hp} (g : Grow B1 H0 B H) (g1 : Grow B0 H0 B1 H1) : Grow B0 H0 B H :=
  ⟨g1.kb.trans g.kb, g.kh, g.le, fun l o h n => g.fr l o h (g1.fr l o h n)⟩
/-- a loop whose body always goes on, or hands back d at the first bad turn -/
theorem s_forR {α : Type} {xs : List α} {emb : α → D} {g : TG} {tg iter : Expr} (Γs : Nat → Ctx) (Γb : Nat → Ctx) (bad : Nat → Bool) (hp : PassesOwn (model X.prog X.w) X.A X.env X.xe) (hc : X.calm = true) (hi : PI X tg iter (iG Γ (xs.map emb))) (hg : PG X tg g)
    (ha : ∀ i (hi : i < xs.length), gA g (Γs i) (Γb i) (emb xs[i]) anyW) (hb : ∀ i (hi : i < xs.length), (∀ j < i, bad j = false) → bad i = false → PSs X body (sG (Γb i) (.nx (Γs (i + 1)))))
    (hbad : ∀ i (hi : i < xs.length), (∀ j < i, bad j = false) → bad i = true → PSs X body (sG (Γb i) o)) (h0 : subC (Γs 0) Γ) (hr : (∀ j < xs.length, bad j = false) → PSs X rest (sG (Γs xs.length) o)) (ho : ∃ d, o = .rt d ∨ ∀ j < xs.length, bad j = false)
    (hs : ∀ x, foldedSetIterable iter X.env x = pure x := by intro _; rfl) : PSs X (.For tg iter body [] pos :: rest) (sG Γ o) := by
  have hb' : PSs X body (fun D σ H => ∃ i, ∃ _ : i < xs.length, (∀ j < i, bad j = false) ∧ ((bad i = false ∧ sG (Γb i) (.nx (Γs (i + 1))) D σ H) ∨ (bad i = true ∧ sG (Γb i) o D σ H))) :=
    ⟨fun pins s σ H D I ⟨i, hi, hj, q⟩ => q.elim (fun q => (hb i hi hj q.1).run pins s σ H D I q.2) fun q => (hbad i hi hj q.1).run pins s σ H D I q.2⟩
  have hr' : PSs X rest (fun D σ H => (∀ j < xs.length, bad j = false) ∧ sG (Γs xs.length) o D σ H) := ⟨fun pins s σ H D I q => (hr q.1).run pins s σ H D I q.2⟩
  refine wkSs (pss_cons (ps_for hp hc hi hg hb' hs) hr') fun D σ H ⟨B0, H0, B, k, q⟩ => ⟨B0, H0, B, k, fun J B1 H1 g1 wk => ?_⟩
  have hlen : (xs.map emb).length = xs.length := by simp
  have g01 : Grow B0 H0 B1 H1 := k.g.trans g1
  refine ⟨fun i m σi Hi => m = xs.length - i ∧ i ≤ xs.length ∧ (∀ j < i, bad j = false) ∧ ∃ Bi, Kn B1 H0 (Γs i) σi Bi Hi,
    ⟨xs.length, by simp, Nat.zero_le _, fun j hj => absurd hj (Nat.not_lt_zero _), B1, ((k.grow g1).sub h0).rebase g01 (Same.refl _)⟩, ?_⟩
  rintro i m σi Hi ⟨rfl, hi, hj, Bi, ki⟩
  by_cases hlt : i < xs.length
  · refine .inr ⟨wk.go i Hi (ki.g.kb.trans ki.le) (by rw [hlen]; exact hlt), fun σ' H' => bad i = false ∧ ∃ Bn, Kn B1 H0 (Γs (i + 1)) σ' Bn H',
      fun σ' H' hn => ⟨xs.length - (i + 1), by omega, rfl, by omega, fun j hjj => (Nat.lt_or_eq_of_le (Nat.le_of_lt_succ hjj)).elim (hj j) fun e => e ▸ hn.1, hn.2⟩, fun x H' y => ?_⟩
    obtain ⟨d, B2, hd, g2, r2⟩ := wk.yld i Hi x H' Bi ki.g.kb ki.le (by rw [hlen]; exact hlt) y
    rw [List.getElem?_map, List.getElem?_eq_getElem hlt] at hd
    have ed : emb xs[i] = d := Option.some.inj hd
    subst ed
    refine ha i hlt x σi B1 H0 B2 H' _ (ki.grow g2) r2 fun σ' kn _ => ⟨i, hlt, hj, ?_⟩
    cases hbi : bad i with
    | false => exact .inl ⟨rfl, B1, H0, B2, kn, fun σ2 B3 H3 k3 => ⟨rfl, B3, k3⟩⟩
    | true =>
      refine .inr ⟨rfl, B1, H0, B2, kn, ?_⟩
      obtain ⟨dd, hdd⟩ := ho
      rcases hdd with hdd | hdd
      · subst hdd
        exact fun v B3 H3 g3 r3 => q v B3 H3 (g3.unbase g01) r3
      · rw [hdd i hlt] at hbi
        cases hbi
  · have e : i = xs.length := by omega
    subst e
    have st := wk.stop Hi (ki.g.kb.trans ki.le)
    rw [hlen] at st
    exact .inl ⟨st, hj, B0, H0, Bi, ki.unbase g01, q⟩
/-- a loop whose body always goes on -/
theorem s_for {α : Type} {xs : List α} {emb : α → D} {g : TG} {tg iter : Expr} (Γs : Nat → Ctx) (Γb : Nat → Ctx) (hp : PassesOwn (model X.prog X.w) X.A X.env X.xe) (hc : X.calm = true) (hi : PI X tg iter (iG Γ (xs.map emb))) (hg : PG X tg g)
    (ha : ∀ i (hi : i < xs.length), gA g (Γs i) (Γb i) (emb xs[i]) anyW) (hb : ∀ i (hi : i < xs.length), PSs X body (sG (Γb i) (.nx (Γs (i + 1))))) (h0 : subC (Γs 0) Γ) (hr : PSs X rest (sG (Γs xs.length) o))
    (hs : ∀ x, foldedSetIterable iter X.env x = pure x := by intro _; rfl) : PSs X (.For tg iter body [] pos :: rest) (sG Γ o) :=
  s_forR Γs Γb (fun _ => false) hp hc hi hg ha (fun i hi _ _ => hb i hi) (fun i hi _ z => Bool.noConfusion z) h0 (fun _ => hr) ⟨.non, .inr fun _ _ => rfl⟩ hs
/-- while: k turns -/
theorem s_while (Γs : Nat → Ctx) (n : Nat) (hp : PassesOwn (model X.prog X.w) X.A X.env X.xe) (hc : ∀ i ≤ n, PT X c (tB (Γs i) (decide (i < n)))) (hb : ∀ i < n, PSs X body (sG (Γs i) (.nx (Γs (i + 1))))) (h0 : subC (Γs 0) Γ) (hr : PSs X rest (sG (Γs n) o)) :
    PSs X (.While c body [] pos :: rest) (sG Γ o) := by
  have hc' : PT X c (fun σ H Q => ∃ i, i ≤ n ∧ tB (Γs i) (decide (i < n)) σ H Q) := ⟨fun pins s σ H Q I ⟨i, hi, q⟩ => (hc i hi).run pins s σ H Q I q⟩
  have hb' : PSs X body (fun D σ H => ∃ i, i < n ∧ sG (Γs i) (.nx (Γs (i + 1))) D σ H) := ⟨fun pins s σ H D I ⟨i, hi, q⟩ => (hb i hi).run pins s σ H D I q⟩
  refine wkSs (pss_cons (ps_while hp hc' hb') hr) fun D σ H ⟨B0, H0, B, k, q⟩ => ?_
  refine ⟨fun m σi Hi => m ≤ n ∧ ∃ Bi, Kn B0 H0 (Γs (n - m)) σi Bi Hi, ⟨n, Nat.le_refl _, B, by rw [Nat.sub_self]; exact k.sub h0⟩, ?_⟩
  rintro m σi Hi ⟨hm, Bi, ki⟩
  refine ⟨n - m, by omega, B0, H0, Bi, ki, fun B' H' g => ?_⟩
  by_cases h : n - m < n
  · rw [decide_eq_true h]
    refine iteT ⟨fun σ' H' => ∃ Bn, Kn B0 H0 (Γs (n - m + 1)) σ' Bn H', fun σ' H' ⟨Bn, kn⟩ => ⟨m - 1, by omega, by omega, Bn, ?_⟩, n - m, h, B0, H0, B', ki.grow g, fun σ2 B3 H3 k3 => ⟨B3, k3⟩⟩
    have e : n - (m - 1) = n - m + 1 := by omega
    rw [e]
    exact kn
  · rw [decide_eq_false h]
    refine iteF ⟨B0, H0, B', ?_, q⟩
    have e : n - m = n := by omega
    rw [e] at ki
    exact ki.grow g
/-- x -= e, of numbers -/
theorem p_aug {i : Nat} {u v : Int} {op : Operator} {f : Int → Int → Int} (hΓ : Γ[i]? = some (.d (.int u))) (h : PS X st (tAug i (tG Γ (.int v)) (ipI f))) : PS X st (sG Γ (.nx (Γ.set i (.d (.int (f u v)))))) :=
  wkS h fun D σ H ⟨B0, H0, B, k, q⟩ => by
    obtain ⟨w, h1, h2⟩ := k.d i _ hΓ
    refine ⟨w, h1, B0, H0, B, k, fun y B' H' g r => ⟨u, v, h2.v_inv, r.v_inv, q _ B' H' ((k.grow g).setD (.v _))⟩⟩
end
end Ga
/-! Defs and their promises. -/
namespace Ga
open PySem PySem.Spec PyProof.Rows L2 Mi
/-- a def of the text as it stands behind the top -/
structure DefT (K : PySem.W.Frag) (mg : Str → Option Value) (x : Str) (st : Stmt) (ps : List Str) where
  f : Addr
  fd : FuncData
  F : Fun K x x st f fd
  b : Binds K fd ps []
  g : mg x = some (.ref f)
/-- .. a method of the class at C -/
structure MethT (K : PySem.W.Frag) (C : Addr) (x qual : Str) (st : Stmt) (ps : List Str) where
  f : Addr
  fd : FuncData
  F : Fun K x qual st f fd
  b : Binds K fd ps []
  m : Meth K C x f
def ctx0 (N : List Str) (ds : List D) : Ctx := ds.map Sl.d ++ List.replicate (N.length - ds.length) Sl.any
theorem kn_start {N : List Str} {ds : List D} {vs : List V} {B H : Hp} (le : Same B H) (r : RelL B ds vs) : Kn B H (ctx0 N ds) (L2.start N vs) B H where
  g := Grow.refl le
  len := by
    have h := r.len
    simp [ctx0, L2.start, h]
  d := fun i x hx => by
    unfold ctx0 at hx
    by_cases hi : i < ds.length
    · rw [List.getElem?_append_left (by simpa using hi), List.getElem?_map, List.getElem?_eq_getElem hi] at hx
      have e : ds[i] = x := by
        have := Option.some.inj hx
        injection this
      obtain ⟨v, h1, h2⟩ := r.get (List.getElem?_eq_getElem hi)
      refine ⟨v, ?_, e ▸ h2⟩
      unfold L2.start
      have hv : i < vs.length := by rw [← r.len]; exact hi
      rw [List.getElem?_append_left (by simpa using hv), List.getElem?_map, h1]
      rfl
    · rw [List.getElem?_append_right (by simpa using hi), List.getElem?_replicate] at hx
      split at hx
      · cases hx
      · cases hx
  m := fun i es hx => by
    unfold ctx0 at hx
    by_cases hi : i < ds.length
    · rw [List.getElem?_append_left (by simpa using hi), List.getElem?_map, List.getElem?_eq_getElem hi] at hx
      cases hx
    · rw [List.getElem?_append_right (by simpa using hi), List.getElem?_replicate] at hx
      split at hx
      · cases hx
      · cases hx
  sep := fun i j es fs l hx => by
    unfold ctx0 at hx
    by_cases hi : i < ds.length
    · rw [List.getElem?_append_left (by simpa using hi), List.getElem?_map, List.getElem?_eq_getElem hi] at hx
      cases hx
    · rw [List.getElem?_append_right (by simpa using hi), List.getElem?_replicate] at hx
      split at hx
      · cases hx
      · cases hx
section
variable {P : Program} {w : World} {K : PySem.W.Frag} {mg : Str → Option Value} {base : Heap} {x qual : Str} {st : Stmt} {N ps : List Str} {f : Addr} {fd : FuncData} {k : Nat}
abbrev Bx (P : Program) (w : World) (K : PySem.W.Frag) (mg : Str → Option Value) (base : Heap) (N : List Str) (qual : Str) (st : Stmt) (f : Addr) (cdv : Value) (A : Around) (outer : List PySem.Env) (s : Shared) (H : Hp) (E : XK) : Cx := (cxOf CX0 P w K mg base N qual (defScope st) f cdv A outer s H E).nox
theorem fn_rt {R : List D → D → Prop} (F : Fun K x qual st f fd) (S : FnScope N ps (defScope st)) (hl : ∀ ds d, R ds d → ds.length = ps.length)
    (hb : ∀ (cdv : Value) (A : Around) (outer : List PySem.Env) (s : Shared) (H : Hp) (E : XK), Room k (A.deeper (envOfC qual (defScope st) s.heap.objs.size f cdv)) → ∀ ds d, R ds d → PSs (Bx P w K mg base N qual st f cdv A outer s H E) (defBody st) (sG (ctx0 N ds) (.rt d))) :
    FnOk P w K mg base CX0 (k + 1) f fd ps (spF R) := by
  refine F.ok S (fun vs H Q E ⟨B, ds, d, le, r, hR, q⟩ => ?_) (fun cdv A outer s H vs Q E hr ⟨B, ds, d, le, r, hR, q⟩ => ⟨_, hb cdv A outer s H E hr ds d hR, B, H, B, kn_start le r, q⟩)
  rw [← r.len]
  exact hl ds d hR
theorem fn_nx {R : List D → D → Prop} (F : Fun K x qual st f fd) (S : FnScope N ps (defScope st)) (hl : ∀ ds d, R ds d → ds.length = ps.length ∧ d = .non)
    (hb : ∀ (cdv : Value) (A : Around) (outer : List PySem.Env) (s : Shared) (H : Hp) (E : XK), Room k (A.deeper (envOfC qual (defScope st) s.heap.objs.size f cdv)) → ∀ ds d, R ds d → ∃ Γ, PSs (Bx P w K mg base N qual st f cdv A outer s H E) (defBody st) (sG (ctx0 N ds) (.nx Γ))) :
    FnOk P w K mg base CX0 (k + 1) f fd ps (spF R) := by
  refine F.ok S (fun vs H Q E ⟨B, ds, d, le, r, hR, q⟩ => ?_) (fun cdv A outer s H vs Q E hr ⟨B, ds, d, le, r, hR, q⟩ => ?_)
  · rw [← r.len]
    exact (hl ds d hR).1
  · obtain ⟨Γ, h⟩ := hb cdv A outer s H E hr ds d hR
    refine ⟨_, h, B, H, B, kn_start le r, fun σ' B' H' k' => ?_⟩
    have e := (hl ds d hR).2
    subst e
    exact q .non B' H' k'.g (.v _)
end
end Ga
/-! The text by places; what its top leaves. -/
namespace Ga
open PySem PySem.Spec PyProof.Rows L2 Mi
def topS (i : Nat) : Stmt := PySem.Challenge.pw_fewestrules_k83_whole_any_row.main.body.getD i (.Pass ⟨0, 0, 0, 0⟩)
abbrev s_is_whole : Stmt := topS 8
abbrev N_is_whole : List Str := ["value"]
theorem sc_is_whole : FnScope N_is_whole ["value"] (defScope s_is_whole) := ⟨rfl, rfl, rfl, by decide +kernel, rfl, by decide +kernel, by decide +kernel⟩
abbrev s_is_level : Stmt := topS 9
abbrev N_is_level : List Str := ["value"]
theorem sc_is_level : FnScope N_is_level ["value"] (defScope s_is_level) := ⟨rfl, rfl, rfl, by decide +kernel, rfl, by decide +kernel, by decide +kernel⟩
abbrev s_is_letter : Stmt := topS 10
abbrev N_is_letter : List Str := ["value", "sign"]
theorem sc_is_letter : FnScope N_is_letter ["value"] (defScope s_is_letter) := ⟨rfl, rfl, rfl, by decide +kernel, rfl, by decide +kernel, by decide +kernel⟩
abbrev s_are_letters : Stmt := topS 11
abbrev N_are_letters : List Str := ["value", "one"]
theorem sc_are_letters : FnScope N_are_letters ["value"] (defScope s_are_letters) := ⟨rfl, rfl, rfl, by decide +kernel, rfl, by decide +kernel, by decide +kernel⟩
abbrev s_is_order : Stmt := topS 12
abbrev N_is_order : List Str := ["value", "letters", "strengths", "one"]
theorem sc_is_order : FnScope N_is_order ["value"] (defScope s_is_order) := ⟨rfl, rfl, rfl, by decide +kernel, rfl, by decide +kernel, by decide +kernel⟩
abbrev s_removed : Stmt := topS 13
abbrev N_removed : List Str := ["order", "letter", "letters", "strengths", "at", "left"]
theorem sc_removed : FnScope N_removed ["order", "letter"] (defScope s_removed) := ⟨rfl, rfl, rfl, by decide +kernel, rfl, by decide +kernel, by decide +kernel⟩
abbrev s_check_two : Stmt := topS 15
abbrev N_check_two : List Str := ["first", "second"]
theorem sc_check_two : FnScope N_check_two ["first", "second"] (defScope s_check_two) := ⟨rfl, rfl, rfl, by decide +kernel, rfl, by decide +kernel, by decide +kernel⟩
abbrev s_places_of : Stmt := topS 16
abbrev N_places_of : List Str := ["order", "at", "letter"]
theorem sc_places_of : FnScope N_places_of ["order"] (defScope s_places_of) := ⟨rfl, rfl, rfl, by decide +kernel, rfl, by decide +kernel, by decide +kernel⟩
abbrev s_least_between : Stmt := topS 17
abbrev N_least_between : List Str := ["order", "low", "high"]
theorem sc_least_between : FnScope N_least_between ["order", "low", "high"] (defScope s_least_between) := ⟨rfl, rfl, rfl, by decide +kernel, rfl, by decide +kernel, by decide +kernel⟩
abbrev s_Pinit : Stmt := inClass (topS 18) 0
abbrev N_Pinit : List Str := ["self", "first", "second", "at", "letter", "i", "j"]
theorem sc_Pinit : FnScope N_Pinit ["self", "first", "second"] (defScope s_Pinit) := ⟨rfl, rfl, rfl, by decide +kernel, rfl, by decide +kernel, by decide +kernel⟩
abbrev s_Pcan_follow : Stmt := inClass (topS 18) 1
abbrev N_Pcan_follow : List Str := ["self", "i", "j", "low", "high"]
theorem sc_Pcan_follow : FnScope N_Pcan_follow ["self", "i", "j"] (defScope s_Pcan_follow) := ⟨rfl, rfl, rfl, by decide +kernel, rfl, by decide +kernel, by decide +kernel⟩
abbrev s_Plengths : Stmt := inClass (topS 18) 2
abbrev N_Plengths : List Str := ["self", "found", "i", "_", "j"]
theorem sc_Plengths : FnScope N_Plengths ["self"] (defScope s_Plengths) := ⟨rfl, rfl, rfl, by decide +kernel, rfl, by decide +kernel, by decide +kernel⟩
abbrev s_Plevels : Stmt := inClass (topS 18) 3
abbrev N_Plevels : List Str := ["self", "found", "i", "j", "_"]
theorem sc_Plevels : FnScope N_Plevels ["self"] (defScope s_Plevels) := ⟨rfl, rfl, rfl, by decide +kernel, rfl, by decide +kernel, by decide +kernel⟩
abbrev s_longest_in : Stmt := topS 19
abbrev N_longest_in : List Str := ["pairs", "lengths", "found", "left", "choices", "i", "one"]
theorem sc_longest_in : FnScope N_longest_in ["pairs"] (defScope s_longest_in) := ⟨rfl, rfl, rfl, by decide +kernel, rfl, by decide +kernel, by decide +kernel⟩
abbrev s_longest_of : Stmt := topS 20
abbrev N_longest_of : List Str := ["first", "second"]
theorem sc_longest_of : FnScope N_longest_of ["first", "second"] (defScope s_longest_of) := ⟨rfl, rfl, rfl, by decide +kernel, rfl, by decide +kernel, by decide +kernel⟩
abbrev s_levels_of : Stmt := topS 21
abbrev N_levels_of : List Str := ["first", "second", "pairs", "found", "at", "level", "_"]
theorem sc_levels_of : FnScope N_levels_of ["first", "second"] (defScope s_levels_of) := ⟨rfl, rfl, rfl, by decide +kernel, rfl, by decide +kernel, by decide +kernel⟩
abbrev s_levels_for : Stmt := topS 22
abbrev N_levels_for : List Str := ["first", "second"]
theorem sc_levels_for : FnScope N_levels_for ["first", "second"] (defScope s_levels_for) := ⟨rfl, rfl, rfl, by decide +kernel, rfl, by decide +kernel, by decide +kernel⟩
abbrev s_is_integer : Stmt := topS 23
abbrev N_is_integer : List Str := ["value"]
theorem sc_is_integer : FnScope N_is_integer ["value"] (defScope s_is_integer) := ⟨rfl, rfl, rfl, by decide +kernel, rfl, by decide +kernel, by decide +kernel⟩
abbrev s_are_right : Stmt := topS 24
abbrev N_are_right : List Str := ["first", "second", "levels", "pairs", "row", "i", "one", "at", "level", "j"]
theorem sc_are_right : FnScope N_are_right ["first", "second", "levels"] (defScope s_are_right) := ⟨rfl, rfl, rfl, by decide +kernel, rfl, by decide +kernel, by decide +kernel⟩
abbrev s_turned_around : Stmt := topS 26
abbrev N_turned_around : List Str := ["order"]
theorem sc_turned_around : FnScope N_turned_around ["order"] (defScope s_turned_around) := ⟨rfl, rfl, rfl, by decide +kernel, rfl, by decide +kernel, by decide +kernel⟩
abbrev s_put_after : Stmt := topS 27
abbrev N_put_after : List Str := ["order", "anchor", "strength", "letter", "letters", "strengths", "at", "row"]
theorem sc_put_after : FnScope N_put_after ["order", "anchor", "strength", "letter"] (defScope s_put_after) := ⟨rfl, rfl, rfl, by decide +kernel, rfl, by decide +kernel, by decide +kernel⟩
abbrev s_put : Stmt := topS 28
abbrev N_put : List Str := ["order", "rule", "side", "anchor", "strength", "letter"]
theorem sc_put : FnScope N_put ["order", "rule"] (defScope s_put) := ⟨rfl, rfl, rfl, by decide +kernel, rfl, by decide +kernel, by decide +kernel⟩
abbrev s_from_left : Stmt := topS 30
abbrev N_from_left : List Str := ["second", "low", "high", "letters", "strengths", "at"]
theorem sc_from_left : FnScope N_from_left ["second", "low", "high"] (defScope s_from_left) := ⟨rfl, rfl, rfl, by decide +kernel, rfl, by decide +kernel, by decide +kernel⟩
abbrev s_from_right : Stmt := topS 31
abbrev N_from_right : List Str := ["second", "low", "high", "letters", "strengths", "at"]
theorem sc_from_right : FnScope N_from_right ["second", "low", "high"] (defScope s_from_right) := ⟨rfl, rfl, rfl, by decide +kernel, rfl, by decide +kernel, by decide +kernel⟩
abbrev s_gap_rules : Stmt := topS 32
abbrev N_gap_rules : List Str := ["second", "low", "high", "strongest", "cut"]
theorem sc_gap_rules : FnScope N_gap_rules ["second", "low", "high"] (defScope s_gap_rules) := ⟨rfl, rfl, rfl, by decide +kernel, rfl, by decide +kernel, by decide +kernel⟩
abbrev s_keep : Stmt := topS 33
abbrev N_keep : List Str := ["second", "letters", "places", "found", "low", "high", "letter"]
theorem sc_keep : FnScope N_keep ["second", "letters"] (defScope s_keep) := ⟨rfl, rfl, rfl, by decide +kernel, rfl, by decide +kernel, by decide +kernel⟩
abbrev s_rules_of : Stmt := topS 35
abbrev N_rules_of : List Str := ["first", "second"]
theorem sc_rules_of : FnScope N_rules_of ["first", "second"] (defScope s_rules_of) := ⟨rfl, rfl, rfl, by decide +kernel, rfl, by decide +kernel, by decide +kernel⟩
abbrev s_has_letters : Stmt := topS 37
abbrev N_has_letters : List Str := ["value", "letters"]
theorem sc_has_letters : FnScope N_has_letters ["value", "letters"] (defScope s_has_letters) := ⟨rfl, rfl, rfl, by decide +kernel, rfl, by decide +kernel, by decide +kernel⟩
abbrev s_check_alike : Stmt := topS 38
abbrev N_check_alike : List Str := ["value", "order", "name"]
theorem sc_check_alike : FnScope N_check_alike ["value", "order", "name"] (defScope s_check_alike) := ⟨rfl, rfl, rfl, by decide +kernel, rfl, by decide +kernel, by decide +kernel⟩
abbrev s_check_begin : Stmt := topS 39
abbrev N_check_begin : List Str := ["value", "name"]
theorem sc_check_begin : FnScope N_check_begin ["value", "name"] (defScope s_check_begin) := ⟨rfl, rfl, rfl, by decide +kernel, rfl, by decide +kernel, by decide +kernel⟩
abbrev s_is_step : Stmt := topS 41
abbrev N_is_step : List Str := ["first", "second", "letter"]
theorem sc_is_step : FnScope N_is_step ["first", "second"] (defScope s_is_step) := ⟨rfl, rfl, rfl, by decide +kernel, rfl, by decide +kernel, by decide +kernel⟩
abbrev s_way : Stmt := topS 42
abbrev N_way : List Str := ["first", "second", "found", "rule"]
theorem sc_way : FnScope N_way ["first", "second"] (defScope s_way) := ⟨rfl, rfl, rfl, by decide +kernel, rfl, by decide +kernel, by decide +kernel⟩
abbrev s_is_row : Stmt := topS 43
abbrev N_is_row : List Str := ["first", "second", "value", "order", "one", "other"]
theorem sc_is_row : FnScope N_is_row ["first", "second", "value"] (defScope s_is_row) := ⟨rfl, rfl, rfl, by decide +kernel, rfl, by decide +kernel, by decide +kernel⟩
abbrev s_is_shortest_row : Stmt := topS 44
abbrev N_is_shortest_row : List Str := ["first", "second", "row", "levels"]
theorem sc_is_shortest_row : FnScope N_is_shortest_row ["first", "second", "row", "levels"] (defScope s_is_shortest_row) := ⟨rfl, rfl, rfl, by decide +kernel, rfl, by decide +kernel, by decide +kernel⟩
abbrev s_law_stream : Stmt := topS 46
abbrev N_law_stream : List Str := ["_law_script"]
theorem sc_law_stream : FnScope N_law_stream ["_law_script"] (defScope s_law_stream) := ⟨rfl, rfl, rfl, by decide +kernel, rfl, by decide +kernel, by decide +kernel⟩
abbrev s_law_next : Stmt := topS 47
abbrev N_law_next : List Str := ["_law_stream_here", "_law_many", "_law_k", "_law_cell", "_law_digit"]
theorem sc_law_next : FnScope N_law_next ["_law_stream_here", "_law_many"] (defScope s_law_next) := ⟨rfl, rfl, rfl, by decide +kernel, rfl, by decide +kernel, by decide +kernel⟩
abbrev s_law_is_integer : Stmt := topS 48
abbrev N_law_is_integer : List Str := ["_law_actual"]
theorem sc_law_is_integer : FnScope N_law_is_integer ["_law_actual"] (defScope s_law_is_integer) := ⟨rfl, rfl, rfl, by decide +kernel, rfl, by decide +kernel, by decide +kernel⟩
abbrev s_law_equal : Stmt := topS 49
abbrev N_law_equal : List Str := ["_law_actual", "_law_due", "_law_at"]
theorem sc_law_equal : FnScope N_law_equal ["_law_actual", "_law_due"] (defScope s_law_equal) := ⟨rfl, rfl, rfl, by decide +kernel, rfl, by decide +kernel, by decide +kernel⟩
abbrev s_law_names : Stmt := topS 50
abbrev N_law_names : List Str := ["_law_stream_here", "_law_pools"]
theorem sc_law_names : FnScope N_law_names ["_law_stream_here"] (defScope s_law_names) := ⟨rfl, rfl, rfl, by decide +kernel, rfl, by decide +kernel, by decide +kernel⟩
abbrev s_law_shuffled : Stmt := topS 51
abbrev N_law_shuffled : List Str := ["_law_stream_here", "_law_names_here", "_law_left", "_law_found", "_law_k"]
theorem sc_law_shuffled : FnScope N_law_shuffled ["_law_stream_here", "_law_names_here"] (defScope s_law_shuffled) := ⟨rfl, rfl, rfl, by decide +kernel, rfl, by decide +kernel, by decide +kernel⟩
abbrev s_law_order : Stmt := topS 52
abbrev N_law_order : List Str := ["_law_stream_here", "_law_names_here", "_law_weak", "_law_strengths", "_law_k"]
theorem sc_law_order : FnScope N_law_order ["_law_stream_here", "_law_names_here"] (defScope s_law_order) := ⟨rfl, rfl, rfl, by decide +kernel, rfl, by decide +kernel, by decide +kernel⟩
abbrev s_law_difference : Stmt := topS 53
abbrev N_law_difference : List Str := ["_law_order_here", "_law_x", "_law_y", "_law_low", "_law_high"]
theorem sc_law_difference : FnScope N_law_difference ["_law_order_here", "_law_x", "_law_y"] (defScope s_law_difference) := ⟨rfl, rfl, rfl, by decide +kernel, rfl, by decide +kernel, by decide +kernel⟩
abbrev s_law_without : Stmt := topS 54
abbrev N_law_without : List Str := ["_law_order_here", "_law_letter", "_law_letters", "_law_strengths", "_law_one", "_law_k"]
theorem sc_law_without : FnScope N_law_without ["_law_order_here", "_law_letter"] (defScope s_law_without) := ⟨rfl, rfl, rfl, by decide +kernel, rfl, by decide +kernel, by decide +kernel⟩
abbrev s_law_put : Stmt := topS 55
abbrev N_law_put : List Str := ["_law_order_here", "_law_rule_here", "_law_side", "_law_anchor", "_law_strength", "_law_letter", "_law_letters", "_law_at", "_law_place", "_law_strengths"]
theorem sc_law_put : FnScope N_law_put ["_law_order_here", "_law_rule_here"] (defScope s_law_put) := ⟨rfl, rfl, rfl, by decide +kernel, rfl, by decide +kernel, by decide +kernel⟩
abbrev s_law_rule : Stmt := topS 56
abbrev N_law_rule : List Str := ["_law_stream_here", "_law_order_here", "_law_more", "_law_anchor", "_law_others", "_law_letter", "_law_one"]
theorem sc_law_rule : FnScope N_law_rule ["_law_stream_here", "_law_order_here", "_law_more"] (defScope s_law_rule) := ⟨rfl, rfl, rfl, by decide +kernel, rfl, by decide +kernel, by decide +kernel⟩
abbrev s_law_far : Stmt := topS 57
abbrev N_law_far : List Str := ["_law_first", "_law_second", "_law_row", "_law_best", "_law_k", "_law_longest", "_law_j", "_law_x", "_law_y", "_law_one"]
theorem sc_law_far : FnScope N_law_far ["_law_first", "_law_second"] (defScope s_law_far) := ⟨rfl, rfl, rfl, by decide +kernel, rfl, by decide +kernel, by decide +kernel⟩
abbrev s_law_some_path : Stmt := topS 58
abbrev N_law_some_path : List Str := ["_law_stream_here", "_law_most", "_law_long", "_law_names_here", "_law_many", "_law_rows", "_law_turn", "_law_row", "_law_k"]
theorem sc_law_some_path : FnScope N_law_some_path ["_law_stream_here", "_law_most", "_law_long"] (defScope s_law_some_path) := ⟨rfl, rfl, rfl, by decide +kernel, rfl, by decide +kernel, by decide +kernel⟩
abbrev s_law_is_step : Stmt := topS 59
abbrev N_law_is_step : List Str := ["_law_first", "_law_second", "_law_one"]
theorem sc_law_is_step : FnScope N_law_is_step ["_law_first", "_law_second"] (defScope s_law_is_step) := ⟨rfl, rfl, rfl, by decide +kernel, rfl, by decide +kernel, by decide +kernel⟩
abbrev s_law_is_row : Stmt := topS 60
abbrev N_law_is_row : List Str := ["_law_first", "_law_second", "_law_value", "_law_one", "_law_k"]
theorem sc_law_is_row : FnScope N_law_is_row ["_law_first", "_law_second", "_law_value"] (defScope s_law_is_row) := ⟨rfl, rfl, rfl, by decide +kernel, rfl, by decide +kernel, by decide +kernel⟩
abbrev s_law_are_right : Stmt := topS 61
abbrev N_law_are_right : List Str := ["_law_first", "_law_second", "_law_levels", "_law_j", "_law_i", "_law_x", "_law_y", "_law_one"]
theorem sc_law_are_right : FnScope N_law_are_right ["_law_first", "_law_second", "_law_levels"] (defScope s_law_are_right) := ⟨rfl, rfl, rfl, by decide +kernel, rfl, by decide +kernel, by decide +kernel⟩
abbrev s_law_turned : Stmt := topS 62
abbrev N_law_turned : List Str := ["_law_stream_here", "_law_row", "_law_levels", "_law_at", "_law_pick", "_law_other", "_law_here", "_law_one"]
theorem sc_law_turned : FnScope N_law_turned ["_law_stream_here", "_law_row", "_law_levels"] (defScope s_law_turned) := ⟨rfl, rfl, rfl, by decide +kernel, rfl, by decide +kernel, by decide +kernel⟩
abbrev s_law : Stmt := topS 63
abbrev N_law : List Str := ["_law_script", "_law_stream_here", "_law_orders", "_law_first", "_law_second", "_law_row", "_law_levels", "_law_value", "_law_told", "_law_due", "_law_far_here", "_law_one"]
theorem sc_law : FnScope N_law ["_law_script"] (defScope s_law) := ⟨rfl, rfl, rfl, by decide +kernel, rfl, by decide +kernel, by decide +kernel⟩
structure Top (K : PySem.W.Frag) (mg : Str → Option Value) where
  d_is_whole : DefT K mg "is_whole" s_is_whole ["value"]
  d_is_level : DefT K mg "is_level" s_is_level ["value"]
  d_is_letter : DefT K mg "is_letter" s_is_letter ["value"]
  d_are_letters : DefT K mg "are_letters" s_are_letters ["value"]
  d_is_order : DefT K mg "is_order" s_is_order ["value"]
  d_removed : DefT K mg "removed" s_removed ["order", "letter"]
  d_check_two : DefT K mg "check_two" s_check_two ["first", "second"]
  d_places_of : DefT K mg "places_of" s_places_of ["order"]
  d_least_between : DefT K mg "least_between" s_least_between ["order", "low", "high"]
  d_longest_in : DefT K mg "longest_in" s_longest_in ["pairs"]
  d_longest_of : DefT K mg "longest_of" s_longest_of ["first", "second"]
  d_levels_of : DefT K mg "levels_of" s_levels_of ["first", "second"]
  d_levels_for : DefT K mg "levels_for" s_levels_for ["first", "second"]
  d_is_integer : DefT K mg "is_integer" s_is_integer ["value"]
  d_are_right : DefT K mg "are_right" s_are_right ["first", "second", "levels"]
  d_turned_around : DefT K mg "turned_around" s_turned_around ["order"]
  d_put_after : DefT K mg "put_after" s_put_after ["order", "anchor", "strength", "letter"]
  d_put : DefT K mg "put" s_put ["order", "rule"]
  d_from_left : DefT K mg "from_left" s_from_left ["second", "low", "high"]
  d_from_right : DefT K mg "from_right" s_from_right ["second", "low", "high"]
  d_gap_rules : DefT K mg "gap_rules" s_gap_rules ["second", "low", "high"]
  d_keep : DefT K mg "keep" s_keep ["second", "letters"]
  d_rules_of : DefT K mg "rules_of" s_rules_of ["first", "second"]
  d_has_letters : DefT K mg "has_letters" s_has_letters ["value", "letters"]
  d_check_alike : DefT K mg "check_alike" s_check_alike ["value", "order", "name"]
  d_check_begin : DefT K mg "check_begin" s_check_begin ["value", "name"]
  d_is_step : DefT K mg "is_step" s_is_step ["first", "second"]
  d_way : DefT K mg "way" s_way ["first", "second"]
  d_is_row : DefT K mg "is_row" s_is_row ["first", "second", "value"]
  d_is_shortest_row : DefT K mg "is_shortest_row" s_is_shortest_row ["first", "second", "row", "levels"]
  d_law_stream : DefT K mg "_law_stream" s_law_stream ["_law_script"]
  d_law_next : DefT K mg "_law_next" s_law_next ["_law_stream_here", "_law_many"]
  d_law_is_integer : DefT K mg "_law_is_integer" s_law_is_integer ["_law_actual"]
  d_law_equal : DefT K mg "_law_equal" s_law_equal ["_law_actual", "_law_due"]
  d_law_names : DefT K mg "_law_names" s_law_names ["_law_stream_here"]
  d_law_shuffled : DefT K mg "_law_shuffled" s_law_shuffled ["_law_stream_here", "_law_names_here"]
  d_law_order : DefT K mg "_law_order" s_law_order ["_law_stream_here", "_law_names_here"]
  d_law_difference : DefT K mg "_law_difference" s_law_difference ["_law_order_here", "_law_x", "_law_y"]
  d_law_without : DefT K mg "_law_without" s_law_without ["_law_order_here", "_law_letter"]
  d_law_put : DefT K mg "_law_put" s_law_put ["_law_order_here", "_law_rule_here"]
  d_law_rule : DefT K mg "_law_rule" s_law_rule ["_law_stream_here", "_law_order_here", "_law_more"]
  d_law_far : DefT K mg "_law_far" s_law_far ["_law_first", "_law_second"]
  d_law_some_path : DefT K mg "_law_some_path" s_law_some_path ["_law_stream_here", "_law_most", "_law_long"]
  d_law_is_step : DefT K mg "_law_is_step" s_law_is_step ["_law_first", "_law_second"]
  d_law_is_row : DefT K mg "_law_is_row" s_law_is_row ["_law_first", "_law_second", "_law_value"]
  d_law_are_right : DefT K mg "_law_are_right" s_law_are_right ["_law_first", "_law_second", "_law_levels"]
  d_law_turned : DefT K mg "_law_turned" s_law_turned ["_law_stream_here", "_law_row", "_law_levels"]
  d_law : DefT K mg "law" s_law ["_law_script"]
  C : Addr
  gC : mg "Pairs" = some (.ref C)
  cl : Cls K C
  m_init : MethT K C "__init__" "Pairs.__init__" s_Pinit ["self", "first", "second"]
  m_can_follow : MethT K C "can_follow" "Pairs.can_follow" s_Pcan_follow ["self", "i", "j"]
  m_lengths : MethT K C "lengths" "Pairs.lengths" s_Plengths ["self"]
  m_levels : MethT K C "levels" "Pairs.levels" s_Plevels ["self"]
  mkC : Mk K C m_init.f
  na_places : NoAttr K C "places"
  na_first : NoAttr K C "first"
  na_second : NoAttr K C "second"
  na_own : NoAttr K C "own"
  na_letters : NoAttr K C "letters"
  na_many : NoAttr K C "many"
  na_links : NoAttr K C "links"
  c_CHARACTERS : ∃ t, mg "CHARACTERS" = some (.str "abcdefghijklmnopqrstuvwxyz" t)
  c_DIGITS : ∃ t, mg "DIGITS" = some (.str "0123456789" t)
  c_LONGEST : ∃ t, mg "LONGEST" = some (.int 12 t)
  c_MOST : ∃ t, mg "MOST" = some (.int 12 t)
  z_isinstance : mg "isinstance" = none
  z_int : mg "int" = none
  z_bool : mg "bool" = none
  z_str : mg "str" = none
  z_tuple : mg "tuple" = none
  z_list : mg "list" = none
  z_len : mg "len" = none
  z_all : mg "all" = none
  z_any : mg "any" = none
  z_max : mg "max" = none
  z_min : mg "min" = none
  z_enumerate : mg "enumerate" = none
  z_zip : mg "zip" = none
  z_range : mg "range" = none
  z_sorted : mg "sorted" = none
  z_abs : mg "abs" = none
end Ga
/-! Small facts for the walks. -/
namespace Ga
open PySem PySem.Spec PyProof.Rows L2 Mi
section
variable {α β : Type}
theorem cut_to (xs : List α) (k : Nat) : cut xs none (some (k : Int)) = xs.take k := by
  unfold cut
  rw [HT.sIx_none, HT.sIx_nat]
  simp only [List.drop_zero, Nat.sub_zero]
  by_cases h : k ≤ xs.length
  · rw [Nat.min_eq_left h]
  · rw [Nat.min_eq_right (by omega), List.take_of_length_le (Nat.le_refl _), List.take_of_length_le (by omega)]
theorem cut_from (xs : List α) (k : Nat) : cut xs (some (k : Int)) none = xs.drop k := by
  unfold cut
  rw [HT.sIx_none, HT.sIx_nat]
  by_cases h : k ≤ xs.length
  · rw [Nat.min_eq_left h]
    exact List.take_of_length_le (by rw [List.length_drop]; omega)
  · rw [Nat.min_eq_right (by omega), List.drop_of_length_le (Nat.le_refl _), List.drop_of_length_le (by omega)]
    simp
theorem cut_mid (xs : List α) (a b : Nat) : cut xs (some (a : Int)) (some (b : Int)) = (xs.drop a).take (b - a) := by
  unfold cut
  rw [HT.sIx_nat, HT.sIx_nat]
  by_cases h : a ≤ xs.length
  · rw [Nat.min_eq_left h]
    by_cases hb : b ≤ xs.length
    · rw [Nat.min_eq_left hb]
    · rw [Nat.min_eq_right (by omega), List.take_of_length_le (by rw [List.length_drop]; omega), List.take_of_length_le (by rw [List.length_drop]; omega)]
  · rw [Nat.min_eq_right (show xs.length ≤ a by omega), List.drop_of_length_le (Nat.le_refl _), List.drop_of_length_le (show xs.length ≤ a by omega)]
    simp
theorem cut_init (xs : List α) : cut xs none (some (-1)) = xs.dropLast := by
  unfold cut
  rw [HT.sIx_none]
  show ((xs.drop 0).take ((if (-1 : Int) < 0 then ((-1 : Int) + (xs.length : Int)).toNat else min (-1 : Int).toNat xs.length) - 0)) = _
  rw [if_pos (by decide), List.drop_zero, Nat.sub_zero, List.dropLast_eq_take]
  congr 1
  omega
theorem cut_1 (xs : List α) : cut xs (some 1) none = xs.drop 1 := cut_from xs 1
theorem at_map {f : α → β} {ls : List α} {i : Nat} {x : α} (h : ls[i]? = some x) : atI (ls.map f) (i : Int) = some (f x) := atI_nat (by rw [List.getElem?_map, h]; rfl)
theorem at_mapD {f : α → β} {ls : List α} {i : Nat} {z : Int} (d : α) (hz : z = (i : Int)) (h : i < ls.length) : atI (ls.map f) z = some (f (ls.getD i d)) := by
  subst hz
  refine at_map ?_
  rw [List.getElem?_eq_getElem h, List.getD_eq_getElem?_getD, List.getElem?_eq_getElem h]
  rfl
theorem at_last {f : α → β} {ls : List α} {x : α} (h : ls.getLast? = some x) : atI (ls.map f) (-1) = some (f x) := by
  obtain ⟨ys, rfl⟩ := List.getLast?_eq_some_iff.mp h
  rw [List.map_append]
  exact atI_last _ _
end
theorem hw1 {Γ : Ctx} {x : Str} {j : Nat} (h : Γ[j]? = some .any) : ∀ i ∈ ([(x, j)] : List (Str × Nat)).map (·.2), Γ[i]? = some .any ∨ Γ[i]? = none := by
  intro i hi
  have e : i = j := by simpa using hi
  exact .inl (e ▸ h)
theorem hw2 {Γ : Ctx} {x y : Str} {j k : Nat} (h : Γ[j]? = some .any) (h2 : Γ[k]? = some .any) : ∀ i ∈ ([(x, j), (y, k)] : List (Str × Nat)).map (·.2), Γ[i]? = some .any ∨ Γ[i]? = none := by
  intro i hi
  have e : i = j ∨ i = k := by simpa using hi
  rcases e with e | e
  · exact .inl (e ▸ h)
  · exact .inl (e ▸ h2)
/-! ### letters, orders -/
def CH : List Nat := ("abcdefghijklmnopqrstuvwxyz" : Str).cps.toList
def DG : List Nat := ("0123456789" : Str).cps.toList
def okL (s : Str) : Bool := decide (1 ≤ s.length) && decide (s.length ≤ 12) && (match s.cps.toList with | c :: _ => decide (c ∈ CH) | [] => false) && s.cps.toList.all fun c => decide (c ∈ CH) || decide (c ∈ DG)
abbrev Ord := Od Str
abbrev ordD (o : Ord) : D := .tup [tS o.1, tI o.2]
structure V0 (o : Ord) : Prop where
  nd : o.1.Nodup
  ok : ∀ x ∈ o.1, okL x = true
  le : o.1.length ≤ 12
  one : 1 ≤ o.1.length
  ln : o.2.length + 1 = o.1.length
  st : ∀ s ∈ o.2, 1 ≤ s ∧ s ≤ 3
theorem V0.ne {o : Ord} (v : V0 o) : o.1 ≠ [] := fun h => by
  have := v.one
  rw [h] at this
  simp at this
end Ga
/-! orders.py -/
namespace Ga
open PySem PySem.Spec PyProof.Rows L2 Mi
section
variable {P : Program} {w : World} {K : PySem.W.Frag} {mg : Str → Option Value} {base : Heap}
def R_is_whole : List D → D → Prop := fun ds d => ∃ i : Int, ds = [.int i] ∧ d = .bl true
theorem ok_is_whole (T : Top K mg) : FnOk P w K mg base CX0 1 T.d_is_whole.f T.d_is_whole.fd ["value"] (spF R_is_whole) := by
  refine fn_rt T.d_is_whole.F sc_is_whole (fun ds d ⟨i, h, _⟩ => by subst h; rfl) (fun cdv A outer s H E hr ds d hR => ?_)
  obtain ⟨i, rfl, rfl⟩ := hR
  exact s_ret (p_ret (isD_eq (g_and (g_isi kk_ii rfl (by decide) (by rfl) T.z_isinstance (g_var rfl (pv 0)) (pe_bltn (v := .ty "int") (by rfl) T.z_int (by decide +kernel) rfl))
    (fun _ => g_one (g_not (g_isi kk_ib rfl (by decide) (by rfl) T.z_isinstance (g_var rfl (pv 0)) (pe_bltn (v := .ty "bool") (by rfl) T.z_bool (by decide +kernel) rfl))))) rfl))
def R_is_level : List D → D → Prop := fun ds d => ∃ i : Int, ds = [.int i] ∧ (1 ≤ i ∧ i ≤ 3) ∧ d = .bl true
theorem ok_is_level (T : Top K mg) : FnOk P w K mg base CX0 2 T.d_is_level.f T.d_is_level.fd ["value"] (spF R_is_level) := by
  refine fn_rt T.d_is_level.F sc_is_level (fun ds d ⟨i, h, _⟩ => by subst h; rfl) (fun cdv A outer s H E hr ds d hR => ?_)
  obtain ⟨i, rfl, hi, rfl⟩ := hR
  refine (s_ret (p_ret (isD_eq (g_and (g_call (pe_call (ok_is_whole T) (hr.mono (by decide)) (by rfl) T.d_is_whole.g T.d_is_whole.F.kp T.d_is_whole.b .nil pass0 (ga_cons (g_var rfl (pv 0)) ga_nil)) ⟨i, rfl, rfl⟩) (fun h1 => (g_one (g_chain rfl g_int (g_var rfl (pv 0)) g_int)))) ?_)))
  simp [D.bl, hi.1, hi.2]
def R_is_letter : List D → D → Prop := fun ds d => ∃ s : Str, ds = [.str s] ∧ okL s = true ∧ d = .bl true
theorem ok_is_letter (T : Top K mg) : FnOk P w K mg base CX0 1 T.d_is_letter.f T.d_is_letter.fd ["value"] (spF R_is_letter) := by
  refine fn_rt T.d_is_letter.F sc_is_letter (fun ds d ⟨i, h, _⟩ => by subst h; rfl) (fun cdv A outer s H E hr ds d hR => ?_)
  obtain ⟨z, rfl, hz, rfl⟩ := hR
  simp only [okL, Bool.and_eq_true, decide_eq_true_eq] at hz
  obtain ⟨⟨⟨h1, h2⟩, h3⟩, h4⟩ := hz
  have hl : z.length ≤ sizeLine := Nat.le_of_lt (small1000 (by omega))
  obtain ⟨c, r, hc⟩ : ∃ c r, z.cps.toList = c :: r := by
    cases hq : z.cps.toList with
    | nil =>
      rw [hq] at h3
      cases h3
    | cons c r => exact ⟨c, r, rfl⟩
  rw [hc] at h3
  have h3 : c ∈ CH := of_decide_eq_true h3
  have h5 : (1 : Int) ≤ (z.length : Int) := by omega
  have h6 : (z.length : Int) ≤ 12 := by omega
  have a1 : z.length ≤ 1000 := by omega
  refine (s_if (gt_w (gw_or (gt_not (gt_val (g_isi kk_ss rfl (by decide) (by rfl) T.z_isinstance (g_var rfl (pv 0)) (pe_bltn (v := .ty "str") (by rfl) T.z_str (by decide +kernel) rfl)))) (fun h2 => (gw_or (gt_not (gt_chain rfl g_int (g_lenS hl (by rfl) T.z_len (g_var rfl (pv 0))) (g_con (pe_glob (by rfl) T.c_LONGEST.choose_spec ⟨_, rfl⟩)))) (fun h1 => (gw_or1 (Cmp.t (g_ninS (by rfl) (g_ixS (x := c) hl ?g1 (g_var rfl (pv 0)) g_int (fun _ _ => rfl)) (g_con (pe_glob (by rfl) T.c_CHARACTERS.choose_spec ⟨_, rfl⟩)))))))))) (fun h => ?g2) (fun h =>
    (s_ret (p_ret (isD_eq (g_allC rfl (by rfl) T.z_all (g_nl (g_lc (fun x => D.bl (decide (x ∈ CH) || decide (x ∈ DG))) rfl sc_is_letter.nd (gi_str (g_var rfl (pv 0))) (blkOk_by (own := [("sign", 1)]) (N := N_is_letter) (sc := defScope s_is_letter) (by decide +kernel)) (fun _ _ _ _ _ => pg_name (i := 1) sc_is_letter.nd rfl (Or.inl rfl)) (fun x hx => ga_nameW (by simp)) (fun _ _ _ _ _ x hx => (g_or (Cmp.v (g_inS (by rfl) (g_var rfl (pv 1)) (g_con (pe_glob (by rfl) T.c_CHARACTERS.choose_spec ⟨_, rfl⟩)))) (fun h3 => (g_one (Cmp.v (g_inS (by rfl) (g_var rfl (pv 1)) (g_con (pe_glob (by rfl) T.c_DIGITS.choose_spec ⟨_, rfl⟩)))))))) (hw1 rfl) ?g4))) ?g5)))))
  case g1 =>
    rw [hc]
    exact atI_nat (j := 0) rfl
  case g2 =>
    exfalso
    have hcc : c ∈ ("abcdefghijklmnopqrstuvwxyz" : Str).cps.toList := h3
    simp [h5, h6, hcc] at h
  case g4 =>
    have e : z.cps.toList.length = z.length := by simp [Str.length]
    rw [e]
    exact a1
  case g5 => rw [h4]
end
end Ga
/-! orders.py, the rest -/
namespace Ga
open PySem PySem.Spec PyProof.Rows L2 Mi
theorem all_map_bl {α : Type} {xs : List α} {f : α → Bool} (h : ∀ x ∈ xs, f x = true) : xs.all f = true := List.all_eq_true.mpr h
theorem cut_len {α : Type} (xs : List α) (a b : Option Int) : (cut xs a b).length ≤ xs.length := by
  unfold cut
  rw [List.length_take, List.length_drop]
  omega
theorem cut_len1 {α β : Type} {f : α → β} (xs : List α) (a b c d : Option Int) (h : xs.length ≤ 400) : (cut (xs.map f) a b).length + (cut (xs.map f) c d).length ≤ 1000 := by
  have h1 := cut_len (xs.map f) a b
  have h2 := cut_len (xs.map f) c d
  rw [List.length_map] at h1 h2
  omega
theorem cut_fromI {α : Type} (xs : List α) {z : Int} (k : Nat) (h : z = (k : Int)) : cut xs (some z) none = xs.drop k := h ▸ cut_from xs k
theorem cut_toI {α : Type} (xs : List α) {z : Int} (k : Nat) (h : z = (k : Int)) : cut xs none (some z) = xs.take k := h ▸ cut_to xs k
theorem cut_midI {α : Type} (xs : List α) {y z : Int} (a b : Nat) (h : y = (a : Int)) (h' : z = (b : Int)) : cut xs (some y) (some z) = (xs.drop a).take (b - a) := by
  subst h h'
  exact cut_mid xs a b
section
variable {X : Cx} {Γ : Ctx} {a b : Expr} {rest : List Expr} {x : Bool} {pos : Pos}
theorem gw_orT (h : PT X a (tB Γ x)) (hx : x = true) : PW X (.BoolOp .Or (a :: b :: rest) pos) (tB Γ true) := by
  subst hx
  exact wkW (pw_or h noW) fun σ H Q ⟨B0, H0, B, k, q⟩ => ⟨B0, H0, B, k, fun B' H' g => iteT (q B' H' g)⟩
theorem gw_andF (h : PT X a (tB Γ x)) (hx : x = false) : PW X (.BoolOp .And (a :: b :: rest) pos) (tB Γ false) := by
  subst hx
  exact wkW (pw_and h noW) fun σ H Q ⟨B0, H0, B, k, q⟩ => ⟨B0, H0, B, k, fun B' H' g => iteF (q B' H' g)⟩
theorem g_andF (h : PE X a (tG Γ (.bl x))) (hx : x = false) : PE X (.BoolOp .And (a :: b :: rest) pos) (tG Γ (.bl false)) := by
  subst hx
  exact wkE (pe_and h noE) fun σ H Q ⟨B0, H0, B, k, q⟩ => ⟨B0, H0, B, k, fun v B' H' g r => ⟨false, r.v_inv, iteF (q _ B' H' g (.v _))⟩⟩
theorem g_orT (h : PE X a (tG Γ (.bl x))) (hx : x = true) : PE X (.BoolOp .Or (a :: b :: rest) pos) (tG Γ (.bl true)) := by
  subst hx
  exact wkE (pe_or h noE) fun σ H Q ⟨B0, H0, B, k, q⟩ => ⟨B0, H0, B, k, fun v B' H' g r => ⟨true, r.v_inv, iteT (q _ B' H' g (.v _))⟩⟩
/-- if c: return, where c holds -/
theorem s_ifT {c : Expr} {body rest : List Stmt} {d : D} (hc : PT X c (tB Γ x)) (hx : x = true) (h1 : PSs X body (sG Γ (.rt d))) : PSs X (.If c body [] pos :: rest) (sG Γ (.rt d)) :=
  s_if hc (fun _ => h1) fun h => by rw [hx] at h; cases h
theorem s_ifF {c : Expr} {body rest : List Stmt} {o : Out} (hc : PT X c (tB Γ x)) (hx : x = false) (h1 : PSs X rest (sG Γ o)) : PSs X (.If c body [] pos :: rest) (sG Γ o) := by
  subst hx
  exact wkSs (pss_cons (ps_if hc pss_never pss_nil) h1) fun D σ H ⟨B0, H0, B, k, q⟩ => ⟨B0, H0, B, k, fun B' H' g => iteF ⟨B0, H0, B', k.grow g, q⟩⟩
end
section
variable {P : Program} {w : World} {K : PySem.W.Frag} {mg : Str → Option Value} {base : Heap}
def R_are_letters : List D → D → Prop := fun ds d => ∃ ls : List Str, ds = [tS ls] ∧ ls.Nodup ∧ (∀ x ∈ ls, okL x = true) ∧ ls.length ≤ 12 ∧ d = .bl true
theorem ok_are_letters (T : Top K mg) : FnOk P w K mg base CX0 2 T.d_are_letters.f T.d_are_letters.fd ["value"] (spF R_are_letters) := by
  refine fn_rt T.d_are_letters.F sc_are_letters (fun ds d ⟨i, h, _⟩ => by subst h; rfl) (fun cdv A outer s H E hr ds d hR => ?_)
  obtain ⟨ls, rfl, hn, hk, hl, rfl⟩ := hR
  have hl' : ((ls.map D.str).length : Int) ≤ 12 := by
    rw [List.length_map]
    omega
  refine (s_if (gt_w (gw_or (gt_not (gt_val (g_isi kk_tt rfl (by decide) (by rfl) T.z_isinstance (g_var rfl (pv 0)) (pe_bltn (v := .ty "tuple") (by rfl) T.z_tuple (by decide +kernel) rfl)))) (fun h2 => (gw_or (Cmp.t (g_gt (g_lenT (by rfl) T.z_len (g_var rfl (pv 0))) (g_con (pe_glob (by rfl) T.c_MOST.choose_spec ⟨_, rfl⟩)))) (fun h1 => (gw_or1 (gt_not (gt_val (g_allC rfl (by rfl) T.z_all (g_nl (g_lc (fun x => D.bl true) rfl sc_are_letters.nd (gi_tup (g_var rfl (pv 0))) (blkOk_by (own := [("one", 1)]) (N := N_are_letters) (sc := defScope s_are_letters) (by decide +kernel)) (fun _ _ _ _ _ => pg_name (i := 1) sc_are_letters.nd rfl (Or.inl rfl)) (fun x hx => ga_nameW (by simp)) (fun _ _ _ _ _ x hx => (g_call (pe_call (ok_is_letter T) (hr.mono (by decide)) (by rfl) T.d_is_letter.g T.d_is_letter.F.kp T.d_is_letter.b .nil pass0 (ga_cons (g_var rfl (pv 1)) ga_nil)) ⟨x, rfl, hk x hx, rfl⟩)) (hw1 rfl) (by omega)))))))))))) (fun h => ?g3) (fun h => 
    (s_ret (p_ret (isD_eq (g_allC rfl (by rfl) T.z_all (g_nl (g_lc (fun x => D.bl (decide ((ls.count x : Int) = 1))) rfl sc_are_letters.nd (gi_tup (g_var rfl (pv 0))) (blkOk_by (own := [("one", 1)]) (N := N_are_letters) (sc := defScope s_are_letters) (by decide +kernel)) (fun _ _ _ _ _ => pg_name (i := 1) sc_are_letters.nd rfl (Or.inl rfl)) (fun x hx => ga_nameW (by simp)) (fun _ _ _ _ _ x hx => (Cmp.v (g_eqI (g_tct (pe_tm PySem.F.slot_tuple_count PySem.F.type_tuple_count mt_tct (g_var rfl (pv 0)) (ga_cons (g_var rfl (pv 1)) ga_nil))) g_int))) (hw1 rfl) (by omega)))) ?g5)))))
  case g3 =>
    exfalso
    have : ¬ ((12 : Int) < ((ls.map D.str).length : Int)) := by omega
    simp [this] at h
    omega
  case g5 =>
    rw [all_map_bl]
    intro x hx
    rw [hn.count, if_pos hx]
    rfl
/-- an order, or None -/
def R_is_order : List D → D → Prop := fun ds d => (∃ o : Ord, ds = [ordD o] ∧ V0 o ∧ d = .bl true) ∨ (ds = [.non] ∧ d = .bl false)
theorem ok_is_order (T : Top K mg) : FnOk P w K mg base CX0 3 T.d_is_order.f T.d_is_order.fd ["value"] (spF R_is_order) := by
  refine fn_rt T.d_is_order.F sc_is_order (fun ds d h => by rcases h with ⟨i, h, _⟩ | ⟨h, _⟩ <;> subst h <;> rfl) (fun cdv A outer s H E hr ds d hR => ?_)
  rcases hR with ⟨o, rfl, vo, rfl⟩ | ⟨rfl, rfl⟩
  · have hn := vo.ln
    have hz := vo.le
    refine (s_if (gt_w (gw_or (gt_not (gt_val (g_isi kk_tt rfl (by decide) (by rfl) T.z_isinstance (g_var rfl (pv 0)) (pe_bltn (v := .ty "tuple") (by rfl) T.z_tuple (by decide +kernel) rfl)))) (fun h2 => (gw_or (Cmp.t (g_neI (g_lenT (by rfl) T.z_len (g_var rfl (pv 0))) g_int)) (fun h1 => (gw_or1 (gt_not (gt_val (g_call (pe_call (ok_are_letters T) (hr.mono (by decide)) (by rfl) T.d_are_letters.g T.d_are_letters.F.kp T.d_are_letters.b .nil pass0 (ga_cons (g_ixT rfl (g_var rfl (pv 0)) g_int (fun _ _ => rfl)) ga_nil)) ⟨o.1, rfl, vo.nd, vo.ok, vo.le, rfl⟩))))))))) (fun h => ?g2) (fun h => 
    (s_cons (p_unp (g_var rfl (pv 0)) (pg_tup rfl (pgs_cons (pg_name (i := 1) sc_is_order.nd rfl (Or.inl rfl)) (pgs_cons (pg_name (i := 2) sc_is_order.nd rfl (Or.inl rfl)) pgs_nil))) ga_tup2) 
    (s_if (gt_w (gw_or (gt_not (gt_val (g_isi kk_tt rfl (by decide) (by rfl) T.z_isinstance (g_var rfl (pv 2)) (pe_bltn (v := .ty "tuple") (by rfl) T.z_tuple (by decide +kernel) rfl)))) (fun h3 => (gw_or1 (Cmp.t (g_neI (g_lenT (by rfl) T.z_len (g_var rfl (pv 2))) (g_max2 rfl (by rfl) T.z_max g_int (g_sub (g_lenT (by rfl) T.z_len (g_var rfl (pv 1))) g_int)))))))) (fun h => ?g3) (fun h => 
    (s_ret (p_ret (isD_eq (g_allC rfl (by rfl) T.z_all (g_nl (g_lc (fun x => D.bl true) rfl sc_is_order.nd (gi_tup (g_var rfl (pv 2))) (blkOk_by (own := [("one", 3)]) (N := N_is_order) (sc := defScope s_is_order) (by decide +kernel)) (fun _ _ _ _ _ => pg_name (i := 3) sc_is_order.nd rfl (Or.inl rfl)) (fun x hx => ga_nameW (by simp)) (fun _ _ _ _ _ x hx => (g_call (pe_call (ok_is_level T) (hr.mono (by decide)) (by rfl) T.d_is_level.g T.d_is_level.F.kp T.d_is_level.b .nil pass0 (ga_cons (g_var rfl (pv 3)) ga_nil)) ⟨x, rfl, vo.st x hx, rfl⟩)) (hw1 rfl) (by omega)))) ?g6))))))))
    case g2 => simp at h
    case g3 =>
      exfalso
      simp at h
      omega
    case g6 => simp
  · exact s_if (gt_w (gw_orT (gt_not (gt_val (g_isi kk_nt rfl (by decide) (by rfl) T.z_isinstance (g_var rfl (pv 0)) (pe_bltn (v := .ty "tuple") (by rfl) T.z_tuple (by decide +kernel) rfl)))) rfl)) (fun h => (s_ret (p_ret (isD_eq g_bl rfl)))) (fun h => Bool.noConfusion h)
/-- an order's lengths -/
structure Wo (o : Ord) : Prop where
  ln : o.2.length + 1 = o.1.length
  le : o.1.length ≤ 12
theorem V0.wo {o : Ord} (v : V0 o) : Wo o := ⟨v.ln, v.le⟩
def R_removed : List D → D → Prop := fun ds d => ∃ (o : Ord) (x : Str), ds = [ordD o, .str x] ∧ Wo o ∧ x ∈ o.1 ∧ d = ordD (rem o x)
theorem ok_removed (T : Top K mg) : FnOk P w K mg base CX0 1 T.d_removed.f T.d_removed.fd ["order", "letter"] (spF R_removed) := by
  refine fn_rt T.d_removed.F sc_removed (fun ds d ⟨o, x, h, _⟩ => by subst h; rfl) (fun cdv A outer s H E hr ds d hR => ?_)
  obtain ⟨o, x, rfl, vo, hx, rfl⟩ := hR
  have hn := vo.ln
  have hz := vo.le
  have hi : o.1.idxOf x < o.1.length := List.idxOf_lt_length_of_mem hx
  refine (s_cons (p_unp (g_var rfl (pv 0)) (pg_tup rfl (pgs_cons (pg_name (i := 2) sc_removed.nd rfl (Or.inl rfl)) (pgs_cons (pg_name (i := 3) sc_removed.nd rfl (Or.inl rfl)) pgs_nil))) ga_tup2) 
    (s_cons (p_asg (i := 4) sc_removed.nd rfl (Or.inl rfl) (g_tixS (pe_tm PySem.F.slot_tuple_index PySem.F.type_tuple_index mt_tix (g_var rfl (pv 2)) (ga_cons (g_var rfl (pv 1)) ga_nil)) hx)) 
    (s_cons (p_asg (i := 5) sc_removed.nd rfl (Or.inl rfl) (isD_eq (d1 := tS (rem o x).1) (g_catT (cut_len1 _ _ _ _ _ (by omega)) (g_slT (g_var rfl (pv 2)) g_o0 (g_o1 (g_var rfl (pv 4)))) (g_slT (g_var rfl (pv 2)) (g_o1 (g_add (g_var rfl (pv 4)) g_int)) g_o0)) ?e1)) 
    (s_if (Cmp.t (g_eqI (g_var rfl (pv 4)) g_int)) (fun h => (s_ret (p_ret (isD_eq (g_tup (ga_cons (g_var rfl (pv 5)) (ga_cons (g_slT (g_var rfl (pv 3)) (g_o1 g_int) g_o0) ga_nil)) (by simp)) ?g3)))) (fun h1 => 
    (s_if (Cmp.t (g_eqI (g_var rfl (pv 4)) (g_sub (g_lenT (by rfl) T.z_len (g_var rfl (pv 2))) g_int))) (fun h => (s_ret (p_ret (isD_eq (g_tup (ga_cons (g_var rfl (pv 5)) (ga_cons (g_slT (g_var rfl (pv 3)) g_o0 (g_o1 (g_neg g_int))) ga_nil)) (by simp)) ?g4)))) (fun h => 
    (s_ret (p_ret (isD_eq (g_tup (ga_cons (g_var rfl (pv 5)) (ga_cons (g_catT ?g5 (g_catT ?g6 (g_slT (g_var rfl (pv 3)) g_o0 (g_o1 (g_sub (g_var rfl (pv 4)) g_int))) (g_tup (ga_cons (g_min2 rfl (by rfl) T.z_min (g_ixT (at_mapD 0 (show ((o.1.idxOf x : Nat) : Int) - 1 = ((o.1.idxOf x - 1 : Nat) : Int) by simp at h1; omega) (by simp at h h1; omega)) (g_var rfl (pv 3)) (g_sub (g_var rfl (pv 4)) g_int) (fun _ _ => rfl)) (g_ixT (at_mapD 0 rfl (by simp at h; omega)) (g_var rfl (pv 3)) (g_var rfl (pv 4)) (fun _ _ => rfl))) ga_nil) (by simp))) (g_slT (g_var rfl (pv 3)) (g_o1 (g_add (g_var rfl (pv 4)) g_int)) g_o0)) ga_nil)) (by simp)) ?g9))))))))))
  case e1 =>
    rw [cut_to, cut_fromI _ (o.1.idxOf x + 1) (by omega), ← List.map_take, ← List.map_drop, ← List.map_append]
    rfl
  case g3 =>
    have h0 : o.1.idxOf x = 0 := by simpa using h
    rw [cut_1, ← List.map_drop]
    simp [rem, h0]
  case g4 =>
    have h0 : ¬ o.1.idxOf x = 0 := by simpa using h1
    have h2 : o.1.idxOf x + 1 = o.1.length := by simp at h; omega
    rw [cut_init, ← List.map_dropLast]
    simp [rem, h0, h2]
  case g5 =>
    have e1 := cut_len (o.2.map D.int) none (some (((o.1.idxOf x : Nat) : Int) - 1))
    have e2 := cut_len (o.2.map D.int) (some (((o.1.idxOf x : Nat) : Int) + 1)) none
    simp only [List.length_append, List.length_map, List.length_cons, List.length_nil] at e1 e2 ⊢
    omega
  case g6 =>
    have e1 := cut_len (o.2.map D.int) none (some (((o.1.idxOf x : Nat) : Int) - 1))
    simp only [List.length_append, List.length_map, List.length_cons, List.length_nil] at e1 ⊢
    omega
  case g9 =>
    have h0 : ¬ o.1.idxOf x = 0 := by simpa using h1
    have h2 : ¬ o.1.idxOf x + 1 = o.1.length := by simp at h; omega
    rw [cut_toI _ (o.1.idxOf x - 1) (by omega), cut_fromI _ (o.1.idxOf x + 1) (by omega), ← List.map_take, ← List.map_drop]
    simp [rem, h0, h2]
end
end Ga
/-! dict comprehensions, lists named on one line, calls as statements, __init__ -/
namespace Ga
open PySem PySem.Spec PyProof.Rows L2 Mi
section
variable {X : Cx} {Γ : Ctx} {d : D} {ds : List D} {e : Expr} {pos : Pos}
theorem p_call (he : PE X e (tG Γ d)) (hs : swapsWith e none pos.line X.env = pure false := by rfl) : PS X (.Expr e pos) (sG Γ (.nx Γ)) :=
  wkS (ps_expr he hs) fun D σ H ⟨B0, H0, B, k, q⟩ => ⟨B0, H0, B, k, fun v B' H' g r => q σ B' H' (k.grow g)⟩
end
section
variable {X : Cx} {α : Type} {xs : List α} {emb : α → D} {Γ : Ctx} {Γ' : α → Ctx} {tst : α → Bool} {out : α → D} {g : TG} {elt tg iter : Expr} {ifs : List Expr} {scope : Scope} {own : List (Str × Nat)} {pos spos py : Pos}
/-- name = [..] on one line -/
theorem p_lcF {i : Nat} {y : Str} (tst : α → Bool) (out : α → D) (hc : X.calm = true) (hN : X.N.Nodup) (hy : X.N[i]? = some y) (hyl : X.env.scope.names.lookup y = some .local)
    (hsw : swapsWith (.ListComp elt [⟨tg, iter, ifs, 0⟩] scope pos) (some (.Name y py)) spos.line X.env = pure true) (hi : PI X tg iter (iG Γ (xs.map emb))) (ok : BlkOk X.N X.env.scope scope own)
    (hg : Blk X scope fun Y => PG Y tg g) (ha : ∀ x ∈ xs, gA g Γ (Γ' x) (emb x) (ownW (own.map (·.2)))) (ht : Blk X scope fun Y => ∀ x ∈ xs, PTs Y ifs (tB (Γ' x) (tst x)))
    (he : Blk X scope fun Y => ∀ x ∈ xs, tst x = true → PE Y elt (tG (Γ' x) (out x))) (hw : ∀ i ∈ own.map (·.2), Γ[i]? = some .any ∨ Γ[i]? = none) (hz : xs.length ≤ 1000)
    (hs : ∀ x, foldedSetIterable iter X.env x = pure x := by intro _; rfl) : PS X (.Assign [.Name y py] (.ListComp elt [⟨tg, iter, ifs, 0⟩] scope pos) spos) (sG Γ (.nx (Γ.set i (.m ((xs.filter tst).map out))))) :=
  wkS (ps_setLc hc hN hy hyl hsw hi ok hg (fun s H C cl fp => ptsX (ht s H C cl fp)) (fun s H C cl fp => peX fun x ⟨h1, h2⟩ => he s H C cl fp x h1 h2) hs) fun D σ H ⟨B0, H0, B, k, q⟩ =>
    lcR ha hw hz ⟨B0, H0, B, k, fun l vs B' H' n nb g hl r => q _ B' H' (k.setM g n hl nb r)⟩
theorem p_lc {i : Nat} {y : Str} (out : α → D) (hc : X.calm = true) (hN : X.N.Nodup) (hy : X.N[i]? = some y) (hyl : X.env.scope.names.lookup y = some .local)
    (hsw : swapsWith (.ListComp elt [⟨tg, iter, [], 0⟩] scope pos) (some (.Name y py)) spos.line X.env = pure true) (hi : PI X tg iter (iG Γ (xs.map emb))) (ok : BlkOk X.N X.env.scope scope own)
    (hg : Blk X scope fun Y => PG Y tg g) (ha : ∀ x ∈ xs, gA g Γ (Γ' x) (emb x) (ownW (own.map (·.2))))
    (he : Blk X scope fun Y => ∀ x ∈ xs, PE Y elt (tG (Γ' x) (out x))) (hw : ∀ i ∈ own.map (·.2), Γ[i]? = some .any ∨ Γ[i]? = none) (hz : xs.length ≤ 1000)
    (hs : ∀ x, foldedSetIterable iter X.env x = pure x := by intro _; rfl) : PS X (.Assign [.Name y py] (.ListComp elt [⟨tg, iter, [], 0⟩] scope pos) spos) (sG Γ (.nx (Γ.set i (.m (xs.map out))))) := by
  have h := p_lcF (fun _ : α => true) out hc hN hy hyl hsw hi ok hg ha (fun s H C cl fp x hx => gts_nil) (fun s H C cl fp x hx _ => he s H C cl fp x hx) hw hz hs
  have e : xs.filter (fun _ => true) = xs := by simp
  rwa [e] at h
/-- the own list from now on known -/
theorem Kn.open {B0 H0 B H : Hp} {σ : L2.St} {i : Nat} {ds : List D} (k : Kn B0 H0 Γ σ B H) (hΓ : Γ[i]? = some (.m ds)) : ∃ B', Kn B0 H0 (Γ.set i (.d (.lst ds))) σ B' H := by
  obtain ⟨l, vs, h1, h2, h3, h4, h5⟩ := k.m i ds hΓ
  have sm : Same B (upd B l (.lst vs)) := same_new h3
  refine ⟨upd B l (.lst vs), ⟨k.g.kb.trans sm, k.g.kh, fun b o hb => ?_, fun b o hb hn => ?_⟩, by simp [k.len], fun j x hx => ?_, fun j es hx => ?_, fun j m es fs q g1 g2 g3 g4 => ?_⟩
  · by_cases hbl : b = l
    · subst hbl
      rw [upd_same] at hb
      cases hb
      exact h2
    · rw [upd_ne hbl] at hb
      exact k.le b o hb
  · rw [upd_ne (ne_of_none hb h4)]
    exact k.g.fr b o hb hn
  · by_cases hj : i = j
    · subst hj
      cases get_set_eq hx
      exact ⟨_, h1, .lst upd_same (h5.mono sm)⟩
    · rw [get_set_ne hj] at hx
      obtain ⟨v, a1, a2⟩ := k.d j x hx
      exact ⟨v, a1, a2.mono sm⟩
  · have hj : i ≠ j := fun z => by
      subst z
      cases get_set_eq hx
    rw [get_set_ne hj] at hx
    obtain ⟨l', vs', a1, a2, a3, a4, a5⟩ := k.m j es hx
    refine ⟨l', vs', a1, a2, ?_, a4, a5.mono sm⟩
    have hll : l' ≠ l := fun z => by
      subst z
      exact hj (k.sep i j _ _ l' hΓ hx h1 a1)
    rw [upd_ne hll]
    exact a3
  · have hj : i ≠ j := fun z => by
      subst z
      cases get_set_eq g1
    have hm : i ≠ m := fun z => by
      subst z
      cases get_set_eq g2
    rw [get_set_ne hj] at g1
    rw [get_set_ne hm] at g2
    exact k.sep j m es fs q g1 g2 g3 g4
theorem s_own {sts : List Stmt} {o : Out} {i : Nat} {ds : List D} (hΓ : Γ[i]? = some (.m ds)) (h : PSs X sts (sG (Γ.set i (.d (.lst ds))) o)) : PSs X sts (sG Γ o) :=
  wkSs h fun D σ H ⟨B0, H0, B, k, q⟩ => let ⟨B', k'⟩ := k.open hΓ; ⟨B0, H0, B', k', q⟩
end
/-! ### {k: v for ..} -/
section
variable {α : Type} {xs : List α} {emb : α → D} {Γ : Ctx} {Γ' : α → Ctx} {key : α → Str} {val : α → V} {g : TG} {vs : List Nat}
theorem valV_map {l : List α} {x : Str} (h : ∀ y ∈ l, key y ≠ x) : valV (l.map fun y => ((Sum.inr (key y) : Key), val y)) (Sum.inr x) = none := by
  induction l with
  | nil => rfl
  | cons a l ih =>
    have h1 : ¬ (Sum.inr (key a) : Key) = Sum.inr x := fun z => h a (by simp) (by injection z)
    show valV ((Sum.inr (key a), val a) :: l.map _) _ = none
    rw [valV_neg h1]
    exact ih fun y hy => h y (by simp [hy])
theorem dcR {σ : L2.St} {H : Hp} {Q : VK} (hnd : (xs.map key).Nodup) (ha : ∀ x ∈ xs, gA g Γ (Γ' x) (emb x) (ownW vs)) (hw : ∀ i ∈ vs, Γ[i]? = some .any ∨ Γ[i]? = none) (hz : xs.length ≤ 1000) (h : tG Γ (.dic (xs.map fun x => (Sum.inr (key x), val x))) σ H Q) :
    tDc (iG Γ (xs.map emb)) g (tXT (· ∈ xs) fun x => tB (Γ' x) true) (tX (· ∈ xs) fun x => tG (Γ' x) (.str (key x))) (tX (· ∈ xs) fun x => tG (Γ' x) (.v (val x))) vs σ H Q := by
  obtain ⟨B0, H0, B, k, q⟩ := h
  refine ⟨B0, H0, B, k, fun J B1 H1 g1 wk Dl hD => ?_⟩
  have k1 := k.grow g1
  have hBD : B1 Dl = none := g1.le.free hD
  have hH0 : H0 Dl = none := k1.g.kh.free hD
  refine ⟨fun i m Hi => m = xs.length - i ∧ i ≤ xs.length ∧ ∃ Bi, Kn B0 H0 Γ σ Bi Hi ∧ Grow B1 H1 Bi Hi ∧ Bi Dl = none ∧ Hi Dl = some (.dK ((xs.take i).map fun x => (Sum.inr (key x), val x))),
    ⟨xs.length, by simp, Nat.zero_le _, B1, k1.hid hD, Grow.hid k1.le hD, hBD, upd_same⟩, ?_⟩
  rintro i m Hi ⟨rfl, hi, Bi, ki, gi, bi, di⟩
  have hlen : (xs.map emb).length = xs.length := by simp
  by_cases hlt : i < xs.length
  · refine .inr ⟨wk.go i Hi (gi.kb.trans gi.le) (by rw [hlen]; exact hlt), fun Hn => (i + 1 ≤ xs.length) ∧ ∃ Bn, Kn B0 H0 Γ σ Bn Hn ∧ Grow B1 H1 Bn Hn ∧ Bn Dl = none ∧ Hn Dl = some (.dK ((xs.take (i + 1)).map fun x => (Sum.inr (key x), val x))),
      fun Hn hn => ⟨xs.length - (i + 1), by omega, rfl, hn⟩, fun x H' y => ?_⟩
    obtain ⟨d, B2, hd, g2, r2⟩ := wk.yld i Hi x H' Bi gi.kb gi.le (by rw [hlen]; exact hlt) y
    have hx : xs[i]? = some xs[i] := List.getElem?_eq_getElem hlt
    have mem : xs[i] ∈ xs := List.getElem_mem hlt
    rw [List.getElem?_map, hx] at hd
    have ed : emb xs[i] = d := Option.some.inj hd
    subst ed
    refine ha xs[i] mem x (wipe σ vs) B0 H0 B2 H' _ ((ki.wipe hw).grow g2) r2 fun σ' kn hW => ⟨hW.trans wipe_wipe, xs[i], mem, B0, H0, B2, kn, fun B3 H3 g3 => ?_⟩
    have tk : xs.take (i + 1) = xs.take i ++ [xs[i]] := by
      rw [List.take_add_one, hx]
      rfl
    refine iteT ⟨xs[i], mem, B0, H0, B3, kn.grow g3, fun v B4 H4 g4 r4 => ⟨xs[i], mem, B0, H0, B4, (kn.grow g3).grow g4, fun v5 B5 H5 g5 r5 => ?_⟩⟩
    have gz : Grow Bi Hi B5 H5 := ((g2.trans g3).trans g4).trans g5
    have dz : H5 Dl = _ := gz.kh _ _ di
    have bz : B5 Dl = none := gz.fr _ _ di bi
    refine ⟨_, Sum.inr (key xs[i]), r4.v_inv, dz, ?_, by omega, B5, (ki.grow gz).hidUpd hH0 bz (k1.nom hD), ((gi.trans gz).hidUpd hD bz), bz, ?_⟩
    · rw [List.length_map, List.length_take]
      exact small1000 (by omega)
    · rw [upd_same, r5.v_inv, tk, List.map_append, putK_new]
      · rfl
      · refine valV_map fun y hy => ?_
        intro z
        obtain ⟨j, hj, ey⟩ := List.mem_iff_getElem.mp hy
        rw [List.length_take] at hj
        rw [List.getElem_take] at ey
        have e1 : (xs.map key)[j]'(by rw [List.length_map]; omega) = (xs.map key)[i]'(by rw [List.length_map]; exact hlt) := by
          rw [List.getElem_map, List.getElem_map, ey, z]
        have := (List.getElem_inj hnd).mp e1
        omega
  · have e : i = xs.length := by omega
    subst e
    have st := wk.stop Hi (gi.kb.trans gi.le)
    rw [hlen] at st
    rw [List.take_length] at di
    refine .inl ⟨st, q (.ref Dl) (upd Bi Dl (.dK _)) Hi (g1.trans ⟨gi.kb.trans (same_new bi), gi.kh, fun b o hb => ?_, fun b o hb hn => ?_⟩) (.dic upd_same)⟩
    · by_cases hbl : b = Dl
      · subst hbl
        rw [upd_same] at hb
        cases hb
        exact di
      · rw [upd_ne hbl] at hb
        exact gi.le b o hb
    · rw [upd_ne (ne_of_none hb hD)]
      exact gi.fr b o hb hn
theorem g_dc {X : Cx} {kx vx tg iter : Expr} {scope : Scope} {own : List (Str × Nat)} {pos : Pos} (key : α → Str) (val : α → V) (hnd : (xs.map key).Nodup) (hc : X.calm = true) (hN : X.N.Nodup) (hi : PI X tg iter (iG Γ (xs.map emb))) (ok : BlkOk X.N X.env.scope scope own)
    (hg : Blk X scope fun Y => PG Y tg g) (ha : ∀ x ∈ xs, gA g Γ (Γ' x) (emb x) (ownW (own.map (·.2))))
    (hk : Blk X scope fun Y => ∀ x ∈ xs, PE Y kx (tG (Γ' x) (.str (key x)))) (he : Blk X scope fun Y => ∀ x ∈ xs, PE Y vx (tG (Γ' x) (.v (val x)))) (hw : ∀ i ∈ own.map (·.2), Γ[i]? = some .any ∨ Γ[i]? = none) (hz : xs.length ≤ 1000)
    (hs : ∀ x, foldedSetIterable iter X.env x = pure x := by intro _; rfl) : PE X (.DictComp kx vx [⟨tg, iter, [], 0⟩] scope pos) (tG Γ (.dic (xs.map fun x => (Sum.inr (key x), val x)))) :=
  wkE (pe_dc hc hN hi ok hg (fun s H C cl fp => ptsX (I := (· ∈ xs)) (t := fun x => tB (Γ' x) true) fun x hx => gts_nil) (fun s H C cl fp => peX (hk s H C cl fp)) (fun s H C cl fp => peX (he s H C cl fp)) hs) fun σ H Q h => dcR hnd ha hw hz h
end
/-! ### __init__ -/
mutual
def noI : D → Bool
  | .v _ => true
  | .tup ds => noIs ds
  | .pr ds => noIs ds
  | .lst ds => noIs ds
  | .at_ _ ds => noIs ds
  | .dic _ => true
  | .ins _ _ => false
def noIs : List D → Bool
  | [] => true
  | d :: ds => noI d && noIs ds
end
def rm (H : Hp) (x : Addr) : Hp := fun b => if b = x then none else H b
theorem rm_ne {H : Hp} {x b : Addr} (h : b ≠ x) : rm H x b = H b := if_neg h
theorem rm_eq {H : Hp} {x : Addr} : rm H x x = none := if_pos rfl
theorem rm_some {H : Hp} {x b : Addr} {o : HO} (h : rm H x b = some o) : b ≠ x ∧ H b = some o := by
  by_cases e : b = x
  · subst e
    rw [rm_eq] at h
    cases h
  · rw [rm_ne e] at h
    exact ⟨e, h⟩
mutual
theorem Rel.rmx {B : Hp} {x C dx : Addr} {fv : List (Str × V)} (hx : B x = some (.ins C dx fv)) : ∀ {d : D} {v : V}, Rel B d v → noI d = true → Rel (rm B x) d v
  | _, _, .v x, _ => .v x
  | _, _, .tup (p := p) h q r, n => .tup (by rw [rm_ne (fun z => by subst z; rw [hx] at h; cases h)]; exact h) q (RelL.rmx hx r (by simpa [noI] using n))
  | _, _, .pr (p := p) h r, n => .pr (by rw [rm_ne (fun z => by subst z; rw [hx] at h; cases h)]; exact h) (RelL.rmx hx r (by simpa [noI] using n))
  | _, _, .lst (p := p) h r, n => .lst (by rw [rm_ne (fun z => by subst z; rw [hx] at h; cases h)]; exact h) (RelL.rmx hx r (by simpa [noI] using n))
  | _, _, .at_ (p := p) h r, n => .at_ (by rw [rm_ne (fun z => by subst z; rw [hx] at h; cases h)]; exact h) (RelL.rmx hx r (by simpa [noI] using n))
  | _, _, .dic (p := p) h, n => .dic (by rw [rm_ne (fun z => by subst z; rw [hx] at h; cases h)]; exact h)
  | _, _, .ins h r, n => by simp [noI] at n
theorem RelL.rmx {B : Hp} {x C dx : Addr} {fv : List (Str × V)} (hx : B x = some (.ins C dx fv)) : ∀ {ds : List D} {vs : List V}, RelL B ds vs → noIs ds = true → RelL (rm B x) ds vs
  | _, _, .nil, _ => .nil
  | _, _, .cons h r, n => by
    simp only [noIs, Bool.and_eq_true] at n
    exact .cons (Rel.rmx hx h n.1) (RelL.rmx hx r n.2)
end
structure KI (B0 H0 : Hp) (C x dx : Addr) (fs : List (Str × D)) (fv : List (Str × V)) (Γ : Ctx) (σ : L2.St) (B H : Hp) : Prop where
  k : Kn B0 (rm H0 x) Γ σ B H
  s : σ[0]? = some (some (.ref x))
  b : B x = none
  h : H x = some (.ins C dx fv)
  r : RelF B fs fv
def sI (C : Addr) (Γ : Ctx) (fs fs' : List (Str × D)) : TS := fun D σ H => ∃ B0 H0 x dx fv B, KI B0 H0 C x dx fs fv Γ σ B H ∧ ∀ σ' B' H' fv', KI B0 H0 C x dx fs' fv' Γ σ' B' H' → D.nx σ' H'
section
variable {X : Cx} {Γ : Ctx} {fs fs1 fs2 : List (Str × D)} {C : Addr} {st : Stmt} {sts : List Stmt} {e : Expr} {d : D} {f : Str} {pos : Pos}
theorem i_end : PSs X [] (sI C Γ fs fs) := wkSs pss_nil fun D σ H ⟨B0, H0, x, dx, fv, B, k, q⟩ => q σ B H fv k
theorem i_cons (h1 : PS X st (sI C Γ fs fs1)) (h2 : PSs X sts (sI C Γ fs1 fs2)) : PSs X (st :: sts) (sI C Γ fs fs2) :=
  wkSs (pss_cons h1 h2) fun D σ H ⟨B0, H0, x, dx, fv, B, k, q⟩ => ⟨B0, H0, x, dx, fv, B, k, fun σ' B' H' fv' k' => ⟨B0, H0, x, dx, fv', B', k', q⟩⟩
theorem putF_new {f : Str} {v : V} : ∀ {fv : List (Str × V)}, fv.lookup f = none → putF f v fv = fv ++ [(f, v)]
  | [], _ => rfl
  | (g, y) :: r, h => by
    have hg : ¬ g = f := fun z => by
      subst z
      simp [List.lookup] at h
    have h' : r.lookup f = none := by
      have : (f == g) = false := beq_eq_false_iff_ne.mpr fun z => hg z.symm
      simpa [List.lookup, this] using h
    show (if g = f then (g, v) :: r else (g, y) :: putF f v r) = _
    rw [if_neg hg, putF_new h']
    rfl
theorem RelF.len {H : Hp} {fs : List (Str × D)} {fv : List (Str × V)} (r : RelF H fs fv) : fs.length = fv.length := by
  induction fs generalizing fv with
  | nil =>
    cases r
    rfl
  | cons e fs ih =>
    cases r with
    | cons h t => simp [ih t]
theorem RelF.snoc {H : Hp} {fs : List (Str × D)} {fv : List (Str × V)} {v : V} (r : RelF H fs fv) (q : Rel H d v) : RelF H (fs ++ [(f, d)]) (fv ++ [(f, v)]) := by
  induction fs generalizing fv with
  | nil =>
    cases r
    exact .cons q .nil
  | cons e fs ih =>
    cases r with
    | cons h t => exact .cons h (ih t)
def noM : Ctx → Bool
  | [] => true
  | .m _ :: _ => false
  | _ :: Γ => noM Γ
theorem noM_get : ∀ {Γ : Ctx}, noM Γ = true → ∀ (i : Nat) ds, Γ[i]? ≠ some (.m ds)
  | .any :: Γ, h, 0, ds, e => by simp at e
  | .d _ :: Γ, h, 0, ds, e => by simp at e
  | .any :: Γ, h, i + 1, ds, e => noM_get (Γ := Γ) h i ds (by simpa using e)
  | .d _ :: Γ, h, i + 1, ds, e => noM_get (Γ := Γ) h i ds (by simpa using e)
theorem i_set {x0 : Str} {p p' : Pos} (h0 : Γ[0]? = some .any) (hm : noM Γ = true) (cl : Cls X.K C) (na : NoAttr X.K C f) (hn : fs.lookup f = none) (hz : fs.length < 1000) (hi : noI d = true) (hv : PE X e (tG (Γ.set 0 (.d (.ins C fs))) d)) (hself : PE X (.Name x0 p) (tVar 0))
    (hs : swapsWith e (some (.Attribute (.Name x0 p) f p')) pos.line X.env = pure false := by rfl) : PS X (.Assign [.Attribute (.Name x0 p) f p'] e pos) (sI C Γ fs (fs ++ [(f, d)])) :=
  wkS (ps_fld hself hv hs) fun D σ H ⟨B0, H0, x, dx, fv, B, k, q⟩ => by
    have sm : Same B (upd B x (.ins C dx fv)) := same_new k.b
    have sl : Same (upd B x (.ins C dx fv)) H := fun b o hb => by
      by_cases hbx : b = x
      · subst hbx
        rw [upd_same] at hb
        cases hb
        exact k.h
      · rw [upd_ne hbx] at hb
        exact k.k.le b o hb
    have hl0 : 0 < Γ.length := (List.getElem?_eq_some_iff.mp h0).1
    have nm : ∀ (j : Nat) es, (Γ.set 0 (.d (.ins C fs)))[j]? = some (.m es) → False := fun j es hy => by
      have hj : 0 ≠ j := fun z => by
        subst z
        cases get_set_eq hy
      rw [get_set_ne hj] at hy
      exact noM_get hm j es hy
    refine ⟨upd B x (.ins C dx fv), H, upd B x (.ins C dx fv), ⟨⟨Same.refl _, Same.refl _, sl, fun b o hb hn => hn⟩, by simp [k.k.len], fun j y hy => ?_, fun j es hy => (nm j es hy).elim, fun j m es fs' l g1 g2 g3 g4 => (nm j es g1).elim⟩, fun v B' H' g r => ?_⟩
    · by_cases hj : 0 = j
      · subst hj
        cases get_set_eq hy
        exact ⟨_, k.s, .ins upd_same (k.r.mono sm)⟩
      · rw [get_set_ne hj] at hy
        obtain ⟨v, a1, a2⟩ := k.k.d j y hy
        exact ⟨v, a1, a2.mono sm⟩
    have hx' : B' x = some (.ins C dx fv) := g.kb _ _ upd_same
    have hH' : H' x = some (.ins C dx fv) := g.le _ _ hx'
    have sb : Same B (rm B' x) := fun b o hb => by
      have hbx : b ≠ x := ne_of_none hb k.b
      rw [rm_ne hbx]
      exact g.kb _ _ (sm _ _ hb)
    have hnv : fv.lookup f = none := k.r.none hn
    refine ⟨.ref x, k.s, x, C, dx, fv, rfl, hH', cl, na, by rw [← k.r.len]; exact hz, ?_⟩
    rw [putF_new hnv]
    refine q σ (rm B' x) _ _ ⟨⟨⟨k.k.g.kb.trans sb, fun b o hb => ?_, fun b o hb => ?_, fun b o hb hn => ?_⟩, k.k.len, fun j y hy => ?_, fun j es hy => (noM_get hm j es hy).elim, fun j m es fs' l g1 g2 g3 g4 => (noM_get hm j es g1).elim⟩, k.s, rm_eq, upd_same, (k.r.mono sb).snoc (r.rmx hx' hi)⟩
    · obtain ⟨hbx, hb'⟩ := rm_some hb
      rw [upd_ne hbx]
      exact g.kh _ _ (k.k.g.kh _ _ hb)
    · obtain ⟨hbx, hb'⟩ := rm_some hb
      rw [upd_ne hbx]
      exact g.le _ _ hb'
    · obtain ⟨hbx, hb'⟩ := rm_some hb
      rw [rm_ne hbx]
      refine g.fr b o (k.k.g.kh _ _ hb) ?_
      rw [upd_ne hbx]
      exact k.k.g.fr b o hb hn
    · obtain ⟨v, a1, a2⟩ := k.k.d j y hy
      exact ⟨v, a1, a2.mono sb⟩
end
section
variable {P : Program} {w : World} {K : PySem.W.Frag} {mg : Str → Option Value} {base : Heap} {x qual : Str} {st : Stmt} {N ps : List Str} {f : Addr} {fd : FuncData} {k : Nat} {C : Addr}
def ctxI (N : List Str) (ds : List D) : Ctx := .any :: ctx0 (N.drop 1) ds
theorem fn_init {R : List D → List (Str × D) → Prop} (F : Fun K x qual st f fd) (S : FnScope N ps (defScope st)) (hN : 0 < N.length) (hl : ∀ ds fs, R ds fs → ds.length + 1 = ps.length)
    (hb : ∀ (cdv : Value) (A : Around) (outer : List PySem.Env) (s : Shared) (H : Hp) (E : XK), Room k (A.deeper (envOfC qual (defScope st) s.heap.objs.size f cdv)) → ∀ ds fs, R ds fs → PSs (Bx P w K mg base N qual st f cdv A outer s H E) (defBody st) (sI C (ctxI N ds) [] fs)) :
    FnOk P w K mg base CX0 (k + 1) f fd ps (spI C R) := by
  refine F.ok S (fun vs H Q E ⟨B, x, dx, ds, fs, vs', e, h1, h2, h3, h4, le, r, hR, q⟩ => ?_) (fun cdv A outer s H vs Q E hr ⟨B, x, dx, ds, fs, vs', e, h1, h2, h3, h4, le, r, hR, q⟩ => ?_)
  · rw [e, List.length_cons, ← r.len]
    exact hl ds fs hR
  · subst e
    refine ⟨_, hb cdv A outer s H E hr ds fs hR, B, H, x, dx, [], B, ⟨?_, rfl, h3, h1, .nil⟩, fun σ' B' H' fv' k' => ?_⟩
    · have le' : Same B (rm H x) := fun b o hb => by
        have hbx : b ≠ x := ne_of_none hb h3
        rw [rm_ne hbx]
        exact le b o hb
      have kk := kn_start (N := N.drop 1) le' r
      have e1 : L2.start N (V.ref x :: vs') = some (V.ref x) :: L2.start (N.drop 1) vs' := by
        unfold L2.start
        simp
        omega
      rw [e1]
      refine ⟨⟨Same.refl _, fun b o hb => (rm_some hb).2, le, fun b o hb hn => hn⟩, (by show (L2.start (N.drop 1) vs').length + 1 = (ctx0 (N.drop 1) ds).length + 1; rw [kk.len]), fun j y hy => ?_, fun j es hy => ?_, fun j m es fs' l g1 g2 g3 g4 => ?_⟩
      · cases j with
        | zero => cases hy
        | succ j => exact kk.d j y hy
      · cases j with
        | zero => cases hy
        | succ j =>
          obtain ⟨l, vs, _, a2, _, a4, _⟩ := kk.m j es hy
          rw [a4] at a2
          cases a2
      · cases j with
        | zero => cases g1
        | succ j =>
          obtain ⟨l, vs, _, a2, _, a4, _⟩ := kk.m j es g1
          rw [a4] at a2
          cases a2
    · exact q B' H' fv' k'.k.g.kb (fun b o hbx hb => k'.k.g.kh b o (by rw [rm_ne hbx]; exact hb)) k'.k.le (fun l o hl hn => by
        by_cases e : l = x
        · subst e
          exact k'.b
        · exact k'.k.g.fr l o (by rw [rm_ne e]; exact hl) hn) k'.h k'.r
end
end Ga
/-! common.py -/
namespace Ga
open PySem PySem.Spec PyProof.Rows L2 Mi
/-! ### plain facts -/
abbrev lN (ns : List Nat) : D := .lst (ns.map fun (n : Nat) => D.int (n : Nat))
theorem lN_eq (ns : List Nat) : lN ns = lI (ns.map fun (n : Nat) => (n : Int)) := by
  unfold lN lI
  rw [List.map_map]
  rfl
/-- letter -> place, from k on -/
def plK (k : Nat) (ls : List Str) : List (Key × V) := (ls.zipIdx k).map fun p => ((Sum.inr p.1 : Key), V.int (p.2 : Nat))
theorem plK_get (x : Str) : ∀ (ls : List Str) (k : Nat), valV (plK k ls) (Sum.inr x) = if x ∈ ls then some (.int ((k + ls.idxOf x : Nat) : Int)) else none
  | [], k => by simp [plK, valV_nil]
  | y :: ys, k => by
    have ih := plK_get x ys (k + 1)
    have e : plK k (y :: ys) = ((Sum.inr y : Key), V.int (k : Nat)) :: plK (k + 1) ys := rfl
    rw [e]
    by_cases h : y = x
    · subst h
      rw [valV_pos rfl]
      simp
    · have h1 : ¬ (Sum.inr y : Key) = Sum.inr x := fun z => h (by injection z)
      have h2 : ¬ x = y := fun z => h z.symm
      have h3 : (y == x) = false := beq_eq_false_iff_ne.mpr h
      rw [valV_neg h1, ih, List.idxOf_cons, h3]
      simp only [List.mem_cons, h2, false_or, cond_false]
      have e2 : k + 1 + ys.idxOf x = k + (ys.idxOf x + 1) := by omega
      rw [e2]
abbrev plD (o : Ord) : List (Key × V) := plK 0 o.1
theorem plD_get {o : Ord} {x : Str} (h : x ∈ o.1) : valV (plD o) (Sum.inr x) = some (.int ((o.1.idxOf x : Nat) : Int)) := by
  rw [plK_get, if_pos h, Nat.zero_add]
/-- two orders of the same letters -/
structure V2 (f s : Ord) : Prop where
  v1 : V0 f
  v2 : V0 s
  p : s.1.Perm f.1
theorem V2.mem {f s : Ord} (v : V2 f s) {x : Str} : x ∈ s.1 ↔ x ∈ f.1 := v.p.mem_iff
theorem V2.len {f s : Ord} (v : V2 f s) : s.1.length = f.1.length := v.p.length_eq
theorem V2.at {f s : Ord} (v : V2 f s) {i : Nat} (h : i < s.1.length) : s.1[i] ∈ f.1 := v.mem.mp (List.getElem_mem h)
theorem lb_eq {o : Ord} {a b : Nat} {y z : Int} (h : y = (a : Int)) (h' : z = (b : Int)) : D.tup (cut (o.2.map D.int) (some y) (some z)) = tI ((o.2.drop a).take (b - a)) := by
  rw [cut_midI _ a b h h', ← List.map_drop, ← List.map_take]
section
variable {P : Program} {w : World} {K : PySem.W.Frag} {mg : Str → Option Value} {base : Heap}
def R_check_two : List D → D → Prop := fun ds d => ∃ f s : Ord, ds = [ordD f, ordD s] ∧ V0 f ∧ V0 s ∧ d = .non
theorem ok_check_two (T : Top K mg) : FnOk P w K mg base CX0 4 T.d_check_two.f T.d_check_two.fd ["first", "second"] (spF R_check_two) := by
  refine fn_nx T.d_check_two.F sc_check_two (fun ds d ⟨f, s, h, _, _, e⟩ => by subst h; exact ⟨rfl, e⟩) (fun cdv A outer s H E hr ds d hR => ?_)
  obtain ⟨f, s, rfl, v1, v2, rfl⟩ := hR
  exact ⟨_, (s_ifF (gt_not (gt_val (g_call (pe_call (ok_is_order T) (hr.mono (by decide)) (by rfl) T.d_is_order.g T.d_is_order.F.kp T.d_is_order.b .nil pass0 (ga_cons (g_var rfl (pv 0)) ga_nil)) (.inl ⟨f, rfl, v1, rfl⟩)))) rfl 
    (s_ifF (gt_not (gt_val (g_call (pe_call (ok_is_order T) (hr.mono (by decide)) (by rfl) T.d_is_order.g T.d_is_order.F.kp T.d_is_order.b .nil pass0 (ga_cons (g_var rfl (pv 1)) ga_nil)) (.inl ⟨s, rfl, v2, rfl⟩)))) rfl 
    s_end))⟩
def R_places_of : List D → D → Prop := fun ds d => ∃ o : Ord, ds = [ordD o] ∧ V0 o ∧ d = .dic (plD o)
theorem ok_places_of (T : Top K mg) : FnOk P w K mg base CX0 1 T.d_places_of.f T.d_places_of.fd ["order"] (spF R_places_of) := by
  refine fn_rt T.d_places_of.F sc_places_of (fun ds d ⟨i, h, _⟩ => by subst h; rfl) (fun cdv A outer s H E hr ds d hR => ?_)
  obtain ⟨o, rfl, vo, rfl⟩ := hR
  have hz := vo.le
  refine (s_ret (p_ret (isD_eq (g_dc (xs := (o.1.map D.str).zipIdx) (emb := fun p => .pr [.int (p.2 : Nat), p.1]) (fun x => match x.1 with | .v (.str z) => z | _ => default) (fun x => .int (x.2 : Nat)) ?nd rfl sc_places_of.nd (gi_en (pi_enT (by rfl) T.z_enumerate (ga_cons (g_ixT rfl (g_var rfl (pv 0)) g_int (fun _ _ => rfl)) ga_nil))) (blkOk_by (own := [("at", 1), ("letter", 2)]) (N := N_places_of) (sc := defScope s_places_of) (by decide +kernel)) (fun _ _ _ _ _ => pg_tup rfl (pgs_cons (pg_name (i := 1) sc_places_of.nd rfl (Or.inl rfl)) (pgs_cons (pg_name (i := 2) sc_places_of.nd rfl (Or.inl rfl)) pgs_nil))) (fun x hx => ga_twoW (by simp) (by simp)) (fun _ _ _ _ _ x hx => isD_eq (g_var rfl (pv 2)) ?ek) (fun _ _ _ _ _ x hx => (g_var rfl (pv 1))) (hw2 rfl rfl) ?g1) ?g2)))
  case nd =>
    rw [List.zipIdx_map, List.map_map]
    have e : ((fun x : D × Nat => match x.1 with | .v (.str z) => z | _ => default) ∘ (Prod.map D.str id)) = fun (x : Str × Nat) => x.1 := rfl
    rw [e]
    have : o.1.zipIdx.map (fun x => x.1) = o.1 := List.zipIdx_map_fst 0 o.1
    rw [this]
    exact vo.nd
  case ek =>
    rw [List.zipIdx_map] at hx
    obtain ⟨y, _, rfl⟩ := List.mem_map.mp hx
    rfl
  case g1 =>
    rw [List.length_zipIdx, List.length_map]
    omega
  case g2 =>
    rw [List.zipIdx_map, List.map_map]
    rfl
def R_least_between : List D → D → Prop := fun ds d => ∃ (o : Ord) (lo hi : Nat), ds = [ordD o, .int (lo : Nat), .int (hi : Nat)] ∧ lo < hi ∧ hi ≤ o.2.length ∧ d = .int (lb o lo hi)
theorem ne_mid {α : Type} {ls : List α} {a b : Nat} (h : a < b) (h' : b ≤ ls.length) : (ls.drop a).take (b - a) ≠ [] := fun z => by
  have := congrArg List.length z
  rw [List.length_take, List.length_drop] at this
  simp at this
  omega
theorem ok_least_between (T : Top K mg) : FnOk P w K mg base CX0 1 T.d_least_between.f T.d_least_between.fd ["order", "low", "high"] (spF R_least_between) := by
  refine fn_rt T.d_least_between.F sc_least_between (fun ds d ⟨o, a, b, h, _⟩ => by subst h; rfl) (fun cdv A outer s H E hr ds d hR => ?_)
  obtain ⟨o, a, b, rfl, h1, h2, rfl⟩ := hR
  exact (s_ret (p_ret (isD_eq (g_minT rfl (hu_of hr) (ne_mid h1 h2) (by rfl) T.z_min (isD_eq (g_slT (g_ixT rfl (g_var rfl (pv 0)) g_int (fun _ _ => rfl)) (g_o1 (g_var rfl (pv 1))) (g_o1 (g_var rfl (pv 2)))) (lb_eq rfl rfl))) rfl)))
end
end Ga
/-! common.py: the pairs -/
namespace Ga
open PySem PySem.Spec PyProof.Rows L2 Mi
/-- the block of a comprehension that is given a name -/
def scOf : Stmt → Scope
  | .Assign _ (.ListComp _ _ sc _) _ => sc
  | st => defScope st
def relab (outer sc : Scope) : Scope := { sc with names := sc.names.map fun (n, k) => if (k == .free && outer.names.lookup n == some .cell) then (n, .cell) else (n, k) }
/-- what an instance of Pairs holds -/
def pF (f s : Ord) : List (Str × D) := [("places", .dic (plD f)), ("first", ordD f), ("second", ordD s), ("own", lN (List.range s.1.length)), ("letters", lS s.1), ("many", .int (s.1.length : Nat)), ("links", .lst ((List.range s.1.length).map fun i => lN (link f s i)))]
theorem noIs_map {α : Type} {g : α → D} (h : ∀ x, noI (g x) = true) : ∀ l : List α, noIs (l.map g) = true
  | [] => rfl
  | x :: l => by
    show (noI (g x) && noIs (l.map g)) = true
    rw [h x, noIs_map h l]
    rfl
theorem lookI {ls : List Nat} {i : Nat} (h : i < ls.length) : atI (ls.map fun (n : Nat) => D.int (n : Nat)) ((i : Nat) : Int) = some (D.int ((ls.getD i 0 : Nat) : Int)) := at_mapD (f := fun (n : Nat) => D.int (n : Nat)) 0 rfl h
theorem lookR {n i : Nat} (h : i < n) : atI ((List.range n).map fun (n : Nat) => D.int (n : Nat)) ((i : Nat) : Int) = some (D.int (i : Nat)) := by
  rw [lookI (by rw [List.length_range]; exact h)]
  have : (List.range n).getD i 0 = i := by
    rw [List.getD_eq_getElem?_getD, List.getElem?_range h]
    rfl
  rw [this]
theorem lookS {ls : List Str} {i : Nat} (h : i < ls.length) : atI (ls.map D.str) ((i : Nat) : Int) = some (D.str ls[i]) := at_map (List.getElem?_eq_getElem h)
theorem idxOf_inj {ls : List Str} {x y : Str} (hx : x ∈ ls) (hy : y ∈ ls) (h : ls.idxOf x = ls.idxOf y) : x = y := by
  have h1 := List.getElem_idxOf (List.idxOf_lt_length_of_mem hx)
  have h2 := List.getElem_idxOf (List.idxOf_lt_length_of_mem hy)
  rw [← h1, ← h2]
  congr 1
section
variable {P : Program} {w : World} {K : PySem.W.Frag} {mg : Str → Option Value} {base : Heap}
def R_can (C : Addr) : List D → D → Prop := fun ds d => ∃ (fs : List (Str × D)) (f s : Ord) (i j : Nat), ds = [.ins C fs, .int (i : Nat), .int (j : Nat)] ∧ fs.lookup ("places" : Str) = some (D.dic (plD f)) ∧ fs.lookup ("first" : Str) = some (ordD f) ∧ fs.lookup ("second" : Str) = some (ordD s) ∧ fs.lookup ("own" : Str) = some (lN (List.range s.1.length)) ∧ fs.lookup ("letters" : Str) = some (lS s.1) ∧
  i < j ∧ j < s.1.length ∧ V2 f s ∧ d = .bl (foll f s i j)
theorem ok_Pcan_follow (T : Top K mg) : FnOk P w K mg base CX0 2 T.m_can_follow.f T.m_can_follow.fd ["self", "i", "j"] (spF (R_can T.C)) := by
  refine fn_rt T.m_can_follow.F sc_Pcan_follow (fun ds d ⟨_, _, _, _, _, h, _⟩ => by subst h; rfl) (fun cdv A outer s H E hr ds d hR => ?_)
  obtain ⟨fs, f, s', i, j, rfl, l1, l2, l3, l4, l5, hij, hj, v, rfl⟩ := hR
  have hi : i < s'.1.length := by omega
  have n1 := v.v1.ln
  have n2 := v.v2.ln
  have n3 := v.len
  have mi := v.at hi
  have mj := v.at hj
  have a1 := List.idxOf_lt_length_of_mem mi
  have a2 := List.idxOf_lt_length_of_mem mj
  have ne : f.1.idxOf s'.1[i] ≠ f.1.idxOf s'.1[j] := fun z => by
    have e := idxOf_inj mi mj z
    have := (List.getElem_inj v.v2.nd).mp e
    omega
  refine (s_cons (p_asg (i := 3) sc_Pcan_follow.nd rfl (Or.inl rfl) (g_ixD (hu_of hr) (plD_get mi) (g_fld T.cl T.na_places l1 (g_var rfl (pv 0))) (g_ixL (lookS hi) (g_l (g_fld T.cl T.na_letters l5 (g_var rfl (pv 0)))) (g_var rfl (pv 1)) (fun _ _ => rfl)) (fun _ _ => rfl))) 
    (s_cons (p_asg (i := 4) sc_Pcan_follow.nd rfl (Or.inl rfl) (g_ixD (hu_of hr) (plD_get mj) (g_fld T.cl T.na_places l1 (g_var rfl (pv 0))) (g_ixL (lookS hj) (g_l (g_fld T.cl T.na_letters l5 (g_var rfl (pv 0)))) (g_var rfl (pv 2)) (fun _ _ => rfl)) (fun _ _ => rfl))) 
    (s_if (Cmp.t (g_gt (g_var rfl (pv 3)) (g_var rfl (pv 4)))) (fun c1 => (s_ret (p_ret (isD_eq g_bl ?g5)))) (fun c1 => 
    (s_ret (p_ret (isD_eq (Cmp.v (g_eqI (g_call (d := .int (lb f (f.1.idxOf s'.1[i]) (f.1.idxOf s'.1[j]))) (pe_call (ok_least_between T) (hr.mono (by decide)) (by rfl) T.d_least_between.g T.d_least_between.F.kp T.d_least_between.b .nil pass0 (ga_cons (g_fld T.cl T.na_first l2 (g_var rfl (pv 0))) (ga_cons (g_var rfl (pv 3)) (ga_cons (g_var rfl (pv 4)) ga_nil)))) ⟨f, _, _, rfl, ?lt1, ?lt2, rfl⟩) (g_call (d := .int (lb s' i j)) (pe_call (ok_least_between T) (hr.mono (by decide)) (by rfl) T.d_least_between.g T.d_least_between.F.kp T.d_least_between.b .nil pass0 (ga_cons (g_fld T.cl T.na_second l3 (g_var rfl (pv 0))) (ga_cons (g_ixL (lookR hi) (g_l (g_fld T.cl T.na_own l4 (g_var rfl (pv 0)))) (g_var rfl (pv 1)) (fun _ _ => rfl)) (ga_cons (g_ixL (lookR hj) (g_l (g_fld T.cl T.na_own l4 (g_var rfl (pv 0)))) (g_var rfl (pv 2)) (fun _ _ => rfl)) ga_nil)))) ⟨s', _, _, rfl, hij, ?lt3, rfl⟩))) ?g10)))))))
  case g5 =>
    have h : ¬ f.1.idxOf s'.1[i] ≤ f.1.idxOf s'.1[j] := by
      simp at c1
      omega
    simp [foll, List.getElem?_eq_getElem hi, List.getElem?_eq_getElem hj, h]
  case lt1 =>
    simp at c1
    omega
  case lt2 => omega
  case lt3 => omega
  case g10 =>
    have h : f.1.idxOf s'.1[i] ≤ f.1.idxOf s'.1[j] := by
      simp at c1
      omega
    simp [foll, List.getElem?_eq_getElem hi, List.getElem?_eq_getElem hj, h]
def R_init : List D → List (Str × D) → Prop := fun ds fs => ∃ f s : Ord, ds = [ordD f, ordD s] ∧ V2 f s ∧ fs = pF f s
theorem ok_Pinit (T : Top K mg) : FnOk P w K mg base CX0 3 T.m_init.f T.m_init.fd ["self", "first", "second"] (spI T.C R_init) := by
  refine fn_init T.m_init.F sc_Pinit (by decide) (fun ds d ⟨_, _, h, _⟩ => by subst h; rfl) (fun cdv A outer s H E hr ds d hR => ?_)
  obtain ⟨f, s', rfl, v, rfl⟩ := hR
  have n1 := v.v1.ln
  have n2 := v.v2.ln
  have n3 := v.v2.le
  refine (i_cons (i_set (f := "places") (by rfl) (by rfl) T.cl T.na_places rfl (by simp) rfl (g_call (pe_call (ok_places_of T) (hr.mono (by decide)) (by rfl) T.d_places_of.g T.d_places_of.F.kp T.d_places_of.b .nil pass0 (ga_cons (g_var rfl (pv 1)) ga_nil)) ⟨f, rfl, v.v1, rfl⟩) (pv 0)) 
    (i_cons (i_set (f := "first") (by rfl) (by rfl) T.cl T.na_first rfl (by simp) ?g3 (g_var rfl (pv 1)) (pv 0)) 
    (i_cons (i_set (f := "second") (by rfl) (by rfl) T.cl T.na_second rfl (by simp) ?g4 (g_var rfl (pv 2)) (pv 0)) 
    (i_cons (i_set (f := "own") (d := lN (List.range s'.1.length)) (by rfl) (by rfl) T.cl T.na_own rfl (by simp) ?g5 (isD_eq (g_n (g_lcF (xs := (s'.1.map D.str).zipIdx) (emb := fun p => .pr [.int (p.2 : Nat), p.1]) (fun x => true) (fun x => D.int (x.2 : Nat)) rfl sc_Pinit.nd (gi_en (pi_enT (by rfl) T.z_enumerate (ga_cons (g_ixT rfl (g_var rfl (pv 2)) g_int (fun _ _ => rfl)) ga_nil))) (blkOk_by (own := [("at", 3), ("letter", 4)]) (N := N_Pinit) (sc := defScope s_Pinit) (by decide +kernel)) (fun _ _ _ _ _ => pg_tup rfl (pgs_cons (pg_name (i := 3) sc_Pinit.nd rfl (Or.inl rfl)) (pgs_cons (pg_name (i := 4) sc_Pinit.nd rfl (Or.inl rfl)) pgs_nil))) (fun x hx => ga_twoW (by simp) (by simp)) (fun _ _ _ _ _ x hx => gts_one (tB_eq (g_inDt (x := (match x.1 with | .v (.str z) => z | _ => default)) (hu_of hr) (by rfl) (isD_eq (g_var rfl (pv 4)) ?ek) (g_fld T.cl T.na_places rfl (g_var rfl (pv 0)))) ?et)) (fun _ _ _ _ _ x hx ht => (g_var rfl (pv 3))) (hw2 rfl rfl) ?g6)) ?e6) (pv 0)) 
    (i_cons (i_set (f := "letters") (d := lS s'.1) (by rfl) (by rfl) T.cl T.na_letters rfl (by simp) ?g7 (isD_eq (g_n (g_lc (xs := List.range s'.1.length) (emb := fun (n : Nat) => D.int (n : Nat)) (fun x => D.str (s'.1.getD x default)) rfl sc_Pinit.nd (gi_lst (g_fld T.cl T.na_own rfl (g_var rfl (pv 0)))) (blkOk_by (own := [("at", 3)]) (N := N_Pinit) (sc := defScope s_Pinit) (by decide +kernel)) (fun _ _ _ _ _ => pg_name (i := 3) sc_Pinit.nd rfl (Or.inl rfl)) (fun x hx => ga_nameW (by simp)) (fun _ _ _ _ _ x hx => (g_ixT (at_mapD default rfl (List.mem_range.mp hx)) (g_ixT rfl (g_var rfl (pv 2)) g_int (fun _ _ => rfl)) (g_var rfl (pv 3)) (fun _ _ => rfl))) (hw1 rfl) ?g9)) ?e9) (pv 0)) 
    (i_cons (i_set (f := "many") (d := .int (s'.1.length : Nat)) (by rfl) (by rfl) T.cl T.na_many rfl (by simp) rfl (isD_eq (g_lenL (by rfl) T.z_len (g_l (g_fld T.cl T.na_own rfl (g_var rfl (pv 0))))) ?e10) (pv 0)) 
    (i_cons (i_set (f := "links") (d := .lst ((List.range s'.1.length).map fun i => lN (link f s' i))) (by rfl) (by rfl) T.cl T.na_links rfl (by simp) ?g11 (isD_eq (g_n (g_lc (xs := List.range s'.1.length) (fun i => lN (link f s' i)) rfl sc_Pinit.nd (gi_rng1 (n := ((s'.1.length : Nat) : Int)) ?g12 (by rfl) T.z_range (g_fld T.cl T.na_many rfl (g_var rfl (pv 0)))) (blkOk_by (own := [("i", 5)]) (N := N_Pinit) (sc := defScope s_Pinit) (by decide +kernel)) (fun _ _ _ _ _ => pg_name (i := 5) sc_Pinit.nd rfl (Or.inr rfl)) (fun x hx => ga_nameW (by simp)) (fun _ _ _ _ _ x hx => (isD_eq (g_n (g_lcF (xs := List.range (((s'.1.length : Nat) : Int) - (((x : Nat) : Int) + 1)).toNat) (fun k => foll f s' x (x + 1 + k)) (fun k => D.int ((x + 1 + k : Nat) : Int)) rfl sc_Pinit.nd (gi_rng2 (m := ((x : Nat) : Int) + 1) (n := ((s'.1.length : Nat) : Int)) ?g13 (by rfl) T.z_range (g_add (g_var rfl (pv 5)) g_int) (g_fld T.cl T.na_many rfl (g_var rfl (pv 0)))) (blkOk_by (own := [("j", 6)]) (N := N_Pinit) (sc := relab (defScope s_Pinit) (scOf ((defBody s_Pinit).getD 6 (.Pass ⟨0, 0, 0, 0⟩)))) (by decide +kernel)) (fun _ _ _ _ _ => pg_name (i := 6) sc_Pinit.nd rfl (Or.inl rfl)) (fun x hx => ga_nameW (by simp)) (fun _ _ _ _ _ k hk => gts_one (gt_val (g_meth (pe_meth (g_var rfl (pv 0)) T.cl T.m_can_follow.m (ok_Pcan_follow T) (hr.mono (by decide)) T.m_can_follow.b .nil pass0 (ga_cons (g_var rfl (pv 5)) (ga_cons (g_var rfl (pv 6)) ga_nil))) rfl ?hR))) (fun _ _ _ _ _ k hk ht => isD_eq (g_var rfl (pv 6)) ?e16) (hw1 rfl) ?g15)) ?e15)) (hw1 rfl) ?g16)) rfl) (pv 0)) 
    i_end)))))))
  case g3 =>
    show (noIs (f.1.map D.str) && (noIs (f.2.map D.int) && true)) = true
    rw [noIs_map (fun _ => rfl), noIs_map (fun _ => rfl)]
    rfl
  case g4 =>
    show (noIs (s'.1.map D.str) && (noIs (s'.2.map D.int) && true)) = true
    rw [noIs_map (fun _ => rfl), noIs_map (fun _ => rfl)]
    rfl
  case g5 => exact noIs_map (fun _ => rfl) _
  case ek =>
    rw [List.zipIdx_map] at hx
    obtain ⟨y, _, rfl⟩ := List.mem_map.mp hx
    rfl
  case et =>
    rw [List.zipIdx_map] at hx
    obtain ⟨y, hy, rfl⟩ := List.mem_map.mp hx
    have hm : y.1 ∈ s'.1 := by
      have := List.mem_map_of_mem (f := Prod.fst) hy
      rwa [List.zipIdx_map_fst] at this
    show (valV (plD f) (Sum.inr y.1)).isSome = true
    rw [plD_get (v.mem.mp hm)]
    rfl
  case g6 =>
    rw [List.length_zipIdx, List.length_map]
    omega
  case e6 =>
    have e1 : (List.map D.str s'.1).zipIdx.filter (fun _ => true) = (List.map D.str s'.1).zipIdx := by simp
    rw [e1]
    have e2 : (List.map D.str s'.1).zipIdx.map (fun x => D.int ((x.2 : Nat) : Int)) = ((List.map D.str s'.1).zipIdx.map Prod.snd).map (fun (n : Nat) => D.int (n : Nat)) := by
      rw [List.map_map]
      rfl
    rw [e2, List.zipIdx_map_snd, List.length_map, List.range_eq_range']
  case g7 => exact noIs_map (fun _ => rfl) _
  case g9 =>
    rw [List.length_range]
    omega
  case e9 =>
    congr 1
    apply List.ext_getElem
    · simp
    · intro j h1 h2
      have hj : j < s'.1.length := by simpa using h1
      simp [List.getD_eq_getElem?_getD, List.getElem?_eq_getElem hj]
  case e10 => simp
  case g11 => exact noIs_map (g := fun i => lN (link f s' i)) (fun i => by show noIs _ = true; exact noIs_map (fun _ => rfl) _) _
  case g12 => omega
  case g13 =>
    have := List.mem_range.mp hx
    omega
  case hR =>
    have := List.mem_range.mp hk
    have e : ((x : Nat) : Int) + 1 + ((k : Nat) : Int) = ((x + 1 + k : Nat) : Int) := by omega
    rw [e]
    exact ⟨_, f, s', x, x + 1 + k, rfl, rfl, rfl, rfl, rfl, rfl, by omega, by omega, v, rfl⟩
  case e16 => simp
  case g15 =>
    rw [List.length_range]
    omega
  case e15 =>
    unfold link lN
    rw [List.filter_map, List.map_map]
    have e : (((s'.1.length : Nat) : Int) - (((x : Nat) : Int) + 1)).toNat = s'.1.length - (x + 1) := by omega
    rw [e]
    congr 1
  case g16 =>
    rw [List.length_range]
    omega
end
end Ga
/-! common.py: lengths, levels, the longest common list -/
namespace Ga
open PySem PySem.Spec PyProof.Rows L2 Mi
theorem link_lk (f s : Ord) : Lk (link f s) s.1.length := ⟨fun i j h => by
  unfold link at h
  have h1 := (List.mem_filter.mp h).1
  obtain ⟨k, hk, e⟩ := List.mem_map.mp h1
  have := List.mem_range.mp hk
  omega⟩
theorem lookLk {lk : Nat → List Nat} {n i : Nat} {z : Int} (hz : z = (i : Int)) (h : i < n) : atI ((List.range n).map fun i => lN (lk i)) z = some (lN (lk i)) := by
  subst hz
  refine at_map ?_
  rw [List.getElem?_range h]
theorem lookInt {ls : List Int} {i : Nat} {z : Int} (hz : z = (i : Int)) (h : i < ls.length) : atI (ls.map D.int) z = some (D.int (ls.getD i 0)) := at_mapD 0 hz h
theorem gA_eq {g : TG} {Γ Γ' : Ctx} {d d' : D} {W : L2.St → L2.St → Prop} (h : gA g Γ Γ' d W) (e : d = d') : gA g Γ Γ' d' W := e ▸ h
theorem isN_eq {X : Cx} {Γ : Ctx} {e : Expr} {ds ds' : List D} (h : PE X e (tN Γ ds)) (q : ds = ds') : PE X e (tN Γ ds') := q ▸ h
theorem gi_eq {X : Cx} {Γ : Ctx} {tg e : Expr} {ds ds' : List D} (h : PI X tg e (iG Γ ds)) (q : ds = ds') : PI X tg e (iG Γ ds') := q ▸ h
theorem isD_eqR {X : Cx} {Γ : Ctx} {st : Stmt} {d d' : D} (h : PS X st (sG Γ (.rt d))) (e : d = d') : PS X st (sG Γ (.rt d')) := e ▸ h
theorem lk_len (f s : Ord) (i : Nat) : (link f s i).length ≤ s.1.length := by
  unfold link
  refine Nat.le_trans (List.length_filter_le _ _) ?_
  rw [List.length_map, List.length_range]
  omega
section
variable {P : Program} {w : World} {K : PySem.W.Frag} {mg : Str → Option Value} {base : Heap}
def R_lengths (C : Addr) : List D → D → Prop := fun ds d => ∃ f s : Ord, ds = [.ins C (pF f s)] ∧ V2 f s ∧ d = lI (lens (link f s) s.1.length)
theorem ok_Plengths (T : Top K mg) : FnOk P w K mg base CX0 1 T.m_lengths.f T.m_lengths.fd ["self"] (spF (R_lengths T.C)) := by
  refine fn_rt T.m_lengths.F sc_Plengths (fun ds d ⟨_, _, h, _⟩ => by subst h; rfl) (fun cdv A outer s H E hr ds d hR => ?_)
  obtain ⟨f, s', rfl, v, rfl⟩ := hR
  have n3 := v.v2.le
  have hk := link_lk f s'
  refine (s_cons (p_asgN (ds := (lensN (link f s') s'.1.length 0).map D.int) (i := 1) sc_Plengths.nd rfl (Or.inr rfl) (isN_eq (g_lc (fun x => D.int 1) rfl sc_Plengths.nd (gi_lst (g_fld T.cl T.na_letters rfl (g_var rfl (pv 0)))) (blkOk_by (own := [("_", 3)]) (N := N_Plengths) (sc := defScope s_Plengths) (by decide +kernel)) (fun _ _ _ _ _ => pg_name (i := 3) sc_Plengths.nd rfl (Or.inl rfl)) (fun x hx => ga_nameW (by simp)) (fun _ _ _ _ _ x hx => g_int) (hw1 rfl) ?g1) ?e0)) 
    (s_for (xs := List.range s'.1.length) (emb := fun k => D.int (((s'.1.length : Nat) : Int) - 1 - (k : Nat))) (fun k => [.d (.ins T.C (pF f s')), .m ((lensN (link f s') s'.1.length k).map D.int), .any, .any, .any]) (fun k => [.d (.ins T.C (pF f s')), .m ((lensN (link f s') s'.1.length k).map D.int), .d (.int ((s'.1.length - 1 - k : Nat) : Int)), .any, .any]) .never rfl (gi_eq (gi_rng3 (m := ((s'.1.length : Nat) : Int) - 1) (n := -1) ?g2 (pi_range3 (by rfl) T.z_range (ga_cons (g_sub (g_fld T.cl T.na_many rfl (g_var rfl (pv 0))) g_int) (ga_cons (g_neg g_int) (ga_cons (g_neg g_int) ga_nil))))) ?e1) (pg_name (i := 2) sc_Plengths.nd rfl (Or.inl rfl)) (fun i hi => gA_eq (ga_name (d := .int ((s'.1.length - 1 - i : Nat) : Int))) ?e2) (fun i hi => s_less (s_cons (p_setL rfl ?g3 (ps_asg (g_add g_int (g_maxL (ns := 0 :: (link f s' (s'.1.length - 1 - i)).map fun j => (lensN (link f s') s'.1.length i).getD j 0) ?g4 rfl (by simp) (by rfl) T.z_max (g_nl (g_catL ?g6 (g_nl (g_lst (ga_cons g_int ga_nil) (by simp))) (g_nl (g_lc (xs := link f s' (s'.1.length - 1 - i)) (fun j => D.int ((lensN (link f s') s'.1.length i).getD j 0)) rfl sc_Plengths.nd (gi_lst (g_ixL (lookLk rfl ?g7) (g_l (g_fld T.cl T.na_links rfl (g_var rfl (pv 0)))) (g_var rfl (pv 2)) (fun _ _ => rfl))) (blkOk_by (own := [("j", 4)]) (N := N_Plengths) (sc := defScope s_Plengths) (by decide +kernel)) (fun _ _ _ _ _ => pg_name (i := 4) sc_Plengths.nd rfl (Or.inl rfl)) (fun x hx => ga_nameW (by simp)) (fun _ _ _ _ _ x hx => (g_ixL (lookInt rfl ?g8) (g_varm rfl (pv 1)) (g_var rfl (pv 4)) (fun _ _ => rfl))) (hw1 rfl) ?g9)))))) (pg_sub (pv 1) (g_var rfl (pv 2)) set_list))) 
      s_end) ⟨rfl, ?g10, trivial⟩) ⟨rfl, rfl, trivial⟩ 
    (s_ret (isD_eqR (p_retM rfl (pv 1)) ?g12))))
  case g1 => omega
  case e0 =>
    simp only [lensN, List.range_zero, List.foldl_nil, List.map_map, List.map_replicate]
    exact List.map_const'
  case g2 => omega
  case e1 =>
    have e : (((s'.1.length : Nat) : Int) - 1 - -1).toNat = s'.1.length := by omega
    rw [e]
  case e2 =>
    have hi' : i < s'.1.length := by simpa using hi
    rw [List.getElem_range]
    congr 2
    omega
  case g3 =>
    have hi' : i < s'.1.length := by simpa using hi
    rw [List.length_map, lensN_len]
    omega
  case g4 => simp
  case g6 =>
    have := lk_len f s' (s'.1.length - 1 - i)
    simp only [List.length_map, List.length_cons, List.length_nil]
    omega
  case g7 =>
    have hi' : i < s'.1.length := by simpa using hi
    omega
  case g8 =>
    rw [lensN_len]
    exact (hk.lt _ _ hx).2
  case g9 =>
    have := lk_len f s' (s'.1.length - 1 - i)
    omega
  case g10 =>
    rw [lensN_succ, lenStep, List.map_set]
  case g12 =>
    rw [List.length_range]
    rfl
def R_levels (C : Addr) : List D → D → Prop := fun ds d => ∃ f s : Ord, ds = [.ins C (pF f s)] ∧ V2 f s ∧ d = lI (levs (link f s) s.1.length)
theorem ok_Plevels (T : Top K mg) : FnOk P w K mg base CX0 1 T.m_levels.f T.m_levels.fd ["self"] (spF (R_levels T.C)) := by
  refine fn_rt T.m_levels.F sc_Plevels (fun ds d ⟨_, _, h, _⟩ => by subst h; rfl) (fun cdv A outer s H E hr ds d hR => ?_)
  obtain ⟨f, s', rfl, v, rfl⟩ := hR
  have n3 := v.v2.le
  have hk := link_lk f s'
  refine (s_cons (p_lc (i := 1) (fun x => D.int 1) rfl sc_Plevels.nd rfl (by rfl) (by rfl) (gi_lst (g_fld T.cl T.na_letters rfl (g_var rfl (pv 0)))) (blkOk_by (own := [("_", 4)]) (N := N_Plevels) (sc := defScope s_Plevels) (by decide +kernel)) (fun _ _ _ _ _ => pg_name (i := 4) sc_Plevels.nd rfl (Or.inl rfl)) (fun x hx => ga_nameW (by simp)) (fun _ _ _ _ _ x hx => g_int) (hw1 rfl) ?g1) 
    (s_for (xs := List.range s'.1.length) (emb := fun (k : Nat) => D.int (k : Nat)) (fun i => [.d (.ins T.C (pF f s')), .m ((levsN (link f s') s'.1.length i).map D.int), .any, .any, .any]) (fun i => [.d (.ins T.C (pF f s')), .m ((levsN (link f s') s'.1.length i).map D.int), .d (.int (i : Nat)), .any, .any]) .never rfl (gi_rng1 (n := ((s'.1.length : Nat) : Int)) ?g2 (by rfl) T.z_range (g_fld T.cl T.na_many rfl (g_var rfl (pv 0)))) (pg_name (i := 2) sc_Plevels.nd rfl (Or.inl rfl)) (fun i hi => gA_eq (ga_name (d := .int (i : Nat))) ?e2) (fun i hi => s_less (s_for (xs := link f s' i) (emb := fun (k : Nat) => D.int (k : Nat)) (fun j => [.d (.ins T.C (pF f s')), .m ((levIn i (levsN (link f s') s'.1.length i) ((link f s' i).take j)).map D.int), .d (.int (i : Nat)), .any, .any]) (fun j => [.d (.ins T.C (pF f s')), .m ((levIn i (levsN (link f s') s'.1.length i) ((link f s' i).take j)).map D.int), .d (.int (i : Nat)), .d (.int ((link f s' i).getD j 0 : Nat)), .any]) .never rfl (gi_lst (g_ixL (lookLk rfl ?g3) (g_l (g_fld T.cl T.na_links rfl (g_var rfl (pv 0)))) (g_var rfl (pv 2)) (fun _ _ => rfl))) (pg_name (i := 3) sc_Plevels.nd rfl (Or.inl rfl)) (fun j hj => gA_eq (ga_name (d := .int ((link f s' i).getD j 0 : Nat))) ?e4) (fun j hj => s_less (s_cons (p_setL rfl ?g4 (ps_asg (g_max2 rfl (by rfl) T.z_max (g_ixL (lookInt rfl ?g5) (g_varm rfl (pv 1)) (g_var rfl (pv 3)) (fun _ _ => rfl)) (g_add (g_ixL (lookInt rfl ?g6) (g_varm rfl (pv 1)) (g_var rfl (pv 2)) (fun _ _ => rfl)) g_int)) (pg_sub (pv 1) (g_var rfl (pv 3)) set_list))) 
        s_end) ⟨rfl, ?g7, rfl, trivial⟩) ⟨rfl, rfl, rfl, trivial⟩
      s_end) ⟨rfl, ?g9, trivial⟩) ⟨rfl, ?g10, trivial⟩ 
    (s_ret (isD_eqR (p_retM rfl (pv 1)) ?g11))))
  case g1 => omega
  case g2 => omega
  case e2 => rw [List.getElem_range]
  case g3 => simpa using hi
  case e4 => rw [List.getD_eq_getElem?_getD, List.getElem?_eq_getElem hj, Option.getD_some]
  case g4 =>
    rw [List.length_map, levIn_len, levsN_len, List.getD_eq_getElem?_getD, List.getElem?_eq_getElem hj]
    exact (hk.lt _ _ (List.getElem_mem hj)).2
  case g5 =>
    rw [levIn_len, levsN_len, List.getD_eq_getElem?_getD, List.getElem?_eq_getElem hj]
    exact (hk.lt _ _ (List.getElem_mem hj)).2
  case g6 =>
    rw [levIn_len, levsN_len]
    simpa using hi
  case g7 =>
    have e : (link f s' i).take (j + 1) = (link f s' i).take j ++ [(link f s' i).getD j 0] := by
      rw [List.take_add_one, List.getD_eq_getElem?_getD, List.getElem?_eq_getElem hj]
      rfl
    rw [e, levIn_snoc, List.map_set]
  case g9 => rw [List.take_length, levsN_succ]
  case g10 =>
    congr 1
    simp only [levsN, List.range_zero, List.foldl_nil, List.map_map, List.map_replicate]
    exact List.map_const'.symm
  case g11 =>
    rw [List.length_range]
    rfl
end
end Ga
/-! common.py: the longest common list, levels, are_right -/
namespace Ga
open PySem PySem.Spec PyProof.Rows L2 Mi
abbrev bestL (f s : Ord) : List Str := (best (link f s) s.1.length).map fun i => s.1.getD i default
theorem V2.pos {f s : Ord} (v : V2 f s) : 0 < s.1.length := v.v2.one
theorem top_le {f s : Ord} (v : V2 f s) : top (link f s) s.1.length ≤ (s.1.length : Nat) := by
  have hk := link_lk f s
  obtain ⟨b1, b2, b3⟩ := best_ok hk v.pos
  have gen : ∀ {c : List Nat} {i : Nat}, Chain (link f s) (i :: c) → (∀ j ∈ i :: c, j < s.1.length) → i + (i :: c).length ≤ s.1.length := by
    intro c
    induction c with
    | nil =>
      intro i _ h
      have := h i (by simp)
      simp
      omega
    | cons j c ih =>
      intro i hc h
      have h1 := ih hc.2 (fun x hx => h x (List.mem_cons_of_mem _ hx))
      have h2 := (hk.lt i j hc.1).1
      simp only [List.length_cons] at h1 ⊢
      omega
  rw [← b3]
  cases hb : best (link f s) s.1.length with
  | nil => simp
  | cons i c =>
    rw [hb] at b1 b2
    have := gen b1 b2
    omega
section
variable {P : Program} {w : World} {K : PySem.W.Frag} {mg : Str → Option Value} {base : Heap}
def R_longest_in (C : Addr) : List D → D → Prop := fun ds d => ∃ f s : Ord, ds = [.ins C (pF f s)] ∧ V2 f s ∧ d = tS (bestL f s)
theorem ok_longest_in (T : Top K mg) : FnOk P w K mg base CX0 2 T.d_longest_in.f T.d_longest_in.fd ["pairs"] (spF (R_longest_in T.C)) := by
  refine fn_rt T.d_longest_in.F sc_longest_in (fun ds d ⟨_, _, h, _⟩ => by subst h; rfl) (fun cdv A outer s H E hr ds d hR => ?_)
  obtain ⟨f, s', rfl, v, rfl⟩ := hR
  have n3 := v.v2.le
  have hk := link_lk f s'
  have hn := v.pos
  have tp := top_pos hk hn
  have tl := top_le v
  refine (s_cons (p_asg (i := 1) sc_longest_in.nd rfl (Or.inr rfl) (g_meth0 (pe_meth0 (g_var rfl (pv 0)) T.cl T.m_lengths.m (ok_Plengths T) (hr.mono (by decide)) T.m_lengths.b .nil pass0) rfl ⟨f, s', rfl, v, rfl⟩)) 
    (s_cons (p_asgN (i := 2) sc_longest_in.nd rfl (Or.inl rfl) (g_lst ga_nil (by simp))) 
    (s_cons (p_asg (d := .int (top (link f s') s'.1.length)) (i := 3) sc_longest_in.nd rfl (Or.inr rfl) (g_maxL (ns := 0 :: lens (link f s') s'.1.length) ?g2 rfl (by simp) (by rfl) T.z_max (g_nl (g_catL ?g4 (g_nl (g_lst (ga_cons g_int ga_nil) (by simp))) (g_l (g_var rfl (pv 1))))))) 
    (s_cons (p_asg (d := lN (List.range s'.1.length)) (i := 4) sc_longest_in.nd rfl (Or.inl rfl) (g_n (g_listR (n := ((s'.1.length : Nat) : Int)) rfl ?g5 ?g6 (by rfl) T.z_list (by rfl) T.z_range (g_fld T.cl T.na_many rfl (g_var rfl (pv 0)))))) 
    (s_while (fun t => [.d (.ins T.C (pF f s')), .d (lI (lens (link f s') s'.1.length)), .m ((walkN (link f s') s'.1.length t).1.map fun i => D.str (s'.1.getD i default)), .d (.int (top (link f s') s'.1.length - (t : Nat))), .d (lN (walkN (link f s') s'.1.length t).2), .any, .any]) (top (link f s') s'.1.length).toNat .never (fun t ht => tB_eq (Cmp.t (g_gt (g_var rfl (pv 3)) g_int)) ?g7) (fun t ht => s_less (s_cons (p_asg (d := .int (pick (lens (link f s') s'.1.length) (walkN (link f s') s'.1.length t).2 (top (link f s') s'.1.length - (t : Nat)) : Nat)) (i := 5) sc_longest_in.nd rfl (Or.inl rfl) (isD_eq (g_minL (ns := ((walkN (link f s') s'.1.length t).2.filter fun j => decide ((lens (link f s') s'.1.length).getD j 0 = top (link f s') s'.1.length - (t : Nat))).map fun (j : Nat) => (j : Int)) ?g8 rfl ?g9 (by rfl) T.z_min (g_nl (g_lcF (xs := (walkN (link f s') s'.1.length t).2) (fun j => decide ((lens (link f s') s'.1.length).getD j 0 = top (link f s') s'.1.length - (t : Nat))) (fun j => D.int (j : Nat)) rfl sc_longest_in.nd (gi_lst (g_var rfl (pv 4))) (blkOk_by (own := [("one", 6)]) (N := N_longest_in) (sc := defScope s_longest_in) (by decide +kernel)) (fun _ _ _ _ _ => pg_name (i := 6) sc_longest_in.nd rfl (Or.inl rfl)) (fun x hx => ga_nameW (by simp)) (fun _ _ _ _ _ x hx => gts_one (Cmp.t (g_eqI (g_ixL (lookInt rfl ?g10) (g_l (g_var rfl (pv 1))) (g_var rfl (pv 6)) (fun _ _ => rfl)) (g_var rfl (pv 3))))) (fun _ _ _ _ _ x hx ht => (g_var rfl (pv 6))) (hw1 rfl) ?g11))) ?e11)) 
      (s_cons (p_app rfl ?g12 (pe_bm PySem.F.plainAttrs_list PySem.F.slot_list_append PySem.F.type_list_append mt_append (pv 2) (ga_cons (g_ixL (at_mapD default rfl ?g13) (g_l (g_fld T.cl T.na_letters rfl (g_var rfl (pv 0)))) (g_var rfl (pv 5)) (fun _ _ => rfl)) ga_nil))) 
      (s_cons (p_asg (i := 4) sc_longest_in.nd rfl (Or.inl rfl) (g_ixL (lookLk rfl ?g14) (g_l (g_fld T.cl T.na_links rfl (g_var rfl (pv 0)))) (g_var rfl (pv 5)) (fun _ _ => rfl))) 
      (s_cons (p_aug (op := .Sub) rfl (ps_aug (i := 3) sc_longest_in.nd rfl (Or.inr rfl) g_int ip_sub)) 
      s_end)))) ⟨rfl, rfl, ?g15, ?g16, rfl, trivial⟩) ⟨rfl, rfl, rfl, ?g17, rfl, trivial⟩
    (s_ret (p_ret (isD_eq (g_tupL (by rfl) T.z_tuple (g_varm rfl (pv 2))) ?g18))))))))
  case g2 => rfl
  case g4 =>
    rw [List.length_map, lens_len]
    simp only [List.length_cons, List.length_nil]
    omega
  case g5 => omega
  case g6 => omega
  case g7 =>
    apply decide_eq_decide.mpr
    omega
  case g8 =>
    rw [List.map_map]
    rfl
  case g9 => exact (pick_ok (walkN_ok hk hn t (by omega)).1).2.2.1
  case e11 => rw [(pick_ok (walkN_ok hk hn t (by omega)).1).2.2.2]
  case g10 =>
    rw [lens_len]
    exact (walkN_ok hk hn t (by omega)).2 _ hx
  case g11 =>
    cases t with
    | zero =>
      simp only [walkN, List.length_range]
      omega
    | succ t =>
      have := lk_len f s' (pick (lens (link f s') s'.1.length) (walkN (link f s') s'.1.length t).2 (lmax (0 :: lens (link f s') s'.1.length) - (t : Nat)))
      simp only [walkN]
      omega
  case g12 =>
    rw [List.length_map, (walkN_all hk hn t (by omega)).2]
    omega
  case g13 =>
    have h := walkN_ok hk hn t (by omega)
    exact h.2 _ (pick_ok h.1).1
  case g14 =>
    have h := walkN_ok hk hn t (by omega)
    exact h.2 _ (pick_ok h.1).1
  case g15 =>
    show Sl.m ((walkN (link f s') s'.1.length (t + 1)).1.map fun i => D.str (s'.1.getD i default)) = _
    rw [walkN, List.map_append]
    rfl
  case g16 =>
    have e : top (link f s') s'.1.length - ((t + 1 : Nat) : Int) = top (link f s') s'.1.length - (t : Nat) - 1 := by omega
    rw [e]
  case g17 =>
    have e : top (link f s') s'.1.length - ((0 : Nat) : Int) = top (link f s') s'.1.length := by omega
    rw [e]
  case g18 =>
    show D.tup _ = D.tup _
    rw [List.map_map]
    rfl
theorem ok_longest_of (T : Top K mg) : FnOk P w K mg base CX0 5 T.d_longest_of.f T.d_longest_of.fd ["first", "second"] (spF fun ds d => ∃ f s : Ord, ds = [ordD f, ordD s] ∧ V2 f s ∧ d = tS (bestL f s)) := by
  refine fn_rt T.d_longest_of.F sc_longest_of (fun ds d ⟨_, _, h, _⟩ => by subst h; rfl) (fun cdv A outer s H E hr ds d hR => ?_)
  obtain ⟨f, s', rfl, v, rfl⟩ := hR
  exact (s_ret (p_ret (isD_eq (g_call (pe_call (ok_longest_in T) (hr.mono (by decide)) (by rfl) T.d_longest_in.g T.d_longest_in.F.kp T.d_longest_in.b .nil pass0 (ga_cons (g_make (pe_make T.mkC (ok_Pinit T) (hr.mono (by decide)) (by rfl) T.gC T.m_init.b .nil pass0 (ga_cons (g_var rfl (pv 0)) (ga_cons (g_var rfl (pv 1)) ga_nil))) ⟨f, s', rfl, v, rfl⟩) ga_nil)) ⟨f, s', rfl, v, rfl⟩) rfl)))
def R_levels_of : List D → D → Prop := fun ds d => ∃ f s : Ord, ds = [ordD f, ordD s] ∧ V2 f s ∧ d = tI (levs (link f s) s.1.length)
theorem ok_levels_of (T : Top K mg) : FnOk P w K mg base CX0 5 T.d_levels_of.f T.d_levels_of.fd ["first", "second"] (spF R_levels_of) := by
  refine fn_rt T.d_levels_of.F sc_levels_of (fun ds d ⟨_, _, h, _⟩ => by subst h; rfl) (fun cdv A outer s H E hr ds d hR => ?_)
  obtain ⟨f, s', rfl, v, rfl⟩ := hR
  have n3 := v.v2.le
  have ll := levs_len (lk := link f s') (n := s'.1.length)
  refine (s_cons (p_asg (i := 2) sc_levels_of.nd rfl (Or.inl rfl) (g_make (pe_make T.mkC (ok_Pinit T) (hr.mono (by decide)) (by rfl) T.gC T.m_init.b .nil pass0 (ga_cons (g_var rfl (pv 0)) (ga_cons (g_var rfl (pv 1)) ga_nil))) ⟨f, s', rfl, v, rfl⟩)) 
    (s_cons (p_lc (i := 3) (fun x => D.int 0) rfl sc_levels_of.nd rfl (by rfl) (by rfl) (gi_tup (g_ixT rfl (g_var rfl (pv 1)) g_int (fun _ _ => rfl))) (blkOk_by (own := [("_", 6)]) (N := N_levels_of) (sc := defScope s_levels_of) (by decide +kernel)) (fun _ _ _ _ _ => pg_name (i := 6) sc_levels_of.nd rfl (Or.inl rfl)) (fun x hx => ga_nameW (by simp)) (fun _ _ _ _ _ x hx => g_int) (hw1 rfl) ?g2) 
    (s_for (xs := (List.range s'.1.length).zip (levs (link f s') s'.1.length)) (emb := fun p => .pr [.int (p.1 : Nat), .int p.2]) (fun i => [.d (ordD f), .d (ordD s'), .d (.ins T.C (pF f s')), .m (((levs (link f s') s'.1.length).take i ++ List.replicate (s'.1.length - i) 0).map D.int), .any, .any, .any]) (fun i => [.d (ordD f), .d (ordD s'), .d (.ins T.C (pF f s')), .m (((levs (link f s') s'.1.length).take i ++ List.replicate (s'.1.length - i) 0).map D.int), .d (.int (i : Nat)), .d (.int ((levs (link f s') s'.1.length).getD i 0)), .any]) .never rfl (gi_eq (gi_zipL (RZ.pi_zipA (by rfl) T.z_zip (ga_cons (g_fld T.cl T.na_own rfl (g_var rfl (pv 2))) (ga_cons (g_meth0 (pe_meth0 (g_var rfl (pv 2)) T.cl T.m_levels.m (ok_Plevels T) (hr.mono (by decide)) T.m_levels.b .nil pass0) rfl ⟨f, s', rfl, v, rfl⟩) ga_nil)))) ?e3) (pg_tup rfl (pgs_cons (pg_name (i := 4) sc_levels_of.nd rfl (Or.inl rfl)) (pgs_cons (pg_name (i := 5) sc_levels_of.nd rfl (Or.inl rfl)) pgs_nil))) (fun i hi => gA_eq (ga_two (d1 := .int (i : Nat)) (d2 := .int ((levs (link f s') s'.1.length).getD i 0))) ?e4) (fun i hi => s_less (s_cons (p_setL rfl ?g4 (ps_asg (g_var rfl (pv 5)) (pg_sub (pv 3) (g_var rfl (pv 4)) set_list))) 
      s_end) ⟨rfl, rfl, rfl, ?g5, trivial⟩) ⟨rfl, rfl, rfl, ?g6, trivial⟩
    (s_ret (p_ret (isD_eq (g_tupL (by rfl) T.z_tuple (g_varm rfl (pv 3))) ?g7))))))
  case g2 => omega
  case e3 =>
    rw [List.zip_map, List.map_map]
    rfl
  case e4 =>
    have h2 : i < (levs (link f s') s'.1.length).length := by
      rw [List.length_zip] at hi
      omega
    rw [List.getElem_zip, List.getElem_range, List.getD_eq_getElem?_getD, List.getElem?_eq_getElem h2, Option.getD_some]
  case g4 =>
    rw [List.length_zip, List.length_range] at hi
    simp only [List.length_map, List.length_append, List.length_take, List.length_replicate]
    omega
  case g5 =>
    have h2 : i < (levs (link f s') s'.1.length).length := by
      rw [List.length_zip] at hi
      omega
    congr 1
    have tl : ((levs (link f s') s'.1.length).take i).length = i := by
      rw [List.length_take]
      omega
    obtain ⟨k, hk⟩ : ∃ k, s'.1.length - i = k + 1 := ⟨s'.1.length - i - 1, by omega⟩
    have hk2 : s'.1.length - (i + 1) = k := by omega
    rw [hk, hk2, ← List.map_set]
    congr 1
    rw [List.take_add_one, List.getElem?_eq_getElem h2, List.replicate_succ, List.set_append_right _ _ (by omega), tl, Nat.sub_self, List.set_cons_zero, List.getD_eq_getElem?_getD, List.getElem?_eq_getElem h2, List.append_assoc]
    rfl
  case g6 =>
    congr 1
    rw [List.take_zero, List.nil_append, Nat.sub_zero, List.map_replicate]
    exact List.map_const'.symm
  case g7 =>
    rw [List.length_zip, List.length_range, ll, Nat.min_self, Nat.sub_self, List.take_of_length_le (Nat.le_of_eq ll)]
    simp
def R_levels_for : List D → D → Prop := fun ds d => ∃ f s : Ord, ds = [ordD f, ordD s] ∧ V2 f s ∧ d = tI (levs (link f s) s.1.length)
theorem ok_levels_for (T : Top K mg) : FnOk P w K mg base CX0 6 T.d_levels_for.f T.d_levels_for.fd ["first", "second"] (spF R_levels_for) := by
  refine fn_rt T.d_levels_for.F sc_levels_for (fun ds d ⟨_, _, h, _⟩ => by subst h; rfl) (fun cdv A outer s H E hr ds d hR => ?_)
  obtain ⟨f, s', rfl, v, rfl⟩ := hR
  exact (s_cons (p_call (g_call (d := .non) (pe_call (ok_check_two T) (hr.mono (by decide)) (by rfl) T.d_check_two.g T.d_check_two.F.kp T.d_check_two.b .nil pass0 (ga_cons (g_var rfl (pv 0)) (ga_cons (g_var rfl (pv 1)) ga_nil))) ⟨f, s', rfl, v.v1, v.v2, rfl⟩)) 
    (s_ret (p_ret (isD_eq (g_call (pe_call (ok_levels_of T) (hr.mono (by decide)) (by rfl) T.d_levels_of.g T.d_levels_of.F.kp T.d_levels_of.b .nil pass0 (ga_cons (g_var rfl (pv 0)) (ga_cons (g_var rfl (pv 1)) ga_nil))) ⟨f, s', rfl, v, rfl⟩) rfl))))
def R_is_integer : List D → D → Prop := fun ds d => ∃ i : Int, ds = [.int i] ∧ d = .bl true
theorem ok_is_integer (T : Top K mg) : FnOk P w K mg base CX0 1 T.d_is_integer.f T.d_is_integer.fd ["value"] (spF R_is_integer) := by
  refine fn_rt T.d_is_integer.F sc_is_integer (fun ds d ⟨i, h, _⟩ => by subst h; rfl) (fun cdv A outer s H E hr ds d hR => ?_)
  obtain ⟨i, rfl, rfl⟩ := hR
  exact s_ret (p_ret (isD_eq (g_and (g_isi kk_ii rfl (by decide) (by rfl) T.z_isinstance (g_var rfl (pv 0)) (pe_bltn (v := .ty "int") (by rfl) T.z_int (by decide +kernel) rfl))
    (fun _ => g_one (g_not (g_isi kk_ib rfl (by decide) (by rfl) T.z_isinstance (g_var rfl (pv 0)) (pe_bltn (v := .ty "bool") (by rfl) T.z_bool (by decide +kernel) rfl))))) rfl))
end
end Ga
/-! common.py: are_right -/
namespace Ga
open PySem PySem.Spec PyProof.Rows L2 Mi
def badAt (lk : Nat → List Nat) (ls : List Int) (i : Nat) : Bool := (lk i).any fun j => decide (ls.getD j 0 ≤ ls.getD i 0)
def rightL (lk : Nat → List Nat) (ls : List Int) : Bool := ls.all (fun l => decide (1 ≤ l)) && (List.range ls.length).all fun i => !badAt lk ls i
section
variable {P : Program} {w : World} {K : PySem.W.Frag} {mg : Str → Option Value} {base : Heap}
def R_are_right : List D → D → Prop := fun ds d => ∃ f s : Ord, V2 f s ∧ ((∃ ls : List Int, ds = [ordD f, ordD s, tI ls] ∧ ls.length = s.1.length ∧ d = .bl (rightL (link f s) ls)) ∨ (∃ es, ds = [ordD f, ordD s, .lst es] ∧ d = .bl false) ∨ (ds = [ordD f, ordD s, .non] ∧ d = .bl false))
theorem ok_are_right (T : Top K mg) : FnOk P w K mg base CX0 5 T.d_are_right.f T.d_are_right.fd ["first", "second", "levels"] (spF R_are_right) := by
  refine fn_rt T.d_are_right.F sc_are_right (fun ds d ⟨_, _, _, h⟩ => by rcases h with ⟨_, h, _⟩ | ⟨_, h, _⟩ | ⟨h, _⟩ <;> subst h <;> rfl) (fun cdv A outer s H E hr ds d hR => ?_)
  obtain ⟨f, s', v, ⟨ls, rfl, hl, rfl⟩ | ⟨es, rfl, rfl⟩ | ⟨rfl, rfl⟩⟩ := hR
  · have n3 := v.v2.le
    have hk := link_lk f s'
    refine (s_ifF (gt_w (gw_or (gt_not (gt_val (g_isi kk_tt rfl (by decide) (by rfl) T.z_isinstance (g_var rfl (pv 2)) (pe_bltn (v := .ty "tuple") (by rfl) T.z_tuple (by decide +kernel) rfl)))) (fun h2 => (gw_or (Cmp.t (g_neI (g_lenT (by rfl) T.z_len (g_var rfl (pv 2))) (g_lenT (by rfl) T.z_len (g_ixT rfl (g_var rfl (pv 1)) g_int (fun _ _ => rfl))))) (fun h1 => (gw_or1 (gt_not (gt_val (g_allC rfl (by rfl) T.z_all (g_nl (g_lc (fun x => D.bl true) rfl sc_are_right.nd (gi_tup (g_var rfl (pv 2))) (blkOk_by (own := [("one", 6)]) (N := N_are_right) (sc := defScope s_are_right) (by decide +kernel)) (fun _ _ _ _ _ => pg_name (i := 6) sc_are_right.nd rfl (Or.inl rfl)) (fun x hx => ga_nameW (by simp)) (fun _ _ _ _ _ x hx => (g_call (pe_call (ok_is_integer T) (hr.mono (by decide)) (by rfl) T.d_is_integer.g T.d_is_integer.F.kp T.d_is_integer.b .nil pass0 (ga_cons (g_var rfl (pv 6)) ga_nil)) ⟨x, rfl, rfl⟩)) (hw1 rfl) (by omega)))))))))))) ?g3 
    (s_cons (p_asg (i := 3) sc_are_right.nd rfl (Or.inr rfl) (g_make (pe_make T.mkC (ok_Pinit T) (hr.mono (by decide)) (by rfl) T.gC T.m_init.b .nil pass0 (ga_cons (g_var rfl (pv 0)) (ga_cons (g_var rfl (pv 1)) ga_nil))) ⟨f, s', rfl, v, rfl⟩)) 
    (s_ifF (gt_not (gt_val (g_allC rfl (by rfl) T.z_all (g_nl (g_lc (xs := List.range s'.1.length) (fun x => D.bl true) rfl sc_are_right.nd (gi_eq (gi_rng1 (n := ((s'.1.length : Nat) : Int)) ?g5 (by rfl) T.z_range (isD_eq (g_lenT (by rfl) T.z_len (g_var rfl (pv 2))) ?e5)) rfl) (blkOk_by (own := [("at", 7)]) (N := N_are_right) (sc := defScope s_are_right) (by decide +kernel)) (fun _ _ _ _ _ => pg_name (i := 7) sc_are_right.nd rfl (Or.inl rfl)) (fun x hx => ga_nameW (by simp)) (fun _ _ _ _ _ x hx => isD_eq (g_or (Cmp.v (g_eqI (g_ixT (lookInt rfl ?g6) (g_var rfl (pv 2)) (g_var rfl (pv 7)) (fun _ _ => rfl)) g_int)) (fun h4 => (g_one (g_inDv (x := s'.1.getD x default) (hu_of hr) (by rfl) (g_ixT (at_mapD default rfl ?g7) (g_ixT rfl (g_var rfl (pv 1)) g_int (fun _ _ => rfl)) (g_var rfl (pv 7)) (fun _ _ => rfl)) (g_fld T.cl T.na_places rfl (g_var rfl (pv 3))))))) ?e7) (hw1 rfl) ?g8))))) ?g9
    (s_cons (p_asg (i := 4) sc_are_right.nd rfl (Or.inr rfl) (isD_eq (g_n (g_lc (xs := List.range s'.1.length) (emb := fun (n : Nat) => D.int (n : Nat)) (fun x => D.int (ls.getD x 0)) rfl sc_are_right.nd (gi_lst (g_fld T.cl T.na_own rfl (g_var rfl (pv 3)))) (blkOk_by (own := [("at", 7)]) (N := N_are_right) (sc := defScope s_are_right) (by decide +kernel)) (fun _ _ _ _ _ => pg_name (i := 7) sc_are_right.nd rfl (Or.inl rfl)) (fun x hx => ga_nameW (by simp)) (fun _ _ _ _ _ x hx => (g_ixT (lookInt rfl ?g10) (g_var rfl (pv 2)) (g_var rfl (pv 7)) (fun _ _ => rfl))) (hw1 rfl) ?g11)) (d1 := lI ls) ?e11)) 
    (s_if (gt_not (gt_val (g_allC rfl (by rfl) T.z_all (g_nl (g_lc (fun x => D.bl (decide (1 ≤ x))) rfl sc_are_right.nd (gi_lst (g_var rfl (pv 4))) (blkOk_by (own := [("level", 8)]) (N := N_are_right) (sc := defScope s_are_right) (by decide +kernel)) (fun _ _ _ _ _ => pg_name (i := 8) sc_are_right.nd rfl (Or.inl rfl)) (fun x hx => ga_nameW (by simp)) (fun _ _ _ _ _ x hx => (Cmp.v (g_ge (g_var rfl (pv 8)) g_int))) (hw1 rfl) (by omega)))))) (fun c6 => (s_ret (p_ret (isD_eq g_bl ?g13)))) (fun c6 => 
    (s_forR (xs := List.range s'.1.length) (emb := fun (k : Nat) => D.int (k : Nat)) (fun i => [.d (ordD f), .d (ordD s'), .d (tI ls), .d (.ins T.C (pF f s')), .d (lI ls), .any, .any, .any, .any, .any]) (fun i => [.d (ordD f), .d (ordD s'), .d (tI ls), .d (.ins T.C (pF f s')), .d (lI ls), .d (.int (i : Nat)), .any, .any, .any, .any]) (badAt (link f s') ls) .never rfl (gi_rng1 (n := ((s'.1.length : Nat) : Int)) ?g14 (by rfl) T.z_range (g_fld T.cl T.na_many rfl (g_var rfl (pv 3)))) (pg_name (i := 5) sc_are_right.nd rfl (Or.inr rfl)) (fun i hi => gA_eq (ga_name (d := .int (i : Nat))) ?e14)
      (fun i hi hj hb => s_less (s_ifF (gt_val (g_anyC rfl (by rfl) T.z_any (g_nl (g_lc (xs := link f s' i) (fun j => D.bl (decide (ls.getD j 0 ≤ ls.getD i 0))) rfl sc_are_right.nd (gi_lst (g_ixL (lookLk rfl ?g15) (g_l (g_fld T.cl T.na_links rfl (g_var rfl (pv 3)))) (g_var rfl (pv 5)) (fun _ _ => rfl))) (blkOk_by (own := [("j", 9)]) (N := N_are_right) (sc := defScope s_are_right) (by decide +kernel)) (fun _ _ _ _ _ => pg_name (i := 9) sc_are_right.nd rfl (Or.inl rfl)) (fun x hx => ga_nameW (by simp)) (fun _ _ _ _ _ x hx => (Cmp.v (g_le (g_ixL (lookInt rfl ?g16) (g_l (g_var rfl (pv 4))) (g_var rfl (pv 9)) (fun _ _ => rfl)) (g_ixL (lookInt rfl ?g17) (g_l (g_var rfl (pv 4))) (g_var rfl (pv 5)) (fun _ _ => rfl))))) (hw1 rfl) ?g18)))) hb 
      s_end) ⟨rfl, rfl, rfl, rfl, rfl, trivial⟩) 
      (fun i hi hj hb => s_ifT (gt_val (g_anyC rfl (by rfl) T.z_any (g_nl (g_lc (xs := link f s' i) (fun j => D.bl (decide (ls.getD j 0 ≤ ls.getD i 0))) rfl sc_are_right.nd (gi_lst (g_ixL (lookLk rfl ?g19) (g_l (g_fld T.cl T.na_links rfl (g_var rfl (pv 3)))) (g_var rfl (pv 5)) (fun _ _ => rfl))) (blkOk_by (own := [("j", 9)]) (N := N_are_right) (sc := defScope s_are_right) (by decide +kernel)) (fun _ _ _ _ _ => pg_name (i := 9) sc_are_right.nd rfl (Or.inl rfl)) (fun x hx => ga_nameW (by simp)) (fun _ _ _ _ _ x hx => (Cmp.v (g_le (g_ixL (lookInt rfl ?g20) (g_l (g_var rfl (pv 4))) (g_var rfl (pv 9)) (fun _ _ => rfl)) (g_ixL (lookInt rfl ?g21) (g_l (g_var rfl (pv 4))) (g_var rfl (pv 5)) (fun _ _ => rfl))))) (hw1 rfl) ?g22)))) hb (s_ret (p_ret (isD_eq g_bl ?e23))))
      ⟨rfl, rfl, rfl, rfl, rfl, trivial⟩ (fun hj => 
    (s_ret (p_ret (isD_eq g_bl ?g24)))) ⟨_, .inl rfl⟩)))))))
    case g3 =>
      simp [hl]
    case g5 => omega
    case e5 => rw [List.length_map, hl]
    case g6 =>
      rw [hl]
      exact List.mem_range.mp hx
    case g7 => exact List.mem_range.mp hx
    case e7 =>
      have hx' := List.mem_range.mp hx
      have e : s'.1.getD x default = s'.1[x] := by
        rw [List.getD_eq_getElem?_getD, List.getElem?_eq_getElem hx', Option.getD_some]
      rw [e, plD_get (v.at hx')]
      simp
    case g8 =>
      rw [List.length_range]
      omega
    case g9 => simp
    case g10 =>
      rw [hl]
      exact List.mem_range.mp hx
    case g11 =>
      rw [List.length_range]
      omega
    case e11 =>
      congr 1
      apply List.ext_getElem
      · simp [hl]
      · intro j h1 h2
        have hj : j < ls.length := by simpa using h2
        simp [List.getElem?_eq_getElem hj]
    case g13 =>
      have c : ls.all (fun l => decide (1 ≤ l)) = false := by simpa using c6
      unfold rightL
      rw [c]
      rfl
    case g14 => omega
    case e14 => rw [List.getElem_range]
    case g15 => simpa using hi
    case g16 =>
      rw [hl]
      exact (hk.lt _ _ hx).2
    case g17 =>
      rw [hl]
      simpa using hi
    case g18 =>
      have := lk_len f s' i
      omega
    case g19 => simpa using hi
    case g20 =>
      rw [hl]
      exact (hk.lt _ _ hx).2
    case g21 =>
      rw [hl]
      simpa using hi
    case g22 =>
      have := lk_len f s' i
      omega
    case e23 =>
      have e : (List.range ls.length).all (fun i => !badAt (link f s') ls i) = false := by
        apply List.all_eq_false.mpr
        refine ⟨i, ?_, by simp [hb]⟩
        rw [hl]
        simpa using hi
      unfold rightL
      rw [e, Bool.and_false]
    case g24 =>
      have c : ls.all (fun l => decide (1 ≤ l)) = true := by
        have := congrArg (!·) c6
        simpa using this
      have e : (List.range ls.length).all (fun i => !badAt (link f s') ls i) = true := by
        apply List.all_eq_true.mpr
        intro i hi
        rw [hj i (by rw [hl] at hi; simpa using hi)]
        rfl
      unfold rightL
      rw [c, e]
      rfl
  · exact (s_ifT (gt_w (gw_orT (gt_not (gt_val (g_isi kk_lt rfl (by decide) (by rfl) T.z_isinstance (g_var rfl (pv 2)) (pe_bltn (v := .ty "tuple") (by rfl) T.z_tuple (by decide +kernel) rfl)))) rfl)) rfl (s_ret (p_ret g_bl)))
  · exact (s_ifT (gt_w (gw_orT (gt_not (gt_val (g_isi kk_nt rfl (by decide) (by rfl) T.z_isinstance (g_var rfl (pv 2)) (pe_bltn (v := .ty "tuple") (by rfl) T.z_tuple (by decide +kernel) rfl)))) rfl)) rfl (s_ret (p_ret g_bl)))
end
end Ga
/-! rules.py, keeping.py, fewest.py -/
namespace Ga
open PySem PySem.Spec PyProof.Rows L2 Mi
abbrev ruleD (r : Rl Str) : D := .tup [.str (if r.aft then "after" else "before"), .str r.anc, .int r.str, .str r.let_]
theorem Wo.rem {o : Ord} {x : Str} (v : Wo o) (hx : x ∈ o.1) (h1 : 2 ≤ o.1.length) : Wo (rem o x) := by
  have hn := v.ln
  have hz := v.le
  have hi : o.1.idxOf x < o.1.length := List.idxOf_lt_length_of_mem hx
  have e1 : (Mi.rem o x).1.length + 1 = o.1.length := by
    unfold Mi.rem
    simp only [List.length_append, List.length_take, List.length_drop]
    omega
  have e2 : (Mi.rem o x).2.length + 1 = o.2.length := by
    unfold Mi.rem
    simp only
    split
    · rw [List.length_drop]
      omega
    · split
      · rw [List.length_dropLast]
        omega
      · simp only [List.length_append, List.length_take, List.length_drop, List.length_cons, List.length_nil]
        omega
  exact ⟨by omega, by omega⟩
theorem Wo.rev {o : Ord} (v : Wo o) : Wo (rev o) := ⟨by unfold Mi.rev; simp [v.ln], by unfold Mi.rev; simp [v.le]⟩
section
variable {P : Program} {w : World} {K : PySem.W.Frag} {mg : Str → Option Value} {base : Heap}
def R_turned_around : List D → D → Prop := fun ds d => ∃ o : Ord, ds = [ordD o] ∧ d = ordD (rev o)
theorem ok_turned_around (T : Top K mg) : FnOk P w K mg base CX0 1 T.d_turned_around.f T.d_turned_around.fd ["order"] (spF R_turned_around) := by
  refine fn_rt T.d_turned_around.F sc_turned_around (fun ds d ⟨_, h, _⟩ => by subst h; rfl) (fun cdv A outer s H E hr ds d hR => ?_)
  obtain ⟨o, rfl, rfl⟩ := hR
  refine (s_ret (p_ret (isD_eq (g_tup (ga_cons (g_back (g_ixT rfl (g_var rfl (pv 0)) g_int (fun _ _ => rfl))) (ga_cons (g_back (g_ixT rfl (g_var rfl (pv 0)) g_int (fun _ _ => rfl))) ga_nil)) (by simp)) ?g1)))
  rw [← List.map_reverse, ← List.map_reverse]
  rfl
def R_put_after : List D → D → Prop := fun ds d => ∃ (o : Ord) (a : Str) (s : Int) (y : Str), ds = [ordD o, .str a, .int s, .str y] ∧ Wo o ∧ a ∈ o.1 ∧ d = ordD (putA o a s y)
theorem ok_put_after (T : Top K mg) : FnOk P w K mg base CX0 1 T.d_put_after.f T.d_put_after.fd ["order", "anchor", "strength", "letter"] (spF R_put_after) := by
  refine fn_rt T.d_put_after.F sc_put_after (fun ds d ⟨_, _, _, _, h, _⟩ => by subst h; rfl) (fun cdv A outer s H E hr ds d hR => ?_)
  obtain ⟨o, a, st, y, rfl, v, ha, rfl⟩ := hR
  have hn := v.ln
  have hz := v.le
  have hi : o.1.idxOf a < o.1.length := List.idxOf_lt_length_of_mem ha
  have gl := goes_le (ss := o.2) (s := st) (a := o.1.idxOf a)
  refine (s_cons (p_unp (g_var rfl (pv 0)) (pg_tup rfl (pgs_cons (pg_name (i := 4) sc_put_after.nd rfl (Or.inl rfl)) (pgs_cons (pg_name (i := 5) sc_put_after.nd rfl (Or.inl rfl)) pgs_nil))) ga_tup2) 
    (s_cons (p_asg (i := 6) sc_put_after.nd rfl (Or.inl rfl) (g_tixS (pe_tm PySem.F.slot_tuple_index PySem.F.type_tuple_index mt_tix (g_var rfl (pv 4)) (ga_cons (g_var rfl (pv 1)) ga_nil)) ha)) 
    (s_while (fun i => [.d (ordD o), .d (.str a), .d (.int st), .d (.str y), .d (tS o.1), .d (tI o.2), .d (.int (o.1.idxOf a + i : Nat)), .any]) (goes o.2 st (o.1.idxOf a)) .never (fun i hi => tB_eq (gt_w (gw_and (Cmp.t (g_lt (g_var rfl (pv 6)) (g_lenT (by rfl) T.z_len (g_var rfl (pv 5))))) (fun h1 => (gw_and1 (Cmp.t (g_gt (g_ixT (lookInt rfl ?g2) (g_var rfl (pv 5)) (g_var rfl (pv 6)) (fun _ _ => rfl)) (g_var rfl (pv 2)))))))) ?g3) (fun i hi => s_less (s_cons (p_asg (i := 6) sc_put_after.nd rfl (Or.inl rfl) (g_add (g_var rfl (pv 6)) g_int)) 
      s_end) ⟨rfl, rfl, rfl, rfl, rfl, rfl, rfl, trivial⟩) ⟨rfl, rfl, rfl, rfl, rfl, rfl, rfl, trivial⟩
    (s_cons (p_asg (d := tS (putA o a st y).1) (i := 7) sc_put_after.nd rfl (Or.inl rfl) (isD_eq (g_catT ?g6 (g_catT ?g7 (g_slT (g_var rfl (pv 4)) g_o0 (g_o1 (g_add (g_var rfl (pv 6)) g_int))) (g_tup (ga_cons (g_var rfl (pv 3)) ga_nil) (by simp))) (g_slT (g_var rfl (pv 4)) (g_o1 (g_add (g_var rfl (pv 6)) g_int)) g_o0)) ?e7)) 
    (s_ret (p_ret (isD_eq (g_tup (ga_cons (g_var rfl (pv 7)) (ga_cons (g_catT ?g8 (g_catT ?g9 (g_slT (g_var rfl (pv 5)) g_o0 (g_o1 (g_var rfl (pv 6)))) (g_tup (ga_cons (g_var rfl (pv 2)) ga_nil) (by simp))) (g_slT (g_var rfl (pv 5)) (g_o1 (g_var rfl (pv 6))) g_o0)) ga_nil)) (by simp)) ?g10)))))))
  case g2 =>
    have h := of_decide_eq_true h1
    rw [List.length_map] at h
    omega
  case g3 =>
    rw [List.length_map]
    have := goes_get (ss := o.2) (s := st) (a := o.1.idxOf a) (by omega) i hi
    rw [← this]
    congr 1
    exact decide_eq_decide.mpr (by omega)
  case g6 =>
    have e1 := cut_len (o.1.map D.str) none (some (((o.1.idxOf a + goes o.2 st (o.1.idxOf a) : Nat) : Int) + 1))
    have e2 := cut_len (o.1.map D.str) (some (((o.1.idxOf a + goes o.2 st (o.1.idxOf a) : Nat) : Int) + 1)) none
    simp only [List.length_append, List.length_map, List.length_cons, List.length_nil] at e1 e2 ⊢
    omega
  case g7 =>
    have e1 := cut_len (o.1.map D.str) none (some (((o.1.idxOf a + goes o.2 st (o.1.idxOf a) : Nat) : Int) + 1))
    simp only [List.length_append, List.length_map, List.length_cons, List.length_nil] at e1 ⊢
    omega
  case e7 =>
    rw [cut_toI _ (o.1.idxOf a + goes o.2 st (o.1.idxOf a) + 1) (by omega), cut_fromI _ (o.1.idxOf a + goes o.2 st (o.1.idxOf a) + 1) (by omega), ← List.map_take, ← List.map_drop]
    simp [putA]
  case g8 =>
    have e1 := cut_len (o.2.map D.int) none (some (((o.1.idxOf a + goes o.2 st (o.1.idxOf a) : Nat) : Int)))
    have e2 := cut_len (o.2.map D.int) (some (((o.1.idxOf a + goes o.2 st (o.1.idxOf a) : Nat) : Int))) none
    simp only [List.length_append, List.length_map, List.length_cons, List.length_nil] at e1 e2 ⊢
    omega
  case g9 =>
    have e1 := cut_len (o.2.map D.int) none (some (((o.1.idxOf a + goes o.2 st (o.1.idxOf a) : Nat) : Int)))
    simp only [List.length_append, List.length_map, List.length_cons, List.length_nil] at e1 ⊢
    omega
  case g10 =>
    rw [cut_to, cut_from, ← List.map_take, ← List.map_drop]
    simp [putA]
def R_put : List D → D → Prop := fun ds d => ∃ (o : Ord) (r : Rl Str), ds = [ordD o, ruleD r] ∧ Wo o ∧ r.anc ∈ o.1 ∧ r.anc ≠ r.let_ ∧ d = ordD (put o r)
theorem mem_rem {o : Ord} {x z : Str} (hz : z ∈ o.1) (hne : z ≠ x) : z ∈ (rem o x).1 := by
  unfold Mi.rem
  simp only
  by_cases hx : x ∈ o.1
  · have hi : o.1.idxOf x < o.1.length := List.idxOf_lt_length_of_mem hx
    have e : o.1 = o.1.take (o.1.idxOf x) ++ (x :: o.1.drop (o.1.idxOf x + 1)) := by
      have e2 := List.getElem_idxOf hi
      have e3 := List.drop_eq_getElem_cons hi
      rw [e2] at e3
      rw [← e3, List.take_append_drop]
    rw [e] at hz
    rcases List.mem_append.mp hz with h | h
    · exact List.mem_append.mpr (.inl h)
    · rcases List.mem_cons.mp h with h | h
      · exact absurd h hne
      · exact List.mem_append.mpr (.inr h)
  · have : o.1.idxOf x = o.1.length := List.idxOf_eq_length hx
    rw [this, List.take_length]
    exact List.mem_append.mpr (.inl hz)
theorem ok_put (T : Top K mg) : FnOk P w K mg base CX0 2 T.d_put.f T.d_put.fd ["order", "rule"] (spF R_put) := by
  refine fn_rt T.d_put.F sc_put (fun ds d ⟨_, _, h, _⟩ => by subst h; rfl) (fun cdv A outer s H E hr ds d hR => ?_)
  obtain ⟨o, r, rfl, v, ha, hne, rfl⟩ := hR
  have hz := v.le
  have v1 : Wo (if r.let_ ∈ o.1 then rem o r.let_ else o) := by
    by_cases h : r.let_ ∈ o.1
    · rw [if_pos h]
      refine v.rem h ?_
      obtain ⟨i, hi, ei⟩ := List.mem_iff_getElem.mp ha
      obtain ⟨j, hj, ej⟩ := List.mem_iff_getElem.mp h
      have : i ≠ j := fun z => by
        subst z
        exact hne (ei.symm.trans ej)
      omega
    · rw [if_neg h]
      exact v
  have ha1 : r.anc ∈ (if r.let_ ∈ o.1 then rem o r.let_ else o).1 := by
    by_cases h : r.let_ ∈ o.1
    · rw [if_pos h]
      exact mem_rem ha hne
    · rw [if_neg h]
      exact ha
  refine (s_cons (p_unp (g_var rfl (pv 1)) (pg_tup rfl (pgs_cons (pg_name (i := 2) sc_put.nd rfl (Or.inl rfl)) (pgs_cons (pg_name (i := 3) sc_put.nd rfl (Or.inl rfl)) (pgs_cons (pg_name (i := 4) sc_put.nd rfl (Or.inl rfl)) (pgs_cons (pg_name (i := 5) sc_put.nd rfl (Or.inl rfl)) pgs_nil))))) ga_tup4) 
    (s_ifj (Cmp.t (g_inT (by rfl) (g_var rfl (pv 5)) (g_ixT rfl (g_var rfl (pv 0)) g_int (fun _ _ => rfl)))) (fun c1 => (s_cons (p_asg (d := ordD (if r.let_ ∈ o.1 then rem o r.let_ else o)) (i := 0) sc_put.nd rfl (Or.inl rfl) (g_call (pe_call (ok_removed T) (hr.mono (by decide)) (by rfl) T.d_removed.g T.d_removed.F.kp T.d_removed.b .nil pass0 (ga_cons (g_var rfl (pv 0)) (ga_cons (g_var rfl (pv 5)) ga_nil))) ⟨o, r.let_, rfl, v, of_decide_eq_true c1, by rw [if_pos (of_decide_eq_true c1)]⟩)) 
      s_end)) (fun c1 => ⟨by rw [if_neg (of_decide_eq_false c1)], rfl, rfl, rfl, rfl, rfl, trivial⟩) 
    (s_if (Cmp.t (g_eqS (g_var rfl (pv 2)) g_str)) (fun c2 => (s_ret (p_ret (isD_eq (g_call (pe_call (ok_put_after T) (hr.mono (by decide)) (by rfl) T.d_put_after.g T.d_put_after.F.kp T.d_put_after.b .nil pass0 (ga_cons (g_var rfl (pv 0)) (ga_cons (g_var rfl (pv 3)) (ga_cons (g_var rfl (pv 4)) (ga_cons (g_var rfl (pv 5)) ga_nil))))) ⟨_, _, _, _, rfl, v1, ha1, rfl⟩) ?g4)))) (fun c2 => 
    (s_ret (p_ret (isD_eq (g_call (pe_call (ok_turned_around T) (hr.mono (by decide)) (by rfl) T.d_turned_around.g T.d_turned_around.F.kp T.d_turned_around.b .nil pass0 (ga_cons (g_call (d := ordD (putA (rev (if r.let_ ∈ o.1 then rem o r.let_ else o)) r.anc r.str r.let_)) (pe_call (ok_put_after T) (hr.mono (by decide)) (by rfl) T.d_put_after.g T.d_put_after.F.kp T.d_put_after.b .nil pass0 (ga_cons (g_call (d := ordD (rev (if r.let_ ∈ o.1 then rem o r.let_ else o))) (pe_call (ok_turned_around T) (hr.mono (by decide)) (by rfl) T.d_turned_around.g T.d_turned_around.F.kp T.d_turned_around.b .nil pass0 (ga_cons (g_var rfl (pv 0)) ga_nil)) ⟨_, rfl, rfl⟩) (ga_cons (g_var rfl (pv 3)) (ga_cons (g_var rfl (pv 4)) (ga_cons (g_var rfl (pv 5)) ga_nil))))) ⟨_, _, _, _, rfl, v1.rev, List.mem_reverse.mpr ha1, rfl⟩) ga_nil)) ⟨_, rfl, rfl⟩) ?g8)))))))
  case g4 =>
    have e : r.aft = true := by
      have h := of_decide_eq_true c2
      cases hb : r.aft with
      | true => rfl
      | false =>
        rw [hb] at h
        exact absurd h (by decide)
    simp only [put, e, if_true]
  case g8 =>
    have e : r.aft = false := by
      have h := of_decide_eq_false c2
      cases hb : r.aft with
      | false => rfl
      | true =>
        rw [hb] at h
        exact absurd rfl h
    simp only [put, e, Bool.false_eq_true, if_false]
end
end Ga
/-! keeping.py, fewest.py -/
namespace Ga
open PySem PySem.Spec PyProof.Rows L2 Mi
theorem at_getD {α β : Type} {f : α → β} {ls : List α} {i : Nat} {z : Int} (d : α) (hz : z = (i : Int)) (h : i < ls.length) : atI (ls.map f) z = some (f (ls.getD i d)) := at_mapD d hz h
section
variable {P : Program} {w : World} {K : PySem.W.Frag} {mg : Str → Option Value} {base : Heap}
abbrev lR (rs : List (Rl Str)) : D := .lst (rs.map ruleD)
def R_from_left : List D → D → Prop := fun ds d => ∃ (o : Ord) (lo hi : Nat), ds = [ordD o, .int (lo : Nat), .int (hi : Nat)] ∧ Wo o ∧ 1 ≤ lo ∧ hi ≤ o.1.length ∧ lo ≤ 12 ∧ d = lR (fromLeft o lo hi)
theorem ok_from_left (T : Top K mg) : FnOk P w K mg base CX0 1 T.d_from_left.f T.d_from_left.fd ["second", "low", "high"] (spF R_from_left) := by
  refine fn_rt T.d_from_left.F sc_from_left (fun ds d ⟨_, _, _, h, _⟩ => by subst h; rfl) (fun cdv A outer s H E hr ds d hR => ?_)
  obtain ⟨o, lo, hi, rfl, v, h1, h2, h3, rfl⟩ := hR
  have hn := v.ln
  have hz := v.le
  refine (s_cons (p_unp (g_var rfl (pv 0)) (pg_tup rfl (pgs_cons (pg_name (i := 3) sc_from_left.nd rfl (Or.inr rfl)) (pgs_cons (pg_name (i := 4) sc_from_left.nd rfl (Or.inr rfl)) pgs_nil))) ga_tup2) 
    (s_ret (p_ret (isD_eq (g_n (g_lc (xs := List.range (hi - lo)) (emb := fun (k : Nat) => D.int (((lo : Nat) : Int) + (k : Nat))) (fun k => ruleD ⟨true, o.1.getD (lo + k - 1) default, o.2.getD (lo + k - 1) 0, o.1.getD (lo + k) default⟩) rfl sc_from_left.nd (gi_eq (gi_rng2 (m := ((lo : Nat) : Int)) (n := ((hi : Nat) : Int)) ?g1 (by rfl) T.z_range (g_var rfl (pv 1)) (g_var rfl (pv 2))) ?e1) (blkOk_by (own := [("at", 5)]) (N := N_from_left) (sc := defScope s_from_left) (by decide +kernel)) (fun _ _ _ _ _ => pg_name (i := 5) sc_from_left.nd rfl (Or.inl rfl)) (fun x hx => ga_nameW (by simp)) (fun _ _ _ _ _ x hx => isD_eq (g_tup (ga_cons g_str (ga_cons (g_ixT (at_getD (i := lo + x - 1) default ?e2 ?g2) (g_var rfl (pv 3)) (g_sub (g_var rfl (pv 5)) g_int) (fun _ _ => rfl)) (ga_cons (g_ixT (at_getD (i := lo + x - 1) 0 ?e3 ?g3) (g_var rfl (pv 4)) (g_sub (g_var rfl (pv 5)) g_int) (fun _ _ => rfl)) (ga_cons (g_ixT (at_getD (i := lo + x) default ?e4 ?g4) (g_var rfl (pv 3)) (g_var rfl (pv 5)) (fun _ _ => rfl)) ga_nil)))) (by simp)) ?e5) (hw1 rfl) ?g5)) ?g6))))
  case g1 => omega
  case e1 =>
    have e : (((hi : Nat) : Int) - ((lo : Nat) : Int)).toNat = hi - lo := by omega
    rw [e]
  case e2 =>
    show ((lo : Nat) : Int) + (x : Nat) - 1 = _
    omega
  case g2 =>
    have := List.mem_range.mp hx
    omega
  case e3 =>
    show ((lo : Nat) : Int) + (x : Nat) - 1 = _
    omega
  case g3 =>
    have := List.mem_range.mp hx
    omega
  case e4 =>
    show ((lo : Nat) : Int) + (x : Nat) = _
    omega
  case g4 =>
    have := List.mem_range.mp hx
    omega
  case e5 => rfl
  case g5 =>
    rw [List.length_range]
    omega
  case g6 =>
    unfold fromLeft lR
    rw [List.map_map]
    rfl
def R_from_right : List D → D → Prop := fun ds d => ∃ (o : Ord) (lo hi : Nat), ds = [ordD o, .int (lo : Nat), .int (hi : Nat)] ∧ Wo o ∧ hi + 1 ≤ o.1.length ∧ lo ≤ 12 ∧ d = lR (fromRight o lo hi)
theorem ok_from_right (T : Top K mg) : FnOk P w K mg base CX0 1 T.d_from_right.f T.d_from_right.fd ["second", "low", "high"] (spF R_from_right) := by
  refine fn_rt T.d_from_right.F sc_from_right (fun ds d ⟨_, _, _, h, _⟩ => by subst h; rfl) (fun cdv A outer s H E hr ds d hR => ?_)
  obtain ⟨o, lo, hi, rfl, v, h2, h3, rfl⟩ := hR
  have hn := v.ln
  have hz := v.le
  refine (s_cons (p_unp (g_var rfl (pv 0)) (pg_tup rfl (pgs_cons (pg_name (i := 3) sc_from_right.nd rfl (Or.inr rfl)) (pgs_cons (pg_name (i := 4) sc_from_right.nd rfl (Or.inr rfl)) pgs_nil))) ga_tup2) 
    (s_ret (p_ret (isD_eq (g_n (g_lc (xs := List.range (hi - lo)) (emb := fun (k : Nat) => D.int (((hi : Nat) : Int) - 1 - (k : Nat))) (fun k => ruleD ⟨false, o.1.getD (hi - 1 - k + 1) default, o.2.getD (hi - 1 - k) 0, o.1.getD (hi - 1 - k) default⟩) rfl sc_from_right.nd (gi_eq (gi_rng3 (m := ((hi : Nat) : Int) - 1) (n := ((lo : Nat) : Int) - 1) ?g1 (pi_range3 (by rfl) T.z_range (ga_cons (g_sub (g_var rfl (pv 2)) g_int) (ga_cons (g_sub (g_var rfl (pv 1)) g_int) (ga_cons (g_neg g_int) ga_nil))))) ?e1) (blkOk_by (own := [("at", 5)]) (N := N_from_right) (sc := defScope s_from_right) (by decide +kernel)) (fun _ _ _ _ _ => pg_name (i := 5) sc_from_right.nd rfl (Or.inl rfl)) (fun x hx => ga_nameW (by simp)) (fun _ _ _ _ _ x hx => isD_eq (g_tup (ga_cons g_str (ga_cons (g_ixT (at_getD (i := hi - 1 - x + 1) default ?e2 ?g2) (g_var rfl (pv 3)) (g_add (g_var rfl (pv 5)) g_int) (fun _ _ => rfl)) (ga_cons (g_ixT (at_getD (i := hi - 1 - x) 0 ?e3 ?g3) (g_var rfl (pv 4)) (g_var rfl (pv 5)) (fun _ _ => rfl)) (ga_cons (g_ixT (at_getD (i := hi - 1 - x) default ?e4 ?g4) (g_var rfl (pv 3)) (g_var rfl (pv 5)) (fun _ _ => rfl)) ga_nil)))) (by simp)) ?e5) (hw1 rfl) ?g5)) ?g6))))
  case g1 => omega
  case e1 =>
    have e : (((hi : Nat) : Int) - 1 - (((lo : Nat) : Int) - 1)).toNat = hi - lo := by omega
    rw [e]
  case e2 =>
    have := List.mem_range.mp hx
    show ((hi : Nat) : Int) - 1 - (x : Nat) + 1 = _
    omega
  case g2 =>
    have := List.mem_range.mp hx
    omega
  case e3 =>
    have := List.mem_range.mp hx
    show ((hi : Nat) : Int) - 1 - (x : Nat) = _
    omega
  case g3 =>
    have := List.mem_range.mp hx
    omega
  case e4 =>
    have := List.mem_range.mp hx
    show ((hi : Nat) : Int) - 1 - (x : Nat) = _
    omega
  case g4 =>
    have := List.mem_range.mp hx
    omega
  case e5 => rfl
  case g5 =>
    rw [List.length_range]
    omega
  case g6 =>
    unfold fromRight lR
    rw [List.map_map]
    rfl
def R_gap_rules : List D → D → Prop := fun ds d => ∃ (o : Ord) (lo hi : Nat), ds = [ordD o, .int (lo : Nat), .int (hi : Nat)] ∧ Wo o ∧ lo < hi ∧ hi < o.1.length ∧ d = lR (gapR o lo hi)
theorem ok_gap_rules (T : Top K mg) : FnOk P w K mg base CX0 2 T.d_gap_rules.f T.d_gap_rules.fd ["second", "low", "high"] (spF R_gap_rules) := by
  refine fn_rt T.d_gap_rules.F sc_gap_rules (fun ds d ⟨_, _, _, h, _⟩ => by subst h; rfl) (fun cdv A outer s H E hr ds d hR => ?_)
  obtain ⟨o, lo, hi, rfl, v, h1, h2, rfl⟩ := hR
  have hn := v.ln
  have hz := v.le
  obtain ⟨c1, c2, c3⟩ := cutAt_ok (s := o) h1 (by omega)
  refine (s_cons (p_asg (d := .int (lb o lo hi)) (i := 3) sc_gap_rules.nd rfl (Or.inl rfl) (g_minT rfl (hu_of hr) (ne_mid h1 (by omega)) (by rfl) T.z_min (isD_eq (g_slT (g_ixT rfl (g_var rfl (pv 0)) g_int (fun _ _ => rfl)) (g_o1 (g_var rfl (pv 1))) (g_o1 (g_var rfl (pv 2)))) (lb_eq rfl rfl)))) 
    (s_cons (p_asg (d := .int (cutAt o lo hi : Nat)) (i := 4) sc_gap_rules.nd rfl (Or.inl rfl) (isD_eq (g_add (g_var rfl (pv 1)) (g_tixI (ls := (o.2.drop lo).take (hi - lo)) (pe_tm PySem.F.slot_tuple_index PySem.F.type_tuple_index mt_tix (isD_eq (g_slT (g_ixT rfl (g_var rfl (pv 0)) g_int (fun _ _ => rfl)) (g_o1 (g_var rfl (pv 1))) (g_o1 (g_var rfl (pv 2)))) (lb_eq rfl rfl)) (ga_cons (g_var rfl (pv 3)) ga_nil)) c3)) ?e2)) 
    (s_ret (p_ret (isD_eq (g_n (g_catL (ds1 := (fromLeft o (lo + 1) (cutAt o lo hi + 1)).map ruleD) (ds2 := (fromRight o (cutAt o lo hi + 1) hi).map ruleD) ?g3 (g_l (g_call (pe_call (ok_from_left T) (hr.mono (by decide)) (by rfl) T.d_from_left.g T.d_from_left.F.kp T.d_from_left.b .nil pass0 (ga_cons (g_var rfl (pv 0)) (ga_cons (g_add (g_var rfl (pv 1)) g_int) (ga_cons (g_add (g_var rfl (pv 4)) g_int) ga_nil)))) ⟨o, lo + 1, cutAt o lo hi + 1, rfl, v, by omega, by omega, by omega, rfl⟩)) (g_l (g_call (pe_call (ok_from_right T) (hr.mono (by decide)) (by rfl) T.d_from_right.g T.d_from_right.F.kp T.d_from_right.b .nil pass0 (ga_cons (g_var rfl (pv 0)) (ga_cons (g_add (g_var rfl (pv 4)) g_int) (ga_cons (g_var rfl (pv 2)) ga_nil)))) ⟨o, cutAt o lo hi + 1, hi, rfl, v, by omega, by omega, rfl⟩)))) ?g6)))))
  case e2 =>
    unfold cutAt
    rw [Int.natCast_add]
  case g3 =>
    unfold fromLeft fromRight
    simp only [List.length_map, List.length_range]
    omega
  case g6 =>
    unfold gapR lR
    rw [List.map_append]
/-- places that rise -/
structure Ris (n : Nat) (ps : List Nat) : Prop where
  ne : ps ≠ []
  lt : ∀ p ∈ ps, p < n
  up : ps.Pairwise (· < ·)
  le : ps.length ≤ 12
theorem gaps_len (o : Ord) (v : Wo o) : ∀ qs : List (Nat × Nat), (∀ q ∈ qs, q.1 < q.2 ∧ q.2 < o.1.length) → (gaps o qs).length ≤ 24 * qs.length
  | [], _ => by simp [gaps]
  | q :: qs, h => by
    have ih := gaps_len o v qs fun p hp => h p (by simp [hp])
    obtain ⟨h1, h2⟩ := h q (by simp)
    have hn := v.ln
    have hz := v.le
    obtain ⟨c1, c2, _⟩ := cutAt_ok (s := o) h1 (by omega)
    have e := gapR_len o (lo := q.1) (hi := q.2) (n := 12) (by omega) (by omega)
    have e2 : gaps o (q :: qs) = gapR o q.1 q.2 ++ gaps o qs := rfl
    rw [e2, List.length_append, List.length_cons]
    omega
theorem zip_up {n : Nat} {ps : List Nat} (h : Ris n ps) {i : Nat} (hi : i < (ps.zip (ps.drop 1)).length) : (ps.zip (ps.drop 1))[i].1 < (ps.zip (ps.drop 1))[i].2 ∧ (ps.zip (ps.drop 1))[i].2 < n := by
  rw [List.length_zip, List.length_drop] at hi
  have h1 : i + 1 < ps.length := by omega
  have e : (ps.drop 1)[i]'(by rw [List.length_drop]; omega) = ps[i + 1] := by
    rw [List.getElem_drop]
    congr 1
    omega
  rw [List.getElem_zip]
  simp only
  rw [e]
  exact ⟨List.pairwise_iff_getElem.mp h.up i (i + 1) (by omega) h1 (by omega), h.lt _ (List.getElem_mem h1)⟩
def R_keep : List D → D → Prop := fun ds d => ∃ (o : Ord) (ps : List Nat), ds = [ordD o, tS (ps.map fun i => o.1.getD i default)] ∧ V0 o ∧ Ris o.1.length ps ∧ d = .tup ((keepR o ps).map ruleD)
theorem ok_keep (T : Top K mg) : FnOk P w K mg base CX0 3 T.d_keep.f T.d_keep.fd ["second", "letters"] (spF R_keep) := by
  refine fn_rt T.d_keep.F sc_keep (fun ds d ⟨_, _, h, _⟩ => by subst h; rfl) (fun cdv A outer s H E hr ds d hR => ?_)
  obtain ⟨o, ps, rfl, v0, rs, rfl⟩ := hR
  have v := v0.wo
  have hn := v.ln
  have hz := v.le
  have hl := rs.le
  have hp0 : 0 < ps.length := len_pos rs.ne
  have hh : ps.headD 0 = ps[0] := by
    cases ps with
    | nil => exact absurd rfl rs.ne
    | cons p q => rfl
  have hg : ps.getLastD 0 = ps[ps.length - 1] := by
    rw [List.getLastD_eq_getLast?, List.getLast?_eq_getElem?, List.getElem?_eq_getElem (by omega)]
    rfl
  have zl : (ps.zip (ps.drop 1)).length ≤ 12 := by
    rw [List.length_zip]
    omega
  have gl : ∀ i, (gaps o ((ps.zip (ps.drop 1)).take i)).length ≤ 24 * 12 := fun i => by
    refine Nat.le_trans (gaps_len o v _ fun q hq => ?_) ?_
    · obtain ⟨j, hj, e⟩ := List.mem_iff_getElem.mp (List.mem_of_mem_take hq)
      rw [← e]
      exact zip_up rs hj
    · rw [List.length_take]
      omega
  have fl : (fromRight o 0 (ps.headD 0)).length ≤ 12 := by
    have := rs.lt _ (List.getElem_mem hp0)
    rw [hh]
    unfold fromRight
    rw [List.length_map, List.length_range]
    omega
  refine (s_cons (p_lc (i := 2) (xs := ps) (emb := fun i => D.str (o.1.getD i default)) (fun (x : Nat) => D.int (x : Nat)) rfl sc_keep.nd rfl (by rfl) (by rfl) (gi_eq (gi_tup (g_var rfl (pv 1))) ?e1) (blkOk_by (own := [("letter", 6)]) (N := N_keep) (sc := defScope s_keep) (by decide +kernel)) (fun _ _ _ _ _ => pg_name (i := 6) sc_keep.nd rfl (Or.inl rfl)) (fun x hx => ga_nameW (by simp)) (fun _ _ _ _ _ x hx => isD_eq (g_tixS (ls := o.1) (x := o.1.getD x default) (pe_tm PySem.F.slot_tuple_index PySem.F.type_tuple_index mt_tix (g_ixT rfl (g_var rfl (pv 0)) g_int (fun _ _ => rfl)) (ga_cons (g_var rfl (pv 6)) ga_nil)) ?g1) ?e2) (hw1 rfl) ?g2) (s_own (i := 2) rfl 
    (s_cons (p_asg (d := lR (fromRight o 0 (ps.headD 0))) (i := 3) sc_keep.nd rfl (Or.inl rfl) (g_call (pe_call (ok_from_right T) (hr.mono (by decide)) (by rfl) T.d_from_right.g T.d_from_right.F.kp T.d_from_right.b .nil pass0 (ga_cons (g_var rfl (pv 0)) (ga_cons g_int (ga_cons (g_ixL (i := 0) (lookI (i := 0) hp0) (g_l (g_var rfl (pv 2))) g_int (fun _ _ => rfl)) ga_nil)))) ⟨o, 0, ps.headD 0, ?e4, v, ?g4, by omega, rfl⟩)) 
    (s_for (xs := ps.zip (ps.drop 1)) (emb := fun p => .pr [.int (p.1 : Nat), .int (p.2 : Nat)]) (fun i => [.d (ordD o), .d (tS (ps.map fun i => o.1.getD i default)), .d (lN ps), .d (lR (fromRight o 0 (ps.headD 0) ++ gaps o ((ps.zip (ps.drop 1)).take i))), .any, .any, .any]) (fun i => [.d (ordD o), .d (tS (ps.map fun i => o.1.getD i default)), .d (lN ps), .d (lR (fromRight o 0 (ps.headD 0) ++ gaps o ((ps.zip (ps.drop 1)).take i))), .d (.int ((ps.zip (ps.drop 1)).getD i (0, 0)).1), .d (.int ((ps.zip (ps.drop 1)).getD i (0, 0)).2), .any]) .never rfl (gi_eq (gi_zipL (RZ.pi_zipA (by rfl) T.z_zip (ga_cons (g_var rfl (pv 2)) (ga_cons (g_n (g_slL (g_l (g_var rfl (pv 2))) (g_o1 g_int) g_o0)) ga_nil)))) ?e5) (pg_tup rfl (pgs_cons (pg_name (i := 4) sc_keep.nd rfl (Or.inl rfl)) (pgs_cons (pg_name (i := 5) sc_keep.nd rfl (Or.inl rfl)) pgs_nil))) (fun i hi => gA_eq (ga_two (d1 := .int ((ps.zip (ps.drop 1)).getD i (0, 0)).1) (d2 := .int ((ps.zip (ps.drop 1)).getD i (0, 0)).2)) ?e6) (fun i hi => s_less (s_cons (p_asg (i := 3) sc_keep.nd rfl (Or.inl rfl) (g_n (g_catL (ds2 := (gapR o ((ps.zip (ps.drop 1)).getD i (0, 0)).1 ((ps.zip (ps.drop 1)).getD i (0, 0)).2).map ruleD) ?g5 (g_l (g_var rfl (pv 3))) (g_l (g_call (pe_call (ok_gap_rules T) (hr.mono (by decide)) (by rfl) T.d_gap_rules.g T.d_gap_rules.F.kp T.d_gap_rules.b .nil pass0 (ga_cons (g_var rfl (pv 0)) (ga_cons (g_var rfl (pv 4)) (ga_cons (g_var rfl (pv 5)) ga_nil)))) ⟨o, _, _, rfl, v, ?g6, ?g7, rfl⟩))))) 
      s_end) ⟨rfl, rfl, rfl, ?g8, trivial⟩) ⟨rfl, rfl, rfl, ?g9, trivial⟩
    (s_ret (p_ret (isD_eq (g_tupL (by rfl) T.z_tuple (g_nl (g_catL (ds2 := (fromLeft o (ps.getLastD 0 + 1) o.1.length).map ruleD) ?g10 (g_l (g_var rfl (pv 3))) (g_l (g_call (pe_call (ok_from_left T) (hr.mono (by decide)) (by rfl) T.d_from_left.g T.d_from_left.F.kp T.d_from_left.b .nil pass0 (ga_cons (g_var rfl (pv 0)) (ga_cons (g_add (g_ixL (at_last (f := fun (n : Nat) => D.int (n : Nat)) (x := ps.getLastD 0) ?g11) (g_l (g_var rfl (pv 2))) (g_neg g_int) (fun _ _ => rfl)) g_int) (ga_cons (g_lenT (by rfl) T.z_len (g_ixT rfl (g_var rfl (pv 0)) g_int (fun _ _ => rfl))) ga_nil)))) ⟨o, ps.getLastD 0 + 1, o.1.length, ?e12, v, by omega, Nat.le_refl _, ?g12, rfl⟩))))) ?g13)))))))
  case e1 =>
    rw [List.map_map]
    rfl
  case g1 =>
    have hx' := rs.lt x hx
    rw [List.getD_eq_getElem?_getD, List.getElem?_eq_getElem hx', Option.getD_some]
    exact List.getElem_mem hx'
  case e2 =>
    have hx' := rs.lt x hx
    rw [List.getD_eq_getElem?_getD, List.getElem?_eq_getElem hx', Option.getD_some, v0.nd.idxOf_getElem]
  case g2 => omega
  case e4 =>
    have e : ps.getD 0 0 = ps.headD 0 := by
      rw [hh, List.getD_eq_getElem?_getD, List.getElem?_eq_getElem hp0, Option.getD_some]
    rw [e]
    rfl
  case g4 =>
    have := rs.lt _ (List.getElem_mem hp0)
    rw [hh]
    omega
  case e5 =>
    rw [cut_1, ← List.map_drop, List.zip_map, List.map_map]
    rfl
  case e6 => rw [List.getD_eq_getElem?_getD, List.getElem?_eq_getElem hi, Option.getD_some]
  case g5 =>
    have h1 := gl i
    have h2 := zip_up rs hi
    rw [List.getD_eq_getElem?_getD, List.getElem?_eq_getElem hi, Option.getD_some]
    obtain ⟨c1, c2, _⟩ := cutAt_ok (s := o) h2.1 (by omega)
    have h3 := gapR_len o (lo := (ps.zip (ps.drop 1))[i].1) (hi := (ps.zip (ps.drop 1))[i].2) (n := 12) (by omega) (by omega)
    simp only [List.length_map, List.length_append]
    omega
  case g6 =>
    rw [List.getD_eq_getElem?_getD, List.getElem?_eq_getElem hi, Option.getD_some]
    exact (zip_up rs hi).1
  case g7 =>
    rw [List.getD_eq_getElem?_getD, List.getElem?_eq_getElem hi, Option.getD_some]
    exact (zip_up rs hi).2
  case g8 =>
    rw [List.getD_eq_getElem?_getD, List.getElem?_eq_getElem hi, Option.getD_some, List.take_add_one, List.getElem?_eq_getElem hi]
    simp [gaps]
  case g9 => simp [gaps]
  case g10 =>
    have h1 := gl (ps.zip (ps.drop 1)).length
    simp only [List.length_map, List.length_append, fromLeft, List.length_range]
    omega
  case g11 => rw [hg, List.getLast?_eq_getElem?, List.getElem?_eq_getElem (by omega)]
  case e12 =>
    rw [List.length_map]
    rfl
  case g12 =>
    have := rs.lt _ (List.getElem_mem (show ps.length - 1 < ps.length by omega))
    rw [hg]
    omega
  case g13 =>
    rw [List.take_length, keepR, ← List.map_append]
def R_rules_of : List D → D → Prop := fun ds d => ∃ f s : Ord, ds = [ordD f, ordD s] ∧ V2 f s ∧ Ris s.1.length (best (link f s) s.1.length) ∧ d = .tup ((keepR s (best (link f s) s.1.length)).map ruleD)
theorem ok_rules_of (T : Top K mg) : FnOk P w K mg base CX0 6 T.d_rules_of.f T.d_rules_of.fd ["first", "second"] (spF R_rules_of) := by
  refine fn_rt T.d_rules_of.F sc_rules_of (fun ds d ⟨_, _, h, _⟩ => by subst h; rfl) (fun cdv A outer s H E hr ds d hR => ?_)
  obtain ⟨f, s', rfl, v, rs, rfl⟩ := hR
  exact (s_ret (p_ret (isD_eq (g_if (gt_tup (g_ixT rfl (g_var rfl (pv 1)) g_int (fun _ _ => rfl))) (fun h => (g_call (pe_call (ok_keep T) (hr.mono (by decide)) (by rfl) T.d_keep.g T.d_keep.F.kp T.d_keep.b .nil pass0 (ga_cons (g_var rfl (pv 1)) (ga_cons (g_call (d := tS (bestL f s')) (pe_call (ok_longest_of T) (hr.mono (by decide)) (by rfl) T.d_longest_of.g T.d_longest_of.F.kp T.d_longest_of.b .nil pass0 (ga_cons (g_var rfl (pv 0)) (ga_cons (g_var rfl (pv 1)) ga_nil))) ⟨f, s', rfl, v, rfl⟩) ga_nil))) ⟨s', _, rfl, v.v2, rs, rfl⟩)) (fun h => by
    exfalso
    have := v.pos
    cases hq : s'.1 with
    | nil =>
      rw [hq] at this
      simp at this
    | cons x xs =>
      rw [hq] at h
      simp at h)) rfl)))
end
end Ga
/-! paths.py, steps.py -/
namespace Ga
open PySem PySem.Spec PyProof.Rows L2 Mi
/-! ### data compared -/
theorem eqv_str (x y : Str) : PyData.eqv (.str x) (.str y) = decide (x = y) := by
  show (x == y) = _
  by_cases h : x = y
  · simp [h]
  · simp [h]
theorem eqvAll_map {α : Type} [DecidableEq α] {f : α → D} (h : ∀ x y, PyData.eqv (toPy (f x)) (toPy (f y)) = decide (x = y)) : ∀ xs ys : List α, PyData.eqvAll (toPys (xs.map f)) (toPys (ys.map f)) = decide (xs = ys)
  | [], [] => by simp [toPys, PyData.eqvAll]
  | [], y :: ys => by simp [toPys, PyData.eqvAll]
  | x :: xs, [] => by simp [toPys, PyData.eqvAll]
  | x :: xs, y :: ys => by
    have ih := eqvAll_map h xs ys
    simp only [List.map_cons, toPys, PyData.eqvAll]
    rw [h, ih]
    by_cases h1 : x = y <;> by_cases h2 : xs = ys <;> simp [h1, h2]
theorem eqv_strs (xs ys : List Str) : PyData.eqvAll (toPys (xs.map D.str)) (toPys (ys.map D.str)) = decide (xs = ys) := eqvAll_map (f := D.str) (fun x y => eqv_str x y) xs ys
theorem eqv_ints (xs ys : List Int) : PyData.eqvAll (toPys (xs.map D.int)) (toPys (ys.map D.int)) = decide (xs = ys) := eqvAll_map (f := D.int) (fun x y => by
  show (x == y) = _
  by_cases h : x = y <;> simp [h]) xs ys
theorem eqv_ord (o q : Ord) : PyData.eqv (toPy (ordD o)) (toPy (ordD q)) = decide (o = q) := by
  show PyData.eqvAll [.tuple (toPys (o.1.map D.str)), .tuple (toPys (o.2.map D.int))] [.tuple (toPys (q.1.map D.str)), .tuple (toPys (q.2.map D.int))] = _
  simp only [PyData.eqvAll, PyData.eqv, eqv_strs, eqv_ints, Bool.and_true]
  by_cases h1 : o.1 = q.1 <;> by_cases h2 : o.2 = q.2 <;> simp [h1, h2, Prod.ext_iff]
theorem plain_map {α : Type} {f : α → D} (h : ∀ x, plainD (f x) = true) : ∀ l : List α, plainDs (l.map f) = true
  | [] => rfl
  | x :: l => by
    show (plainD (f x) && plainDs (l.map f)) = true
    rw [h x, plain_map h l]
    rfl
theorem plain_ord (o : Ord) : plainD (ordD o) = true := by
  show (plainDs (o.1.map D.str) && (plainDs (o.2.map D.int) && true)) = true
  rw [plain_map (fun _ => rfl), plain_map (fun _ => rfl)]
  rfl
theorem lay_map {α : Type} {f : α → D} : ∀ l : List α, (∀ x ∈ l, (toPy (f x)).canLay0 = true) → PyData.canLayAll0 (toPys (l.map f)) = true
  | [], _ => rfl
  | x :: l, h => by
    show ((toPy (f x)).canLay0 && PyData.canLayAll0 (toPys (l.map f))) = true
    rw [h x (by simp), lay_map l fun y hy => h y (by simp [hy])]
    rfl
theorem dep_map {α : Type} {f : α → D} {k : Nat} : ∀ l : List α, (∀ x ∈ l, (toPy (f x)).depth ≤ k) → PyData.depthAll (toPys (l.map f)) ≤ k
  | [], _ => Nat.zero_le _
  | x :: l, h => by
    have h1 := h x (by simp)
    have h2 := dep_map (f := f) (k := k) l fun y hy => h y (by simp [hy])
    show PyData.depthAll (toPy (f x) :: toPys (l.map f)) ≤ k
    simp only [PyData.depthAll]
    omega
theorem okL_lay {x : Str} (h : okL x = true) : PyData.strOk x = true := by
  simp only [okL, Bool.and_eq_true] at h
  have h4 := h.2
  unfold PyData.strOk
  rw [← Array.all_toList]
  rw [List.all_eq_true] at h4 ⊢
  intro c hc
  have h5 := h4 c hc
  simp only [Bool.or_eq_true, decide_eq_true_eq] at h5
  have cl : (CH ++ DG).all (fun c => decide (c < 0x110000)) = true := by decide +kernel
  exact List.all_eq_true.mp cl c (List.mem_append.mpr h5)
theorem shaped_S {ls : List Str} (h : ∀ x ∈ ls, okL x = true) : SeqAt.shaped (toPy (tS ls)) = true ∧ SeqAt.shaped (toPy (lS ls)) = true := by
  have h1 : PyData.canLayAll0 (toPys (ls.map D.str)) = true := lay_map ls fun x hx => okL_lay (h x hx)
  have h2 : PyData.depthAll (toPys (ls.map D.str)) ≤ 1 := dep_map ls fun x hx => by simp [toPy, PyData.depth]
  constructor
  · show (PyData.canLayAll0 (toPys (ls.map D.str)) && decide ((PyData.tuple (toPys (ls.map D.str))).depth ≤ 64)) = true
    rw [h1, Bool.true_and]
    refine decide_eq_true ?_
    show PyData.depthAll (toPys (ls.map D.str)) + 1 ≤ 64
    omega
  · show (PyData.canLayAll0 (toPys (ls.map D.str)) && decide ((PyData.list (toPys (ls.map D.str))).depth ≤ 64)) = true
    rw [h1, Bool.true_and]
    refine decide_eq_true ?_
    show PyData.depthAll (toPys (ls.map D.str)) + 1 ≤ 64
    omega
theorem shaped_ord {o : Ord} (h : ∀ x ∈ o.1, okL x = true) : SeqAt.shaped (toPy (ordD o)) = true := by
  have h1 : PyData.canLayAll0 (toPys (o.1.map D.str)) = true := lay_map o.1 fun x hx => okL_lay (h x hx)
  have h2 : PyData.depthAll (toPys (o.1.map D.str)) ≤ 1 := dep_map o.1 fun x hx => by simp [toPy, PyData.depth]
  have h3 : PyData.canLayAll0 (toPys (o.2.map D.int)) = true := lay_map o.2 fun x hx => rfl
  have h4 : PyData.depthAll (toPys (o.2.map D.int)) ≤ 1 := dep_map o.2 fun x hx => by simp [toPy, PyData.depth]
  show ((PyData.canLayAll0 (toPys (o.1.map D.str)) && (PyData.canLayAll0 (toPys (o.2.map D.int)) && true)) && decide ((PyData.tuple [.tuple (toPys (o.1.map D.str)), .tuple (toPys (o.2.map D.int))]).depth ≤ 64)) = true
  rw [h1, h3]
  refine decide_eq_true ?_
  show max (PyData.depthAll (toPys (o.1.map D.str)) + 1) (max (PyData.depthAll (toPys (o.2.map D.int)) + 1) 0) + 1 ≤ 64
  omega
theorem okL_rem {o : Ord} {y : Str} (h : ∀ x ∈ o.1, okL x = true) : ∀ x ∈ (rem o y).1, okL x = true := fun x hx => by
  unfold Mi.rem at hx
  rcases List.mem_append.mp hx with z | z
  · exact h x (List.mem_of_mem_take z)
  · exact h x (List.mem_of_mem_drop z)
section
variable {P : Program} {w : World} {K : PySem.W.Frag} {mg : Str → Option Value} {base : Heap}
def R_has_letters : List D → D → Prop := fun ds d => (∃ (o : Ord) (ls : List Str), ds = [ordD o, tS ls] ∧ V0 o ∧ o.1.Perm ls ∧ d = .bl true) ∨ (∃ ls : List Str, ds = [.non, tS ls] ∧ d = .bl false)
theorem ok_has_letters (T : Top K mg) : FnOk P w K mg base CX0 4 T.d_has_letters.f T.d_has_letters.fd ["value", "letters"] (spF R_has_letters) := by
  refine fn_rt T.d_has_letters.F sc_has_letters (fun ds d h => by rcases h with ⟨_, _, h, _⟩ | ⟨_, h, _⟩ <;> subst h <;> rfl) (fun cdv A outer s H E hr ds d hR => ?_)
  rcases hR with ⟨o, ls, rfl, v, hp, rfl⟩ | ⟨ls, rfl, rfl⟩
  · have hz := v.le
    have hl := hp.length_eq
    have k1 : ∀ x ∈ srt o.1, okL x = true := fun x hx => v.ok x ((srt_perm' o.1).mem_iff.mp hx)
    have k2 : ∀ x ∈ srt ls, okL x = true := fun x hx => v.ok x (hp.mem_iff.mpr ((srt_perm' ls).mem_iff.mp hx))
    refine (s_ret (p_ret (isD_eq (g_and (g_call (pe_call (ok_is_order T) (hr.mono (by decide)) (by rfl) T.d_is_order.g T.d_is_order.F.kp T.d_is_order.b .nil pass0 (ga_cons (g_var rfl (pv 0)) ga_nil)) (.inl ⟨o, rfl, v, rfl⟩)) (fun h1 => (g_one (Cmp.v (g_eqD (d1 := lS (srt o.1)) (d2 := lS (srt ls)) (hr.units) (plain_map (f := D.str) (fun _ => rfl) _) (plain_map (f := D.str) (fun _ => rfl) _) (shaped_S k1).2 (shaped_S k2).2 (g_n (g_sortT ?g6 (by rfl) T.z_sorted (g_ixT rfl (g_var rfl (pv 0)) g_int (fun _ _ => rfl)))) (g_n (g_sortT ?g7 (by rfl) T.z_sorted (g_var rfl (pv 1))))))))) ?g8)))
    case g6 => omega
    case g7 => omega
    case g8 =>
      show D.bl (true && PyData.eqvAll (toPys ((srt o.1).map D.str)) (toPys ((srt ls).map D.str))) = .bl true
      rw [eqv_strs, srt_congr hp]
      simp
  · exact s_ret (p_ret (g_andF (g_call (pe_call (ok_is_order T) (hr.mono (by decide)) (by rfl) T.d_is_order.g T.d_is_order.F.kp T.d_is_order.b .nil pass0 (ga_cons (g_var rfl (pv 0)) ga_nil)) (.inr ⟨rfl, rfl⟩)) rfl))
def R_check_alike : List D → D → Prop := fun ds d => ∃ (o q : Ord) (z : Str), ds = [ordD o, ordD q, .str z] ∧ V2 q o ∧ d = .non
theorem ok_check_alike (T : Top K mg) : FnOk P w K mg base CX0 5 T.d_check_alike.f T.d_check_alike.fd ["value", "order", "name"] (spF R_check_alike) := by
  refine fn_nx T.d_check_alike.F sc_check_alike (fun ds d ⟨_, _, _, h, _, e⟩ => by subst h; exact ⟨rfl, e⟩) (fun cdv A outer s H E hr ds d hR => ?_)
  obtain ⟨o, q, z, rfl, v, rfl⟩ := hR
  exact ⟨_, (s_ifF (gt_not (gt_val (g_call (pe_call (ok_has_letters T) (hr.mono (by decide)) (by rfl) T.d_has_letters.g T.d_has_letters.F.kp T.d_has_letters.b .nil pass0 (ga_cons (g_var rfl (pv 0)) (ga_cons (g_ixT rfl (g_var rfl (pv 1)) g_int (fun _ _ => rfl)) ga_nil))) (.inl ⟨o, q.1, rfl, v.v2, v.p, rfl⟩)))) rfl 
    s_end)⟩
def R_check_begin : List D → D → Prop := fun ds d => ∃ (o : Ord) (z : Str), ds = [ordD o, .str z] ∧ V0 o ∧ d = .non
theorem ok_check_begin (T : Top K mg) : FnOk P w K mg base CX0 4 T.d_check_begin.f T.d_check_begin.fd ["value", "name"] (spF R_check_begin) := by
  refine fn_nx T.d_check_begin.F sc_check_begin (fun ds d ⟨_, _, h, _, e⟩ => by subst h; exact ⟨rfl, e⟩) (fun cdv A outer s H E hr ds d hR => ?_)
  obtain ⟨o, z, rfl, v, rfl⟩ := hR
  refine ⟨_, (s_ifF (gt_w (gw_or (gt_not (gt_val (g_call (pe_call (ok_is_order T) (hr.mono (by decide)) (by rfl) T.d_is_order.g T.d_is_order.F.kp T.d_is_order.b .nil pass0 (ga_cons (g_var rfl (pv 0)) ga_nil)) (.inl ⟨o, rfl, v, rfl⟩)))) (fun h1 => (gw_or1 (gt_not (gt_tup (g_ixT rfl (g_var rfl (pv 0)) g_int (fun _ _ => rfl)))))))) ?g2 
    s_end)⟩
  case g2 =>
    have := v.one
    cases hq : o.1 with
    | nil =>
      rw [hq] at this
      simp at this
    | cons x xs => simp
def stepP (f s : Ord) : Bool := !decide (f = s) && f.1.any fun x => decide (rem f x = rem s x)
def R_is_step : List D → D → Prop := fun ds d => ∃ f s : Ord, ds = [ordD f, ordD s] ∧ V2 f s ∧ d = .bl (stepP f s)
theorem ok_is_step (T : Top K mg) : FnOk P w K mg base CX0 2 T.d_is_step.f T.d_is_step.fd ["first", "second"] (spF R_is_step) := by
  refine fn_rt T.d_is_step.F sc_is_step (fun ds d ⟨_, _, h, _⟩ => by subst h; rfl) (fun cdv A outer s H E hr ds d hR => ?_)
  obtain ⟨f, s', rfl, v, rfl⟩ := hR
  have hz := v.v1.le
  refine (s_if (Cmp.t (g_eqD (hr.units) (plain_ord f) (plain_ord s') (shaped_ord v.v1.ok) (shaped_ord v.v2.ok) (g_var rfl (pv 0)) (g_var rfl (pv 1)))) (fun c1 => (s_ret (p_ret (isD_eq g_bl ?g5)))) (fun c1 => 
    (s_ret (p_ret (isD_eq (g_anyC rfl (by rfl) T.z_any (g_nl (g_lc (fun x => D.bl (PyData.eqv (toPy (ordD (rem f x))) (toPy (ordD (rem s' x))))) rfl sc_is_step.nd (gi_tup (g_ixT rfl (g_var rfl (pv 0)) g_int (fun _ _ => rfl))) (blkOk_by (own := [("letter", 2)]) (N := N_is_step) (sc := defScope s_is_step) (by decide +kernel)) (fun _ _ _ _ _ => pg_name (i := 2) sc_is_step.nd rfl (Or.inl rfl)) (fun x hx => ga_nameW (by simp)) (fun _ _ _ _ _ x hx => (Cmp.v (g_eqD (hr.units) (plain_ord _) (plain_ord _) (shaped_ord (okL_rem v.v1.ok)) (shaped_ord (okL_rem v.v2.ok)) (g_call (pe_call (ok_removed T) (hr.mono (by decide)) (by rfl) T.d_removed.g T.d_removed.F.kp T.d_removed.b .nil pass0 (ga_cons (g_var rfl (pv 0)) (ga_cons (g_var rfl (pv 2)) ga_nil))) ⟨f, x, rfl, v.v1.wo, hx, rfl⟩) (g_call (pe_call (ok_removed T) (hr.mono (by decide)) (by rfl) T.d_removed.g T.d_removed.F.kp T.d_removed.b .nil pass0 (ga_cons (g_var rfl (pv 1)) (ga_cons (g_var rfl (pv 2)) ga_nil))) ⟨s', x, rfl, v.v2.wo, v.mem.mpr hx, rfl⟩)))) (hw1 rfl) ?g12))) ?g13)))))
  case g5 =>
    rw [eqv_ord] at c1
    simp only [stepP, c1]
    rfl
  case g12 => omega
  case g13 =>
    rw [eqv_ord] at c1
    simp only [stepP, c1, eqv_ord]
    rfl
end
end Ga
/-! steps.py: the way, rows, shortest rows -/
namespace Ga
open PySem PySem.Spec PyProof.Rows L2 Mi
/-- after the first i rules -/
def after (f : Ord) (rs : List (Rl Str)) (i : Nat) : Ord := (rs.take i).foldl put f
def runs (f : Ord) (rs : List (Rl Str)) : List Ord := (List.range (rs.length + 1)).map (after f rs)
/-- each rule can be used -/
structure Good (f : Ord) (rs : List (Rl Str)) : Prop where
  le : rs.length ≤ 400
  wo : ∀ i, i < rs.length → Wo (after f rs i)
  anc : ∀ i (h : i < rs.length), rs[i].anc ∈ (after f rs i).1 ∧ rs[i].anc ≠ rs[i].let_
theorem after_succ (f : Ord) (rs : List (Rl Str)) {i : Nat} (h : i < rs.length) : after f rs (i + 1) = put (after f rs i) rs[i] := by
  unfold after
  rw [List.take_add_one, List.getElem?_eq_getElem h, List.foldl_append]
  rfl
abbrev wayRs (f s : Ord) : List (Rl Str) := keepR s (best (link f s) s.1.length)
def rowP (f s : Ord) (os : List Ord) : Bool := !os.isEmpty && (!(!decide (os.head? = some f)) && !(!decide (os.getLast? = some s))) && (os.zip (os.drop 1)).all fun p => stepP p.1 p.2
def itD : Option Ord → D
  | none => .non
  | some o => ordD o
theorem head_at {α : Type} {f : α → D} {l : List α} {x : α} (h : l.head? = some x) : atI (l.map f) 0 = some (f x) := by
  cases l with
  | nil => cases h
  | cons y ys =>
    cases h
    exact at_map (i := 0) rfl
section
variable {P : Program} {w : World} {K : PySem.W.Frag} {mg : Str → Option Value} {base : Heap}
def R_way : List D → D → Prop := fun ds d => ∃ f s : Ord, ds = [ordD f, ordD s] ∧ V2 f s ∧ Ris s.1.length (best (link f s) s.1.length) ∧ Good f (wayRs f s) ∧ d = .tup ((runs f (wayRs f s)).map ordD)
theorem ok_way (T : Top K mg) : FnOk P w K mg base CX0 7 T.d_way.f T.d_way.fd ["first", "second"] (spF R_way) := by
  refine fn_rt T.d_way.F sc_way (fun ds d ⟨_, _, h, _⟩ => by subst h; rfl) (fun cdv A outer s H E hr ds d hR => ?_)
  obtain ⟨f, s', rfl, v, rs, go, rfl⟩ := hR
  have hl := go.le
  refine (s_cons (p_call (g_call (d := .non) (pe_call (ok_check_begin T) (hr.mono (by decide)) (by rfl) T.d_check_begin.g T.d_check_begin.F.kp T.d_check_begin.b .nil pass0 (ga_cons (g_var rfl (pv 0)) (ga_cons g_str ga_nil))) ⟨f, _, rfl, v.v1, rfl⟩)) 
    (s_cons (p_call (g_call (d := .non) (pe_call (ok_check_alike T) (hr.mono (by decide)) (by rfl) T.d_check_alike.g T.d_check_alike.F.kp T.d_check_alike.b .nil pass0 (ga_cons (g_var rfl (pv 1)) (ga_cons (g_var rfl (pv 0)) (ga_cons g_str ga_nil)))) ⟨s', f, _, rfl, v, rfl⟩)) 
    (s_cons (p_asgN (i := 2) sc_way.nd rfl (Or.inl rfl) (g_lst (ga_cons (g_var rfl (pv 0)) ga_nil) (by simp))) 
    (s_for (xs := wayRs f s') (emb := ruleD) (fun i => [.d (ordD f), .d (ordD s'), .m (((List.range (i + 1)).map (after f (wayRs f s'))).map ordD), .any]) (fun i => [.d (ordD f), .d (ordD s'), .m (((List.range (i + 1)).map (after f (wayRs f s'))).map ordD), .d (ruleD ((wayRs f s').getD i ⟨true, default, 0, default⟩))]) .never rfl (gi_tup (g_call (d := .tup ((wayRs f s').map ruleD)) (pe_call (ok_rules_of T) (hr.mono (by decide)) (by rfl) T.d_rules_of.g T.d_rules_of.F.kp T.d_rules_of.b .nil pass0 (ga_cons (g_var rfl (pv 0)) (ga_cons (g_var rfl (pv 1)) ga_nil))) ⟨f, s', rfl, v, rs, rfl⟩)) (pg_name (i := 3) sc_way.nd rfl (Or.inl rfl)) (fun i hi => gA_eq (ga_name (d := ruleD ((wayRs f s').getD i ⟨true, default, 0, default⟩))) ?e1) (fun i hi => s_less (s_cons (p_app (d := ordD (after f (wayRs f s') (i + 1))) rfl ?g4 (pe_bm PySem.F.plainAttrs_list PySem.F.slot_list_append PySem.F.type_list_append mt_append (pv 2) (ga_cons (g_call (pe_call (ok_put T) (hr.mono (by decide)) (by rfl) T.d_put.g T.d_put.F.kp T.d_put.b .nil pass0 (ga_cons (g_ixL (at_last (f := ordD) (x := after f (wayRs f s') i) ?g5) (g_varm rfl (pv 2)) (g_neg g_int) (fun _ _ => rfl)) (ga_cons (g_var rfl (pv 3)) ga_nil))) ⟨after f (wayRs f s') i, (wayRs f s').getD i ⟨true, default, 0, default⟩, rfl, go.wo i hi, ?g6, ?g7, ?g8⟩) ga_nil))) 
      s_end) ⟨rfl, rfl, ?g9, trivial⟩) ⟨rfl, rfl, rfl, trivial⟩
    (s_ret (p_ret (isD_eq (g_tupL (by rfl) T.z_tuple (g_varm rfl (pv 2))) rfl)))))))
  case e1 => rw [List.getD_eq_getElem?_getD, List.getElem?_eq_getElem hi, Option.getD_some]
  case g4 =>
    rw [List.length_map, List.length_map, List.length_range]
    omega
  case g5 => rw [List.range_succ, List.map_append, List.map_singleton, List.getLast?_concat]
  case g6 =>
    rw [List.getD_eq_getElem?_getD, List.getElem?_eq_getElem hi, Option.getD_some]
    exact (go.anc i hi).1
  case g7 =>
    rw [List.getD_eq_getElem?_getD, List.getElem?_eq_getElem hi, Option.getD_some]
    exact (go.anc i hi).2
  case g8 => rw [List.getD_eq_getElem?_getD, List.getElem?_eq_getElem hi, Option.getD_some, after_succ _ _ hi]
  case g9 =>
    rw [List.range_succ (n := i + 1), List.map_append, List.map_append]
    rfl
def R_is_row : List D → D → Prop := fun ds d => ∃ f s : Ord, V2 f s ∧ ((∃ os : List Ord, ds = [ordD f, ordD s, .tup (os.map ordD)] ∧ (∀ o ∈ os, V2 f o) ∧ os.length ≤ 900 ∧ d = .bl (rowP f s os)) ∨
  (∃ xs : List (Option Ord), ds = [ordD f, ordD s, .tup (xs.map itD)] ∧ none ∈ xs ∧ (∀ o, some o ∈ xs → V2 f o) ∧ xs.length ≤ 900 ∧ d = .bl false) ∨ (∃ es, ds = [ordD f, ordD s, .lst es] ∧ d = .bl false) ∨ (ds = [ordD f, ordD s, .non] ∧ d = .bl false))
theorem ok_is_row (T : Top K mg) : FnOk P w K mg base CX0 5 T.d_is_row.f T.d_is_row.fd ["first", "second", "value"] (spF R_is_row) := by
  refine fn_rt T.d_is_row.F sc_is_row (fun ds d ⟨_, _, _, h⟩ => by rcases h with ⟨_, h, _⟩ | ⟨_, h, _⟩ | ⟨_, h, _⟩ | ⟨h, _⟩ <;> subst h <;> rfl) (fun cdv A outer s H E hr ds d hR => ?_)
  obtain ⟨f, s', v, ⟨os, rfl, ho, hl, rfl⟩ | ⟨xs, rfl, hn, ho, hl, rfl⟩ | ⟨es, rfl, rfl⟩ | ⟨rfl, rfl⟩⟩ := hR
  · cases hne : os.isEmpty with
    | true =>
      have e : os = [] := List.isEmpty_iff.mp hne
      subst e
      exact (s_ifT (gt_w (gw_or (gt_not (gt_val (g_isi kk_tt rfl (by decide) (by rfl) T.z_isinstance (g_var rfl (pv 2)) (pe_bltn (v := .ty "tuple") (by rfl) T.z_tuple (by decide +kernel) rfl)))) (fun h2 => (gw_orT (gt_not (gt_tup (g_var rfl (pv 2)))) rfl)))) rfl (s_ret (p_ret g_bl)))
    | false =>
      have hne' : os ≠ [] := fun z => by
        rw [z] at hne
        cases hne
      obtain ⟨a, ha⟩ : ∃ a, os.head? = some a := by
        cases os with
        | nil => exact absurd rfl hne'
        | cons x l => exact ⟨x, rfl⟩
      obtain ⟨z, hz⟩ : ∃ z, os.getLast? = some z := ⟨_, List.getLast?_eq_some_getLast hne'⟩
      have va : V2 f a := ho a (List.mem_of_mem_head? (by rw [ha]; rfl))
      have vz : V2 f z := ho z (List.mem_of_getLast? hz)
      refine (s_ifF (gt_w (gw_or (gt_not (gt_val (g_isi kk_tt rfl (by decide) (by rfl) T.z_isinstance (g_var rfl (pv 2)) (pe_bltn (v := .ty "tuple") (by rfl) T.z_tuple (by decide +kernel) rfl)))) (fun h2 => (gw_or (gt_not (gt_tup (g_var rfl (pv 2)))) (fun h1 => (gw_or1 (gt_not (gt_val (g_allC rfl (by rfl) T.z_all (g_nl (g_lc (fun x => D.bl true) rfl sc_is_row.nd (gi_tup (g_var rfl (pv 2))) (blkOk_by (own := [("order", 3)]) (N := N_is_row) (sc := defScope s_is_row) (by decide +kernel)) (fun _ _ _ _ _ => pg_name (i := 3) sc_is_row.nd rfl (Or.inl rfl)) (fun x hx => ga_nameW (by simp)) (fun _ _ _ _ _ x hx => (g_call (pe_call (ok_has_letters T) (hr.mono (by decide)) (by rfl) T.d_has_letters.g T.d_has_letters.F.kp T.d_has_letters.b .nil pass0 (ga_cons (g_var rfl (pv 3)) (ga_cons (g_ixT rfl (g_var rfl (pv 0)) g_int (fun _ _ => rfl)) ga_nil))) (.inl ⟨x, f.1, rfl, (ho x hx).v2, (ho x hx).p, rfl⟩))) (hw1 rfl) (by omega)))))))))))) ?g3
        (s_if (gt_w (gw_or (Cmp.t (g_neD (hr.units) (plain_ord a) (plain_ord f) (shaped_ord va.v2.ok) (shaped_ord v.v1.ok) (g_ixT (head_at ha) (g_var rfl (pv 2)) g_int (fun _ _ => rfl)) (g_var rfl (pv 0)))) (fun h4 => (gw_or1 (Cmp.t (g_neD (hr.units) (plain_ord z) (plain_ord s') (shaped_ord vz.v2.ok) (shaped_ord v.v2.ok) (g_ixT (at_last hz) (g_var rfl (pv 2)) (g_neg g_int) (fun _ _ => rfl)) (g_var rfl (pv 1)))))))) (fun c5 => (s_ret (p_ret (isD_eq g_bl ?g14)))) (fun c5 => 
        (s_ret (p_ret (isD_eq (g_allC rfl (by rfl) T.z_all (g_nl (g_lc (xs := os.zip (os.drop 1)) (emb := fun p => .pr [ordD p.1, ordD p.2]) (fun p => D.bl (stepP p.1 p.2)) rfl sc_is_row.nd (gi_eq (gi_zipT (RZ.pi_zipA (by rfl) T.z_zip (ga_cons (g_var rfl (pv 2)) (ga_cons (g_slT (g_var rfl (pv 2)) (g_o1 g_int) g_o0) ga_nil)))) ?e15) (blkOk_by (own := [("one", 4), ("other", 5)]) (N := N_is_row) (sc := defScope s_is_row) (by decide +kernel)) (fun _ _ _ _ _ => pg_tup rfl (pgs_cons (pg_name (i := 4) sc_is_row.nd rfl (Or.inl rfl)) (pgs_cons (pg_name (i := 5) sc_is_row.nd rfl (Or.inl rfl)) pgs_nil))) (fun x hx => ga_twoW (by simp) (by simp)) (fun _ _ _ _ _ x hx => (g_call (pe_call (ok_is_step T) (hr.mono (by decide)) (by rfl) T.d_is_step.g T.d_is_step.F.kp T.d_is_step.b .nil pass0 (ga_cons (g_var rfl (pv 4)) (ga_cons (g_var rfl (pv 5)) ga_nil))) ⟨x.1, x.2, rfl, ?g15, rfl⟩)) (hw2 rfl rfl) ?g16))) ?g17))))))
      case g3 => simp [hne']
      case g14 =>
        rw [eqv_ord, eqv_ord] at c5
        unfold rowP
        rw [ha, hz]
        by_cases h1 : a = f <;> by_cases h2 : z = s' <;> simp [h1, h2] at c5 ⊢
      case e15 =>
        rw [cut_1, ← List.map_drop, List.zip_map, List.map_map]
        rfl
      case g15 =>
        have m1 := (List.of_mem_zip hx).1
        have m2 := List.mem_of_mem_drop (List.of_mem_zip hx).2
        exact ⟨(ho _ m1).v2, (ho _ m2).v2, (ho _ m2).p.trans (ho _ m1).p.symm⟩
      case g16 =>
        rw [List.length_zip]
        omega
      case g17 =>
        rw [eqv_ord, eqv_ord] at c5
        unfold rowP
        rw [ha, hz, hne]
        have c1 : a = f := by
          by_cases h1 : a = f
          · exact h1
          · simp [h1] at c5
        have c2 : z = s' := by
          by_cases h1 : z = s'
          · exact h1
          · simp [h1] at c5
        simp [c1, c2]
  · refine (s_ifT (gt_w (gw_or (gt_not (gt_val (g_isi kk_tt rfl (by decide) (by rfl) T.z_isinstance (g_var rfl (pv 2)) (pe_bltn (v := .ty "tuple") (by rfl) T.z_tuple (by decide +kernel) rfl)))) (fun h2 => (gw_or (gt_not (gt_tup (g_var rfl (pv 2)))) (fun h1 => (gw_or1 (gt_not (gt_val (g_allC rfl (by rfl) T.z_all (g_nl (g_lc (xs := xs) (emb := itD) (fun x => D.bl (Option.isSome x)) rfl sc_is_row.nd (gi_tup (g_var rfl (pv 2))) (blkOk_by (own := [("order", 3)]) (N := N_is_row) (sc := defScope s_is_row) (by decide +kernel)) (fun _ _ _ _ _ => pg_name (i := 3) sc_is_row.nd rfl (Or.inl rfl)) (fun x hx => ga_nameW (by simp)) (fun _ _ _ _ _ x hx => (g_call (pe_call (ok_has_letters T) (hr.mono (by decide)) (by rfl) T.d_has_letters.g T.d_has_letters.F.kp T.d_has_letters.b .nil pass0 (ga_cons (g_var rfl (pv 3)) (ga_cons (g_ixT rfl (g_var rfl (pv 0)) g_int (fun _ _ => rfl)) ga_nil))) ?g1)) (hw1 rfl) (by omega)))))))))))) ?g3 (s_ret (p_ret g_bl)))
    case g1 =>
      cases x with
      | none => exact .inr ⟨_, rfl, rfl⟩
      | some o => exact .inl ⟨o, f.1, rfl, (ho o hx).v2, (ho o hx).p, rfl⟩
    case g3 =>
      have e : xs.all (fun x => x.isSome) = false := List.all_eq_false.mpr ⟨none, hn, by simp⟩
      rw [e]
      simp
  · exact (s_ifT (gt_w (gw_orT (gt_not (gt_val (g_isi kk_lt rfl (by decide) (by rfl) T.z_isinstance (g_var rfl (pv 2)) (pe_bltn (v := .ty "tuple") (by rfl) T.z_tuple (by decide +kernel) rfl)))) rfl)) rfl (s_ret (p_ret g_bl)))
  · exact (s_ifT (gt_w (gw_orT (gt_not (gt_val (g_isi kk_nt rfl (by decide) (by rfl) T.z_isinstance (g_var rfl (pv 2)) (pe_bltn (v := .ty "tuple") (by rfl) T.z_tuple (by decide +kernel) rfl)))) rfl)) rfl (s_ret (p_ret g_bl)))
/-! ### a shortest row -/
def lenD : D → Int
  | .tup ds => (ds.length : Nat)
  | _ => 0
def intOf : D → Int
  | .v (.int i) => i
  | _ => 0
def maxD : D → Int
  | .tup ds => lmax (ds.map intOf)
  | _ => 0
theorem maxD_tI (ls : List Int) : maxD (tI ls) = lmax ls := by
  show lmax ((ls.map D.int).map intOf) = _
  rw [List.map_map]
  congr 1
  exact List.map_id' ls
/-- what is told, and whether it is a row, whether the levels are right -/
def RowV (f s : Ord) (x : D) (b : Bool) : Prop := R_is_row [ordD f, ordD s, x] (.bl b)
def LevV (f s : Ord) (y : D) (c : Bool) : Prop := R_are_right [ordD f, ordD s, y] (.bl c)
theorem ordD_inj {o q : Ord} (h : ordD o = ordD q) : o = q := by
  have h1 := eqv_ord o q
  have h2 := eqv_ord q q
  rw [h, h2] at h1
  simpa using h1.symm
def R_is_shortest_row : List D → D → Prop := fun ds d => ∃ (f s : Ord) (x y : D) (b c : Bool), ds = [ordD f, ordD s, x, y] ∧ V2 f s ∧ RowV f s x b ∧ LevV f s y c ∧ d = .bl (b && c && decide (lenD x - 1 + maxD y = (f.1.length : Nat)))
theorem RowV.tup {f s : Ord} {x : D} (h : RowV f s x true) : ∃ ds, x = .tup ds := by
  obtain ⟨_, _, _, ⟨os, e, _⟩ | ⟨xs, e, _, _, _, z⟩ | ⟨_, _, z⟩ | ⟨_, z⟩⟩ := h
  · simp at e
    exact ⟨_, e.2.2⟩
  · simp at z
  · simp at z
  · simp at z
theorem LevV.tup {f s : Ord} {y : D} (v : V2 f s) (h : LevV f s y true) : ∃ ls : List Int, y = tI ls ∧ ls ≠ [] := by
  obtain ⟨f', s', v', ⟨ls, e, hl, _⟩ | ⟨_, _, z⟩ | ⟨_, z⟩⟩ := h
  · simp only [List.cons.injEq, and_true] at e
    have es := ordD_inj e.2.1
    refine ⟨ls, e.2.2, fun z => ?_⟩
    have := v.pos
    rw [es] at this
    rw [z] at hl
    simp at hl
    omega
  · simp at z
  · simp at z
theorem ok_is_shortest_row (T : Top K mg) : FnOk P w K mg base CX0 6 T.d_is_shortest_row.f T.d_is_shortest_row.fd ["first", "second", "row", "levels"] (spF R_is_shortest_row) := by
  refine fn_rt T.d_is_shortest_row.F sc_is_shortest_row (fun ds d ⟨_, _, _, _, _, _, h, _⟩ => by subst h; rfl) (fun cdv A outer s H E hr ds d hR => ?_)
  obtain ⟨f, s', x, y, b, c, rfl, v, hb, hc, rfl⟩ := hR
  refine (s_cons (p_call (g_call (d := .non) (pe_call (ok_check_begin T) (hr.mono (by decide)) (by rfl) T.d_check_begin.g T.d_check_begin.F.kp T.d_check_begin.b .nil pass0 (ga_cons (g_var rfl (pv 0)) (ga_cons g_str ga_nil))) ⟨f, _, rfl, v.v1, rfl⟩)) 
    (s_cons (p_call (g_call (d := .non) (pe_call (ok_check_alike T) (hr.mono (by decide)) (by rfl) T.d_check_alike.g T.d_check_alike.F.kp T.d_check_alike.b .nil pass0 (ga_cons (g_var rfl (pv 1)) (ga_cons (g_var rfl (pv 0)) (ga_cons g_str ga_nil)))) ⟨s', f, _, rfl, v, rfl⟩)) 
    (s_if (gt_w (gw_or (gt_not (gt_val (g_call (d := .bl b) (pe_call (ok_is_row T) (hr.mono (by decide)) (by rfl) T.d_is_row.g T.d_is_row.F.kp T.d_is_row.b .nil pass0 (ga_cons (g_var rfl (pv 0)) (ga_cons (g_var rfl (pv 1)) (ga_cons (g_var rfl (pv 2)) ga_nil)))) hb))) (fun h1 => (gw_or1 (gt_not (gt_val (g_call (d := .bl c) (pe_call (ok_are_right T) (hr.mono (by decide)) (by rfl) T.d_are_right.g T.d_are_right.F.kp T.d_are_right.b .nil pass0 (ga_cons (g_var rfl (pv 0)) (ga_cons (g_var rfl (pv 1)) (ga_cons (g_var rfl (pv 3)) ga_nil)))) hc))))))) (fun c2 => (s_ret (p_ret (isD_eq g_bl ?g5)))) (fun c2 => ?g6))))
  case g5 =>
    cases b <;> cases c <;> simp at c2 ⊢
  case g6 =>
    obtain ⟨rfl, rfl⟩ : b = true ∧ c = true := by
      cases b <;> cases c <;> simp at c2 ⊢
    obtain ⟨es, rfl⟩ := hb.tup
    obtain ⟨ls, rfl, hne⟩ := hc.tup v
    refine (s_ret (p_ret (isD_eq (Cmp.v (g_eqI (g_add (g_sub (g_lenT (by rfl) T.z_len (g_var rfl (pv 2))) g_int) (g_maxT rfl (hu_of hr) hne (by rfl) T.z_max (g_var rfl (pv 3)))) (g_lenT (by rfl) T.z_len (g_ixT rfl (g_var rfl (pv 0)) g_int (fun _ _ => rfl))))) ?g7)))
    rw [maxD_tI, List.length_map]
    rfl
end
end Ga
/-! the law's own: differences, a letter out, the distance -/
namespace Ga
open PySem PySem.Spec PyProof.Rows L2 Mi
theorem V0.wf {o : Ord} (v : V0 o) : Wf o := ⟨v.nd, v.ln⟩
theorem V2.two {f s : Ord} (v : V2 f s) : Two f s := ⟨v.v1.wf, v.v2.wf, v.p⟩
section
variable {P : Program} {w : World} {K : PySem.W.Frag} {mg : Str → Option Value} {base : Heap}
theorem ok_law_is_integer (T : Top K mg) : FnOk P w K mg base CX0 1 T.d_law_is_integer.f T.d_law_is_integer.fd ["_law_actual"] (spF R_is_integer) := by
  refine fn_rt T.d_law_is_integer.F sc_law_is_integer (fun ds d ⟨i, h, _⟩ => by subst h; rfl) (fun cdv A outer s H E hr ds d hR => ?_)
  obtain ⟨i, rfl, rfl⟩ := hR
  exact s_ret (p_ret (isD_eq (g_and (g_isi kk_ii rfl (by decide) (by rfl) T.z_isinstance (g_var rfl (pv 0)) (pe_bltn (v := .ty "int") (by rfl) T.z_int (by decide +kernel) rfl))
    (fun _ => g_one (g_not (g_isi kk_ib rfl (by decide) (by rfl) T.z_isinstance (g_var rfl (pv 0)) (pe_bltn (v := .ty "bool") (by rfl) T.z_bool (by decide +kernel) rfl))))) rfl))
def R_law_equal : List D → D → Prop := fun ds d => ∃ a b : Bool, ds = [.bl a, .bl b] ∧ d = .bl (decide (a = b))
theorem ok_law_equal (T : Top K mg) : FnOk P w K mg base CX0 1 T.d_law_equal.f T.d_law_equal.fd ["_law_actual", "_law_due"] (spF R_law_equal) := by
  refine fn_rt T.d_law_equal.F sc_law_equal (fun ds d ⟨_, _, h, _⟩ => by subst h; rfl) (fun cdv A outer s H E hr ds d hR => ?_)
  obtain ⟨a, b, rfl, rfl⟩ := hR
  exact (s_ifF (Cmp.t (g_isN (g_var rfl (pv 1)) g_non)) (by simp)
    (s_ifT (gt_val (g_isi kk_bb rfl (by decide) (by rfl) T.z_isinstance (g_var rfl (pv 1)) (pe_bltn (v := .ty "bool") (by rfl) T.z_bool (by decide +kernel) rfl))) rfl (s_ret (p_ret (isD_eq (g_and (g_isi kk_bb rfl (by decide) (by rfl) T.z_isinstance (g_var rfl (pv 0)) (pe_bltn (v := .ty "bool") (by rfl) T.z_bool (by decide +kernel) rfl)) (fun h3 => (g_one (Cmp.v (g_eqB (g_var rfl (pv 0)) (g_var rfl (pv 1))))))) (by simp))))))
def R_law_difference : List D → D → Prop := fun ds d => ∃ (o : Ord) (x y : Str), ds = [ordD o, .str x, .str y] ∧ Wf o ∧ x ∈ o.1 ∧ y ∈ o.1 ∧ d = .int (dif o x y)
theorem ok_law_difference (T : Top K mg) : FnOk P w K mg base CX0 1 T.d_law_difference.f T.d_law_difference.fd ["_law_order_here", "_law_x", "_law_y"] (spF R_law_difference) := by
  refine fn_rt T.d_law_difference.F sc_law_difference (fun ds d ⟨_, _, _, h, _⟩ => by subst h; rfl) (fun cdv A outer s H E hr ds d hR => ?_)
  obtain ⟨o, x, y, rfl, v, hx, hy, rfl⟩ := hR
  have hn := v.ln
  have h1 := List.idxOf_lt_length_of_mem hx
  have h2 := List.idxOf_lt_length_of_mem hy
  refine (s_if (Cmp.t (g_eqS (g_var rfl (pv 1)) (g_var rfl (pv 2)))) (fun c1 => (s_ret (p_ret (isD_eq g_int ?g1)))) (fun c1 => 
    (s_cons (p_asg (i := 3) sc_law_difference.nd rfl (Or.inl rfl) (g_min2 rfl (by rfl) T.z_min (g_tixS (pe_tm PySem.F.slot_tuple_index PySem.F.type_tuple_index mt_tix (g_ixT rfl (g_var rfl (pv 0)) g_int (fun _ _ => rfl)) (ga_cons (g_var rfl (pv 1)) ga_nil)) hx) (g_tixS (pe_tm PySem.F.slot_tuple_index PySem.F.type_tuple_index mt_tix (g_ixT rfl (g_var rfl (pv 0)) g_int (fun _ _ => rfl)) (ga_cons (g_var rfl (pv 2)) ga_nil)) hy))) 
    (s_cons (p_asg (i := 4) sc_law_difference.nd rfl (Or.inl rfl) (g_max2 rfl (by rfl) T.z_max (g_tixS (pe_tm PySem.F.slot_tuple_index PySem.F.type_tuple_index mt_tix (g_ixT rfl (g_var rfl (pv 0)) g_int (fun _ _ => rfl)) (ga_cons (g_var rfl (pv 1)) ga_nil)) hx) (g_tixS (pe_tm PySem.F.slot_tuple_index PySem.F.type_tuple_index mt_tix (g_ixT rfl (g_var rfl (pv 0)) g_int (fun _ _ => rfl)) (ga_cons (g_var rfl (pv 2)) ga_nil)) hy))) 
    (s_ret (p_ret (isD_eq (g_minT (ns := (o.2.drop (min (o.1.idxOf x) (o.1.idxOf y))).take (max (o.1.idxOf x) (o.1.idxOf y) - min (o.1.idxOf x) (o.1.idxOf y))) rfl (hu_of hr) ?g6 (by rfl) T.z_min (isD_eq (g_slT (g_ixT rfl (g_var rfl (pv 0)) g_int (fun _ _ => rfl)) (g_o1 (g_var rfl (pv 3))) (g_o1 (g_var rfl (pv 4)))) (lb_eq ?e1 ?e2))) ?g7)))))))
  case g1 =>
    have := of_decide_eq_true c1
    unfold dif
    rw [if_pos this]
  case g6 =>
    have ne := of_decide_eq_false c1
    have : o.1.idxOf x ≠ o.1.idxOf y := fun z => ne (ix_inj hx hy z)
    exact ne_mid (by omega) (by omega)
  case e1 => omega
  case e2 => omega
  case g7 =>
    have ne := of_decide_eq_false c1
    unfold dif
    rw [if_neg ne]
    rfl
def R_law_without : List D → D → Prop := fun ds d => ∃ (o : Ord) (y : Str), ds = [ordD o, .str y] ∧ V0 o ∧ y ∈ o.1 ∧ 2 ≤ o.1.length ∧ d = ordD (rem o y)
theorem ok_law_without (T : Top K mg) : FnOk P w K mg base CX0 2 T.d_law_without.f T.d_law_without.fd ["_law_order_here", "_law_letter"] (spF R_law_without) := by
  refine fn_rt T.d_law_without.F sc_law_without (fun ds d ⟨_, _, h, _⟩ => by subst h; rfl) (fun cdv A outer s H E hr ds d hR => ?_)
  obtain ⟨o, y, rfl, v, hy, h2, rfl⟩ := hR
  have hz := v.le
  have el : o.1.filter (fun x => !decide (x = y)) = (rem o y).1 := congrArg Prod.fst (wout_rem v.wf hy)
  have l1 := rem_len1 (o := o) hy
  refine (s_cons (p_asg (d := lS (o.1.filter fun x => !decide (x = y))) (i := 2) sc_law_without.nd rfl (Or.inr rfl) (g_n (g_lcF (xs := o.1) (emb := D.str) (fun x => !decide (x = y)) D.str rfl sc_law_without.nd (gi_tup (g_ixT rfl (g_var rfl (pv 0)) g_int (fun _ _ => rfl))) (blkOk_by (own := [("_law_one", 4)]) (N := N_law_without) (sc := defScope s_law_without) (by decide +kernel)) (fun _ _ _ _ _ => pg_name (i := 4) sc_law_without.nd rfl (Or.inl rfl)) (fun x hx => ga_nameW (by simp)) (fun _ _ _ _ _ x hx => gts_one (Cmp.t (g_neS (g_var rfl (pv 4)) (g_var rfl (pv 1))))) (fun _ _ _ _ _ x hx ht => (g_var rfl (pv 4))) (hw1 rfl) ?g1))) 
    (s_cons (p_lc (xs := List.range ((o.1.filter fun x => !decide (x = y)).length - 1)) (emb := fun (k : Nat) => D.int (k : Nat)) (i := 3) (fun k => D.int (dif o ((o.1.filter fun x => !decide (x = y)).getD k default) ((o.1.filter fun x => !decide (x = y)).getD (k + 1) default))) rfl sc_law_without.nd rfl (by rfl) (by rfl) (gi_eq (gi_rng1 ?g2 (by rfl) T.z_range (g_sub (g_lenL (by rfl) T.z_len (g_l (g_var rfl (pv 2)))) g_int)) ?e2) (blkOk_by (own := [("_law_k", 5)]) (N := N_law_without) (sc := defScope s_law_without) (by decide +kernel)) (fun _ _ _ _ _ => pg_name (i := 5) sc_law_without.nd rfl (Or.inl rfl)) (fun x hx => ga_nameW (by simp)) (fun _ _ _ _ _ k hk => (g_call (pe_call (ok_law_difference T) (hr.mono (by decide)) (by rfl) T.d_law_difference.g T.d_law_difference.F.kp T.d_law_difference.b .nil pass0 (ga_cons (g_var rfl (pv 0)) (ga_cons (g_ixL (at_getD (f := D.str) (ls := o.1.filter fun x => !decide (x = y)) (i := k) default rfl ?g3) (g_l (g_var rfl (pv 2))) (g_var rfl (pv 5)) (fun _ _ => rfl)) (ga_cons (g_ixL (at_getD (f := D.str) (ls := o.1.filter fun x => !decide (x = y)) (i := k + 1) default ?ez ?g4) (g_l (g_var rfl (pv 2))) (g_add (g_var rfl (pv 5)) g_int) (fun _ _ => rfl)) ga_nil)))) ⟨o, _, _, rfl, v.wf, ?g5, ?g6, rfl⟩)) (hw1 rfl) ?g7) (s_own (i := 3) rfl 
    (s_ret (p_ret (isD_eq (g_tup (ga_cons (g_tupL (by rfl) T.z_tuple (g_l (g_var rfl (pv 2)))) (ga_cons (g_tupL (by rfl) T.z_tuple (g_l (g_var rfl (pv 3)))) ga_nil)) (by simp)) ?g8))))))
  case g1 => omega
  case g2 =>
    rw [el, List.length_map]
    omega
  case e2 =>
    rw [el, List.length_map]
    congr 1
    congr 1
    omega
  case g3 =>
    have := List.mem_range.mp hk
    omega
  case ez => rfl
  case g4 =>
    have := List.mem_range.mp hk
    omega
  case g5 =>
    have hk' := List.mem_range.mp hk
    have m := L_mem (o := (o.1.filter fun x => !decide (x = y), o.2)) (i := k) (by show k < (o.1.filter _).length; omega)
    exact (List.mem_filter.mp m).1
  case g6 =>
    have hk' := List.mem_range.mp hk
    have m := L_mem (o := (o.1.filter fun x => !decide (x = y), o.2)) (i := k + 1) (by show k + 1 < (o.1.filter _).length; omega)
    exact (List.mem_filter.mp m).1
  case g7 =>
    rw [List.length_range, el]
    omega
  case g8 =>
    rw [← wout_rem v.wf hy]
    show D.tup [D.tup ((o.1.filter _).map D.str), D.tup ((List.range _).map _)] = D.tup [D.tup ((wout o y).1.map D.str), D.tup ((wout o y).2.map D.int)]
    unfold wout
    simp only [List.map_map]
    rfl
/-- the law asks, and the program's lists answer -/
theorem ask_foll {f s : Ord} (v : V2 f s) {i j : Nat} (hij : i < j) (hj : j < s.1.length) : (decide ((f.1.idxOf (s.1.getD i default) : Int) < (f.1.idxOf (s.1.getD j default) : Int)) && decide (dif f (s.1.getD i default) (s.1.getD j default) = dif s (s.1.getD i default) (s.1.getD j default))) = foll f s i j := by
  have h := foll_iff v.two hij hj
  rw [← dif_L v.v2.nd hj hij] at h
  cases hf : foll f s i j with
  | true =>
    obtain ⟨h1, h2⟩ := h.mp hf
    have h1' : f.1.idxOf (s.1.getD i default) < f.1.idxOf (s.1.getD j default) := h1
    rw [decide_eq_true h2, decide_eq_true (by omega)]
    rfl
  | false =>
    have h' : ¬ (bef f (L s i) (L s j) ∧ dif f (L s i) (L s j) = dif s (L s i) (L s j)) := fun z => by
      rw [h.mpr z] at hf
      cases hf
    by_cases c : bef f (L s i) (L s j)
    · have c2 : ¬ dif f (L s i) (L s j) = dif s (L s i) (L s j) := fun z => h' ⟨c, z⟩
      rw [decide_eq_false c2, Bool.and_false]
    · have c' : ¬ f.1.idxOf (s.1.getD i default) < f.1.idxOf (s.1.getD j default) := c
      rw [decide_eq_false (by omega)]
      rfl
theorem V2.memG {f s : Ord} (v : V2 f s) {i : Nat} (h : i < s.1.length) : s.1.getD i default ∈ f.1 ∧ s.1.getD i default ∈ s.1 := ⟨v.mem.mp (L_mem (o := s) h), L_mem (o := s) h⟩
def R_law_far : List D → D → Prop := fun ds d => ∃ f s : Ord, ds = [ordD f, ordD s] ∧ V2 f s ∧ d = .int (far f s)
theorem ok_law_far (T : Top K mg) : FnOk P w K mg base CX0 2 T.d_law_far.f T.d_law_far.fd ["_law_first", "_law_second"] (spF R_law_far) := by
  refine fn_rt T.d_law_far.F sc_law_far (fun ds d ⟨_, _, h, _⟩ => by subst h; rfl) (fun cdv A outer s H E hr ds d hR => ?_)
  obtain ⟨f, s', rfl, v, rfl⟩ := hR
  have hz := v.v2.le
  have ef : s'.1.filter (fun x => decide (x ∈ f.1)) = s'.1 := List.filter_eq_self.mpr fun x hx => decide_eq_true (v.mem.mp hx)
  refine (s_cons (p_lcF (xs := s'.1) (emb := D.str) (i := 2) (fun x => decide (x ∈ f.1)) D.str rfl sc_law_far.nd rfl (by rfl) (by rfl) (gi_tup (g_ixT rfl (g_var rfl (pv 1)) g_int (fun _ _ => rfl))) (blkOk_by (own := [("_law_one", 9)]) (N := N_law_far) (sc := defScope s_law_far) (by decide +kernel)) (fun _ _ _ _ _ => pg_name (i := 9) sc_law_far.nd rfl (Or.inl rfl)) (fun x hx => ga_nameW (by simp)) (fun _ _ _ _ _ x hx => gts_one (Cmp.t (g_inT (by rfl) (g_var rfl (pv 9)) (g_ixT rfl (g_var rfl (pv 0)) g_int (fun _ _ => rfl))))) (fun _ _ _ _ _ x hx ht => (g_var rfl (pv 9))) (hw1 rfl) ?g1) (s_own (i := 2) rfl 
    (s_cons (p_asgN (i := 3) sc_law_far.nd rfl (Or.inl rfl) (g_lst ga_nil (by simp))) 
    (s_for (xs := List.range s'.1.length) (emb := fun (k : Nat) => D.int (k : Nat)) (fun k => [.d (ordD f), .d (ordD s'), .d (lS s'.1), .m ((bst (foll f s') k).map D.int), .any, .any, .any, .any, .any, .any]) (fun k => [.d (ordD f), .d (ordD s'), .d (lS s'.1), .m ((bst (foll f s') k).map D.int), .d (.int (k : Nat)), .any, .any, .any, .any, .any]) .never rfl (gi_eq (gi_rng1 ?g2 (by rfl) T.z_range (g_lenL (ds := s'.1.map D.str) (by rfl) T.z_len (g_l (isD_eq (d1 := lS s'.1) (g_var rfl (pv 2)) ?e2)))) ?e3) (pg_name (i := 4) sc_law_far.nd rfl (Or.inl rfl)) (fun k hk => gA_eq (ga_name (d := .int (k : Nat))) ?e4) (fun k hk => s_less (s_cons (p_asg (i := 5) sc_law_far.nd rfl (Or.inl rfl) g_int) 
      (s_for (xs := List.range k) (emb := fun (j : Nat) => D.int (j : Nat)) (fun j => [.d (ordD f), .d (ordD s'), .d (lS s'.1), .m ((bst (foll f s') k).map D.int), .d (.int (k : Nat)), .d (.int (lon (fun i => foll f s' i k) (bst (foll f s') k) j)), .any, .any, .any, .any]) (fun j => [.d (ordD f), .d (ordD s'), .d (lS s'.1), .m ((bst (foll f s') k).map D.int), .d (.int (k : Nat)), .d (.int (lon (fun i => foll f s' i k) (bst (foll f s') k) j)), .d (.int (j : Nat)), .any, .any, .any]) .never rfl (gi_eq (gi_rng1 ?g3 (by rfl) T.z_range (g_var rfl (pv 4))) ?e5) (pg_name (i := 6) sc_law_far.nd rfl (Or.inl rfl)) (fun j hj => gA_eq (ga_name (d := .int (j : Nat))) ?e6) (fun j hj => s_less (Γ1 := [.d (ordD f), .d (ordD s'), .d (lS s'.1), .m ((bst (foll f s') k).map D.int), .d (.int (k : Nat)), .d (.int (lon (fun i => foll f s' i k) (bst (foll f s') k) (j + 1))), .d (.int (j : Nat)), .d (.str (s'.1.getD j default)), .d (.str (s'.1.getD k default)), .any]) (s_cons (p_asg (i := 7) sc_law_far.nd rfl (Or.inl rfl) (g_ixL (at_getD (f := D.str) (ls := s'.1) (i := j) default rfl ?g4) (g_l (g_var rfl (pv 2))) (g_var rfl (pv 6)) (fun _ _ => rfl))) 
        (s_cons (p_asg (i := 8) sc_law_far.nd rfl (Or.inl rfl) (g_ixL (at_getD (f := D.str) (ls := s'.1) (i := k) default rfl ?g5) (g_l (g_var rfl (pv 2))) (g_var rfl (pv 4)) (fun _ _ => rfl))) 
        (s_ifj (b := foll f s' j k) (Γ1 := [.d (ordD f), .d (ordD s'), .d (lS s'.1), .m ((bst (foll f s') k).map D.int), .d (.int (k : Nat)), .d (.int (lon (fun i => foll f s' i k) (bst (foll f s') k) (j + 1))), .d (.int (j : Nat)), .d (.str (s'.1.getD j default)), .d (.str (s'.1.getD k default)), .any]) (tB_eq (gt_w (gw_and (Cmp.t (g_lt (g_tixS (pe_tm PySem.F.slot_tuple_index PySem.F.type_tuple_index mt_tix (g_ixT rfl (g_var rfl (pv 0)) g_int (fun _ _ => rfl)) (ga_cons (g_var rfl (pv 7)) ga_nil)) ?g6) (g_tixS (pe_tm PySem.F.slot_tuple_index PySem.F.type_tuple_index mt_tix (g_ixT rfl (g_var rfl (pv 0)) g_int (fun _ _ => rfl)) (ga_cons (g_var rfl (pv 8)) ga_nil)) ?g7))) (fun h1 => (gw_and1 (Cmp.t (g_eqI (g_call (d := .int (dif f (s'.1.getD j default) (s'.1.getD k default))) (pe_call (ok_law_difference T) (hr.mono (by decide)) (by rfl) T.d_law_difference.g T.d_law_difference.F.kp T.d_law_difference.b .nil pass0 (ga_cons (g_var rfl (pv 0)) (ga_cons (g_var rfl (pv 7)) (ga_cons (g_var rfl (pv 8)) ga_nil)))) ⟨f, _, _, rfl, v.v1.wf, ?g8, ?g9, rfl⟩) (g_call (d := .int (dif s' (s'.1.getD j default) (s'.1.getD k default))) (pe_call (ok_law_difference T) (hr.mono (by decide)) (by rfl) T.d_law_difference.g T.d_law_difference.F.kp T.d_law_difference.b .nil pass0 (ga_cons (g_var rfl (pv 1)) (ga_cons (g_var rfl (pv 7)) (ga_cons (g_var rfl (pv 8)) ga_nil)))) ⟨s', _, _, rfl, v.v2.wf, ?g10, ?g11, rfl⟩))))))) ?e12) (fun c2 => s_less (s_cons (p_asg (i := 5) sc_law_far.nd rfl (Or.inl rfl) (g_max2 rfl (by rfl) T.z_max (g_var rfl (pv 5)) (g_ixL (lookInt rfl ?g12) (g_varm rfl (pv 3)) (g_var rfl (pv 6)) (fun _ _ => rfl)))) 
          s_end) ⟨rfl, rfl, rfl, rfl, rfl, ?g13, rfl, rfl, rfl, trivial⟩) (fun c2 => ⟨rfl, rfl, rfl, rfl, rfl, ?g14, rfl, rfl, rfl, trivial⟩) 
        s_end))) ⟨rfl, rfl, rfl, rfl, rfl, rfl, trivial⟩) ⟨rfl, rfl, rfl, rfl, rfl, rfl, trivial⟩
      (s_cons (p_app rfl ?g15 (pe_bm PySem.F.plainAttrs_list PySem.F.slot_list_append PySem.F.type_list_append mt_append (pv 3) (ga_cons (g_add (g_var rfl (pv 5)) g_int) ga_nil))) 
      s_end))) ⟨rfl, rfl, rfl, ?g16, trivial⟩) ⟨rfl, rfl, ?g17, rfl, trivial⟩
    (s_ret (p_ret (isD_eq (g_sub (g_lenT (by rfl) T.z_len (g_ixT rfl (g_var rfl (pv 1)) g_int (fun _ _ => rfl))) (g_maxL (ns := bst (foll f s') s'.1.length ++ [0]) ?g18 rfl (by simp) (by rfl) T.z_max (g_nl (g_catL ?g19 (g_varm rfl (pv 3)) (g_nl (g_lst (ga_cons g_int ga_nil) (by simp))))))) ?g20)))))))
  case g1 => omega
  case g2 =>
    rw [List.length_map]
    omega
  case e2 => rw [ef]
  case e3 =>
    rw [List.length_map]
    rfl
  case e4 => rw [List.getElem_range]
  case g3 =>
    rw [List.length_range] at hk
    omega
  case e5 => rfl
  case e6 => rw [List.getElem_range]
  case g4 =>
    rw [List.length_range] at hk hj
    omega
  case g5 => rwa [List.length_range] at hk
  case g6 =>
    rw [List.length_range] at hk hj
    exact (v.memG (by omega)).1
  case g7 =>
    rw [List.length_range] at hk
    exact (v.memG hk).1
  case g8 =>
    rw [List.length_range] at hk hj
    exact (v.memG (by omega)).1
  case g9 =>
    rw [List.length_range] at hk
    exact (v.memG hk).1
  case g10 =>
    rw [List.length_range] at hk hj
    exact (v.memG (by omega)).2
  case g11 =>
    rw [List.length_range] at hk
    exact (v.memG hk).2
  case e12 =>
    rw [List.length_range] at hk hj
    exact ask_foll v hj hk
  case g12 =>
    rw [bst_len]
    rwa [List.length_range] at hj
  case g13 => rw [lon_succ, if_pos c2]
  case g14 => rw [lon_succ, if_neg (by rw [c2]; exact Bool.false_ne_true)]
  case g15 =>
    rw [List.length_map, bst_len]
    rw [List.length_range] at hk
    omega
  case g16 =>
    rw [bst, List.map_append, List.length_range]
    rfl
  case g17 => rw [ef]
  case g18 =>
    rw [List.length_range, List.map_append]
    rfl
  case g19 =>
    rw [List.length_map, bst_len, List.length_range]
    simp only [List.length_cons, List.length_nil]
    omega
  case g20 => rw [List.length_map, far_law v.two v.pos]
end
end Ga
/-! the law's own: steps, rows, levels -/
namespace Ga
open PySem PySem.Spec PyProof.Rows L2 Mi
theorem one_eq {f s : Ord} (v : V2 f s) (h : ¬ 2 ≤ f.1.length) : f = s := by
  have h1 := v.v1.one
  have h2 := v.len
  have h3 := v.v1.ln
  have h4 := v.v2.ln
  obtain ⟨a, ha⟩ : ∃ a, f.1 = [a] := List.length_eq_one_iff.mp (by omega)
  obtain ⟨b, hb⟩ : ∃ b, s.1 = [b] := List.length_eq_one_iff.mp (by omega)
  have e : b = a := by
    have : b ∈ f.1 := v.mem.mp (by rw [hb]; simp)
    rw [ha] at this
    simpa using this
  refine Prod.ext ?_ ?_
  · rw [ha, hb, e]
  · rw [List.eq_nil_of_length_eq_zero (show f.2.length = 0 by omega), List.eq_nil_of_length_eq_zero (show s.2.length = 0 by omega)]
section
variable {P : Program} {w : World} {K : PySem.W.Frag} {mg : Str → Option Value} {base : Heap}
theorem ok_law_is_step (T : Top K mg) : FnOk P w K mg base CX0 3 T.d_law_is_step.f T.d_law_is_step.fd ["_law_first", "_law_second"] (spF R_is_step) := by
  refine fn_rt T.d_law_is_step.F sc_law_is_step (fun ds d ⟨_, _, h, _⟩ => by subst h; rfl) (fun cdv A outer s H E hr ds d hR => ?_)
  obtain ⟨f, s', rfl, v, rfl⟩ := hR
  have hz := v.v1.le
  refine (s_if (Cmp.t (g_eqD (hr.units) (plain_ord f) (plain_ord s') (shaped_ord v.v1.ok) (shaped_ord v.v2.ok) (g_var rfl (pv 0)) (g_var rfl (pv 1)))) (fun c1 => (s_ret (p_ret (isD_eq g_bl ?g5)))) (fun c1 => 
    (s_ret (p_ret (isD_eq (g_anyC rfl (by rfl) T.z_any (g_nl (g_lc (fun x => D.bl (PyData.eqv (toPy (ordD (rem f x))) (toPy (ordD (rem s' x))))) rfl sc_law_is_step.nd (gi_tup (g_ixT rfl (g_var rfl (pv 0)) g_int (fun _ _ => rfl))) (blkOk_by (own := [("_law_one", 2)]) (N := N_law_is_step) (sc := defScope s_law_is_step) (by decide +kernel)) (fun _ _ _ _ _ => pg_name (i := 2) sc_law_is_step.nd rfl (Or.inl rfl)) (fun x hx => ga_nameW (by simp)) (fun _ _ _ _ _ x hx => (Cmp.v (g_eqD (hr.units) (plain_ord _) (plain_ord _) (shaped_ord (okL_rem v.v1.ok)) (shaped_ord (okL_rem v.v2.ok)) (g_call (pe_call (ok_law_without T) (hr.mono (by decide)) (by rfl) T.d_law_without.g T.d_law_without.F.kp T.d_law_without.b .nil pass0 (ga_cons (g_var rfl (pv 0)) (ga_cons (g_var rfl (pv 2)) ga_nil))) ⟨f, x, rfl, v.v1, hx, ?t1, rfl⟩) (g_call (pe_call (ok_law_without T) (hr.mono (by decide)) (by rfl) T.d_law_without.g T.d_law_without.F.kp T.d_law_without.b .nil pass0 (ga_cons (g_var rfl (pv 1)) (ga_cons (g_var rfl (pv 2)) ga_nil))) ⟨s', x, rfl, v.v2, v.mem.mpr hx, ?t2, rfl⟩)))) (hw1 rfl) ?g12))) ?g13)))))
  case g5 =>
    rw [eqv_ord] at c1
    simp only [stepP, c1]
    rfl
  case t1 =>
    rw [eqv_ord] at c1
    exact Decidable.byContradiction fun h => of_decide_eq_false c1 (one_eq v h)
  case t2 =>
    rw [eqv_ord] at c1
    have := v.len
    exact Decidable.byContradiction fun h => of_decide_eq_false c1 (one_eq v (by omega))
  case g12 => omega
  case g13 =>
    rw [eqv_ord] at c1
    simp only [stepP, c1, eqv_ord]
    rfl
theorem zip_range {os : List Ord} (p : Ord → Ord → Bool) : (os.zip (os.drop 1)).all (fun q => p q.1 q.2) = (List.range (os.length - 1)).all fun k => p (os.getD k default) (os.getD (k + 1) default) := by
  rw [Bool.eq_iff_iff, List.all_eq_true, List.all_eq_true]
  constructor
  · intro h k hk
    have hk' := List.mem_range.mp hk
    have m : (os.getD k default, os.getD (k + 1) default) ∈ os.zip (os.drop 1) := by
      refine List.mem_iff_getElem.mpr ⟨k, by rw [List.length_zip, List.length_drop]; omega, ?_⟩
      rw [List.getElem_zip, List.getElem_drop, List.getD_eq_getElem?_getD, List.getD_eq_getElem?_getD, List.getElem?_eq_getElem (by omega), List.getElem?_eq_getElem (by omega), Option.getD_some, Option.getD_some]
      congr 2
      omega
    exact h _ m
  · intro h q hq
    obtain ⟨k, hk, e⟩ := List.mem_iff_getElem.mp hq
    rw [List.length_zip, List.length_drop] at hk
    have := h k (List.mem_range.mpr (by omega))
    rw [List.getElem_zip, List.getElem_drop] at e
    rw [← e]
    rw [List.getD_eq_getElem?_getD, List.getD_eq_getElem?_getD, List.getElem?_eq_getElem (by omega), List.getElem?_eq_getElem (by omega), Option.getD_some, Option.getD_some] at this
    have e2 : os[1 + k]'(by omega) = os[k + 1]'(by omega) := by
      congr 1
      omega
    simp only
    rw [e2]
    exact this
theorem ok_law_is_row (T : Top K mg) : FnOk P w K mg base CX0 4 T.d_law_is_row.f T.d_law_is_row.fd ["_law_first", "_law_second", "_law_value"] (spF R_is_row) := by
  refine fn_rt T.d_law_is_row.F sc_law_is_row (fun ds d ⟨_, _, _, h⟩ => by rcases h with ⟨_, h, _⟩ | ⟨_, h, _⟩ | ⟨_, h, _⟩ | ⟨h, _⟩ <;> subst h <;> rfl) (fun cdv A outer s H E hr ds d hR => ?_)
  obtain ⟨f, s', v, ⟨os, rfl, ho, hl, rfl⟩ | ⟨xs, rfl, hn, ho, hl, rfl⟩ | ⟨es, rfl, rfl⟩ | ⟨rfl, rfl⟩⟩ := hR
  · cases hne : os.isEmpty with
    | true =>
      have e : os = [] := List.isEmpty_iff.mp hne
      subst e
      exact (s_ifT (gt_w (gw_or (gt_not (gt_val (g_isi kk_tt rfl (by decide) (by rfl) T.z_isinstance (g_var rfl (pv 2)) (pe_bltn (v := .ty "tuple") (by rfl) T.z_tuple (by decide +kernel) rfl)))) (fun h2 => (gw_orT (gt_not (gt_tup (g_var rfl (pv 2)))) rfl)))) rfl (s_ret (p_ret g_bl)))
    | false =>
      have hne' : os ≠ [] := fun z => by
        rw [z] at hne
        cases hne
      have hz1 := v.v1.le
      obtain ⟨a, ha⟩ : ∃ a, os.head? = some a := by
        cases os with
        | nil => exact absurd rfl hne'
        | cons x l => exact ⟨x, rfl⟩
      obtain ⟨z, hz⟩ : ∃ z, os.getLast? = some z := ⟨_, List.getLast?_eq_some_getLast hne'⟩
      have va : V2 f a := ho a (List.mem_of_mem_head? (by rw [ha]; rfl))
      have vz : V2 f z := ho z (List.mem_of_getLast? hz)
      have kf : ∀ x ∈ srt f.1, okL x = true := fun x hx => v.v1.ok x ((srt_perm' f.1).mem_iff.mp hx)
      refine (s_ifF (gt_w (gw_or (gt_not (gt_val (g_isi kk_tt rfl (by decide) (by rfl) T.z_isinstance (g_var rfl (pv 2)) (pe_bltn (v := .ty "tuple") (by rfl) T.z_tuple (by decide +kernel) rfl)))) (fun h3 => (gw_or (gt_not (gt_tup (g_var rfl (pv 2)))) (fun h2 => (gw_or1 (gt_not (gt_val (g_allC rfl (by rfl) T.z_all (g_nl (g_lc (xs := os) (emb := ordD) (fun x => D.bl true) rfl sc_law_is_row.nd (gi_tup (g_var rfl (pv 2))) (blkOk_by (own := [("_law_one", 3)]) (N := N_law_is_row) (sc := defScope s_law_is_row) (by decide +kernel)) (fun _ _ _ _ _ => pg_name (i := 3) sc_law_is_row.nd rfl (Or.inl rfl)) (fun x hx => ga_nameW (by simp)) (fun _ _ _ _ _ x hx => isD_eq (g_and (g_isi kk_tt rfl (by decide) (by rfl) T.z_isinstance (g_var rfl (pv 3)) (pe_bltn (v := .ty "tuple") (by rfl) T.z_tuple (by decide +kernel) rfl)) (fun h1 => (g_one (Cmp.v (g_eqI (g_lenT (by rfl) T.z_len (g_var rfl (pv 3))) g_int))))) rfl) (hw1 rfl) (by omega)))))))))))) ?g2
        (s_ifF (gt_not (gt_val (g_allC rfl (by rfl) T.z_all (g_nl (g_lc (xs := os) (emb := ordD) (fun x => D.bl true) rfl sc_law_is_row.nd (gi_tup (g_var rfl (pv 2))) (blkOk_by (own := [("_law_one", 3)]) (N := N_law_is_row) (sc := defScope s_law_is_row) (by decide +kernel)) (fun _ _ _ _ _ => pg_name (i := 3) sc_law_is_row.nd rfl (Or.inl rfl)) (fun x hx => ga_nameW (by simp)) (fun _ _ _ _ _ x hx => isD_eq (g_and (g_isi (d := tS x.1) kk_tt rfl (by decide) (by rfl) T.z_isinstance (g_ixT rfl (g_var rfl (pv 3)) g_int (fun _ _ => rfl)) (pe_bltn (v := .ty "tuple") (by rfl) T.z_tuple (by decide +kernel) rfl)) (fun h5 => (g_one (Cmp.v (g_eqD (d1 := lS (srt x.1)) (d2 := lS (srt f.1)) (hr.units) (plain_map (f := D.str) (fun _ => rfl) _) (plain_map (f := D.str) (fun _ => rfl) _) ?s1 (shaped_S kf).2 (g_n (g_sortT ?g7 (by rfl) T.z_sorted (g_ixT rfl (g_var rfl (pv 3)) g_int (fun _ _ => rfl)))) (g_n (g_sortT ?g8 (by rfl) T.z_sorted (g_ixT rfl (g_var rfl (pv 0)) g_int (fun _ _ => rfl))))))))) ?e8) (hw1 rfl) (by omega)))))) ?g10
        (s_if (gt_w (gw_or (Cmp.t (g_neD (hr.units) (plain_ord a) (plain_ord f) (shaped_ord va.v2.ok) (shaped_ord v.v1.ok) (g_ixT (head_at ha) (g_var rfl (pv 2)) g_int (fun _ _ => rfl)) (g_var rfl (pv 0)))) (fun h4 => (gw_or1 (Cmp.t (g_neD (hr.units) (plain_ord z) (plain_ord s') (shaped_ord vz.v2.ok) (shaped_ord v.v2.ok) (g_ixT (at_last hz) (g_var rfl (pv 2)) (g_neg g_int) (fun _ _ => rfl)) (g_var rfl (pv 1)))))))) (fun c5 => (s_ret (p_ret (isD_eq g_bl ?g14)))) (fun c5 => 
        (s_ret (p_ret (isD_eq (g_allC rfl (by rfl) T.z_all (g_nl (g_lc (xs := List.range (os.length - 1)) (emb := fun (k : Nat) => D.int (1 + (k : Nat))) (fun k => D.bl (stepP (os.getD k default) (os.getD (k + 1) default))) rfl sc_law_is_row.nd (gi_eq (gi_rng2 (m := 1) (n := ((os.length : Nat) : Int)) ?g22 (by rfl) T.z_range g_int (isD_eq (g_lenT (by rfl) T.z_len (g_var rfl (pv 2))) ?e22)) ?e23) (blkOk_by (own := [("_law_k", 4)]) (N := N_law_is_row) (sc := defScope s_law_is_row) (by decide +kernel)) (fun _ _ _ _ _ => pg_name (i := 4) sc_law_is_row.nd rfl (Or.inl rfl)) (fun x hx => ga_nameW (by simp)) (fun _ _ _ _ _ k hk => (g_call (pe_call (ok_law_is_step T) (hr.mono (by decide)) (by rfl) T.d_law_is_step.g T.d_law_is_step.F.kp T.d_law_is_step.b .nil pass0 (ga_cons (g_ixT (at_getD (f := ordD) (ls := os) (i := k) default ?z1 ?g23) (g_var rfl (pv 2)) (g_sub (g_var rfl (pv 4)) g_int) (fun _ _ => rfl)) (ga_cons (g_ixT (at_getD (f := ordD) (ls := os) (i := k + 1) default ?z2 ?g24) (g_var rfl (pv 2)) (g_var rfl (pv 4)) (fun _ _ => rfl)) ga_nil))) ⟨_, _, rfl, ?g25, rfl⟩)) (hw1 rfl) ?g26))) ?g27)))))))
      case g2 => simp [hne']
      case s1 => exact (shaped_S fun y hy => (ho x hx).v2.ok y ((srt_perm' x.1).mem_iff.mp hy)).2
      case g7 =>
        have := (ho x hx).v2.le
        omega
      case g8 => omega
      case e8 =>
        show D.bl (true && PyData.eqvAll (toPys ((srt x.1).map D.str)) (toPys ((srt f.1).map D.str))) = .bl true
        rw [eqv_strs, srt_congr (ho x hx).p]
        simp
      case g10 => simp
      case g14 =>
        rw [eqv_ord, eqv_ord] at c5
        unfold rowP
        rw [ha, hz]
        by_cases h1 : a = f <;> by_cases h2 : z = s' <;> simp [h1, h2] at c5 ⊢
      case g22 => omega
      case e22 => rw [List.length_map]
      case e23 =>
        have e : (((os.length : Nat) : Int) - 1).toNat = os.length - 1 := by omega
        rw [e]
      case z1 =>
        show 1 + ((k : Nat) : Int) - 1 = _
        omega
      case g23 =>
        have := List.mem_range.mp hk
        omega
      case z2 => omega
      case g24 =>
        have := List.mem_range.mp hk
        omega
      case g25 =>
        have := List.mem_range.mp hk
        have m1 : os.getD k default ∈ os := by
          rw [List.getD_eq_getElem?_getD, List.getElem?_eq_getElem (by omega)]
          exact List.getElem_mem _
        have m2 : os.getD (k + 1) default ∈ os := by
          rw [List.getD_eq_getElem?_getD, List.getElem?_eq_getElem (by omega)]
          exact List.getElem_mem _
        exact ⟨(ho _ m1).v2, (ho _ m2).v2, (ho _ m2).p.trans (ho _ m1).p.symm⟩
      case g26 =>
        rw [List.length_range]
        omega
      case g27 =>
        rw [eqv_ord, eqv_ord] at c5
        unfold rowP
        rw [ha, hz, hne, zip_range]
        have c1 : a = f := by
          by_cases h1 : a = f
          · exact h1
          · simp [h1] at c5
        have c2 : z = s' := by
          by_cases h1 : z = s'
          · exact h1
          · simp [h1] at c5
        simp [c1, c2]
  · refine (s_ifT (gt_w (gw_or (gt_not (gt_val (g_isi kk_tt rfl (by decide) (by rfl) T.z_isinstance (g_var rfl (pv 2)) (pe_bltn (v := .ty "tuple") (by rfl) T.z_tuple (by decide +kernel) rfl)))) (fun h2 => (gw_or (gt_not (gt_tup (g_var rfl (pv 2)))) (fun h1 => (gw_or1 (gt_not (gt_val (g_allC rfl (by rfl) T.z_all (g_nl (g_lc (xs := xs) (emb := itD) (fun x => D.bl (Option.isSome x)) rfl sc_law_is_row.nd (gi_tup (g_var rfl (pv 2))) (blkOk_by (own := [("_law_one", 3)]) (N := N_law_is_row) (sc := defScope s_law_is_row) (by decide +kernel)) (fun _ _ _ _ _ => pg_name (i := 3) sc_law_is_row.nd rfl (Or.inl rfl)) (fun x hx => ga_nameW (by simp)) (fun _ _ _ _ _ x hx => ?g1) (hw1 rfl) (by omega)))))))))))) ?g3 (s_ret (p_ret g_bl)))
    case g1 =>
      cases x with
      | none => exact g_andF (g_isi kk_nt rfl (by decide) (by rfl) T.z_isinstance (g_var rfl (pv 3)) (pe_bltn (v := .ty "tuple") (by rfl) T.z_tuple (by decide +kernel) rfl)) rfl
      | some o => exact isD_eq (g_and (g_isi kk_tt rfl (by decide) (by rfl) T.z_isinstance (g_var rfl (pv 3)) (pe_bltn (v := .ty "tuple") (by rfl) T.z_tuple (by decide +kernel) rfl)) (fun h1 => (g_one (Cmp.v (g_eqI (g_lenT (ds := [tS o.1, tI o.2]) (by rfl) T.z_len (g_var rfl (pv 3))) g_int))))) rfl
    case g3 =>
      have e : xs.all (fun x => x.isSome) = false := List.all_eq_false.mpr ⟨none, hn, by simp⟩
      rw [e]
      simp
  · exact (s_ifT (gt_w (gw_orT (gt_not (gt_val (g_isi kk_lt rfl (by decide) (by rfl) T.z_isinstance (g_var rfl (pv 2)) (pe_bltn (v := .ty "tuple") (by rfl) T.z_tuple (by decide +kernel) rfl)))) rfl)) rfl (s_ret (p_ret g_bl)))
  · exact (s_ifT (gt_w (gw_orT (gt_not (gt_val (g_isi kk_nt rfl (by decide) (by rfl) T.z_isinstance (g_var rfl (pv 2)) (pe_bltn (v := .ty "tuple") (by rfl) T.z_tuple (by decide +kernel) rfl)))) rfl)) rfl (s_ret (p_ret g_bl)))
end
end Ga
/-! the law's own: levels -/
namespace Ga
open PySem PySem.Spec PyProof.Rows L2 Mi
def badJ (f s : Ord) (ls : List Int) (j : Nat) : Bool := (List.range j).any fun i => foll f s i j && decide (ls.getD j 0 ≤ ls.getD i 0)
theorem right_law (f s : Ord) {ls : List Int} (hl : ls.length = s.1.length) (hne : ls ≠ []) : rightL (link f s) ls = (!decide (lmin ls < 1) && (List.range s.1.length).all fun j => !badJ f s ls j) := by
  rw [Bool.eq_iff_iff]
  unfold rightL badAt badJ
  simp only [Bool.and_eq_true, List.all_eq_true, decide_eq_true_eq, Bool.not_eq_true', List.mem_range, List.any_eq_false, decide_eq_false_iff_not, Bool.and_eq_true, not_and, hl]
  constructor
  · rintro ⟨h1, h2⟩
    refine ⟨by have := h1 _ (lmin_mem hne); omega, fun j hj i hi hf => ?_⟩
    exact h2 i (by omega) j (mem_link.mpr ⟨hi, hj, hf⟩)
  · rintro ⟨h1, h2⟩
    refine ⟨fun l hl => by have := lmin_le hl; omega, fun i hi j hj => ?_⟩
    obtain ⟨a, b, c⟩ := mem_link.mp hj
    exact h2 j b i a c
section
variable {P : Program} {w : World} {K : PySem.W.Frag} {mg : Str → Option Value} {base : Heap}
theorem ok_law_are_right (T : Top K mg) : FnOk P w K mg base CX0 2 T.d_law_are_right.f T.d_law_are_right.fd ["_law_first", "_law_second", "_law_levels"] (spF R_are_right) := by
  refine fn_rt T.d_law_are_right.F sc_law_are_right (fun ds d ⟨_, _, _, h⟩ => by rcases h with ⟨_, h, _⟩ | ⟨_, h, _⟩ | ⟨h, _⟩ <;> subst h <;> rfl) (fun cdv A outer s H E hr ds d hR => ?_)
  obtain ⟨f, s', v, ⟨ls, rfl, hl, rfl⟩ | ⟨es, rfl, rfl⟩ | ⟨rfl, rfl⟩⟩ := hR
  · have n3 := v.v2.le
    have hne : ls ≠ [] := fun z => by
      have := v.pos
      rw [z] at hl
      simp at hl
      omega
    rw [right_law f s' hl hne]
    refine (s_ifF (gt_w (gw_or (gt_not (gt_val (g_isi kk_tt rfl (by decide) (by rfl) T.z_isinstance (g_var rfl (pv 2)) (pe_bltn (v := .ty "tuple") (by rfl) T.z_tuple (by decide +kernel) rfl)))) (fun h2 => (gw_or (Cmp.t (g_neI (g_lenT (by rfl) T.z_len (g_var rfl (pv 2))) (g_lenT (by rfl) T.z_len (g_ixT rfl (g_var rfl (pv 1)) g_int (fun _ _ => rfl))))) (fun h1 => (gw_or1 (gt_not (gt_val (g_allC rfl (by rfl) T.z_all (g_nl (g_lc (fun x => D.bl true) rfl sc_law_are_right.nd (gi_tup (g_var rfl (pv 2))) (blkOk_by (own := [("_law_one", 7)]) (N := N_law_are_right) (sc := defScope s_law_are_right) (by decide +kernel)) (fun _ _ _ _ _ => pg_name (i := 7) sc_law_are_right.nd rfl (Or.inl rfl)) (fun x hx => ga_nameW (by simp)) (fun _ _ _ _ _ x hx => (g_call (pe_call (ok_law_is_integer T) (hr.mono (by decide)) (by rfl) T.d_law_is_integer.g T.d_law_is_integer.F.kp T.d_law_is_integer.b .nil pass0 (ga_cons (g_var rfl (pv 7)) ga_nil)) ⟨x, rfl, rfl⟩)) (hw1 rfl) (by omega)))))))))))) ?g3
      (s_if (Cmp.t (g_lt (g_minT rfl (hu_of hr) hne (by rfl) T.z_min (g_var rfl (pv 2))) g_int)) (fun c4 => (s_ret (p_ret (isD_eq g_bl ?g5)))) (fun c4 => 
      (s_forR (xs := List.range s'.1.length) (emb := fun (j : Nat) => D.int (j : Nat)) (fun j => [.d (ordD f), .d (ordD s'), .d (tI ls), .any, .any, .any, .any, .any]) (fun j => [.d (ordD f), .d (ordD s'), .d (tI ls), .d (.int (j : Nat)), .any, .any, .any, .any]) (badJ f s' ls) .never rfl (gi_eq (gi_rng1 (n := ((s'.1.length : Nat) : Int)) ?g6 (by rfl) T.z_range (isD_eq (g_lenT (by rfl) T.z_len (g_var rfl (pv 2))) ?e6)) rfl) (pg_name (i := 3) sc_law_are_right.nd rfl (Or.inl rfl)) (fun j hj => gA_eq (ga_name (d := .int (j : Nat))) ?e7)
        (fun j hj hbef hb => s_less (s_for (xs := List.range j) (emb := fun (i : Nat) => D.int (i : Nat)) (fun i => [.d (ordD f), .d (ordD s'), .d (tI ls), .d (.int (j : Nat)), .any, .any, .any, .any]) (fun i => [.d (ordD f), .d (ordD s'), .d (tI ls), .d (.int (j : Nat)), .d (.int (i : Nat)), .any, .any, .any]) .never rfl (gi_rng1 (n := ((j : Nat) : Int)) ?g7 (by rfl) T.z_range (g_var rfl (pv 3))) (pg_name (i := 4) sc_law_are_right.nd rfl (Or.inl rfl)) (fun i hi => gA_eq (ga_name (d := .int (i : Nat))) ?e8) (fun i hi => s_less (s_cons (p_asg (i := 5) sc_law_are_right.nd rfl (Or.inl rfl) (g_ixT (at_getD (f := D.str) (ls := s'.1) (i := i) default rfl ?g8) (g_ixT rfl (g_var rfl (pv 1)) g_int (fun _ _ => rfl)) (g_var rfl (pv 4)) (fun _ _ => rfl))) 
          (s_cons (p_asg (i := 6) sc_law_are_right.nd rfl (Or.inl rfl) (g_ixT (at_getD (f := D.str) (ls := s'.1) (i := j) default rfl ?g9) (g_ixT rfl (g_var rfl (pv 1)) g_int (fun _ _ => rfl)) (g_var rfl (pv 3)) (fun _ _ => rfl))) 
          (s_ifj (b := foll f s' i j) (Γ1 := [.d (ordD f), .d (ordD s'), .d (tI ls), .d (.int (j : Nat)), .d (.int (i : Nat)), .d (.str (s'.1.getD i default)), .d (.str (s'.1.getD j default)), .any]) (tB_eq (gt_w (gw_and (Cmp.t (g_lt (g_tixS (pe_tm PySem.F.slot_tuple_index PySem.F.type_tuple_index mt_tix (g_ixT rfl (g_var rfl (pv 0)) g_int (fun _ _ => rfl)) (ga_cons (g_var rfl (pv 5)) ga_nil)) ?g10) (g_tixS (pe_tm PySem.F.slot_tuple_index PySem.F.type_tuple_index mt_tix (g_ixT rfl (g_var rfl (pv 0)) g_int (fun _ _ => rfl)) (ga_cons (g_var rfl (pv 6)) ga_nil)) ?g11))) (fun h5 => (gw_and1 (Cmp.t (g_eqI (g_call (d := .int (dif f (s'.1.getD i default) (s'.1.getD j default))) (pe_call (ok_law_difference T) (hr.mono (by decide)) (by rfl) T.d_law_difference.g T.d_law_difference.F.kp T.d_law_difference.b .nil pass0 (ga_cons (g_var rfl (pv 0)) (ga_cons (g_var rfl (pv 5)) (ga_cons (g_var rfl (pv 6)) ga_nil)))) ⟨f, _, _, rfl, v.v1.wf, ?g12, ?g13, rfl⟩) (g_call (d := .int (dif s' (s'.1.getD i default) (s'.1.getD j default))) (pe_call (ok_law_difference T) (hr.mono (by decide)) (by rfl) T.d_law_difference.g T.d_law_difference.F.kp T.d_law_difference.b .nil pass0 (ga_cons (g_var rfl (pv 1)) (ga_cons (g_var rfl (pv 5)) (ga_cons (g_var rfl (pv 6)) ga_nil)))) ⟨s', _, _, rfl, v.v2.wf, ?g14, ?g15, rfl⟩))))))) ?e16) (fun c6 => (s_ifF (Cmp.t (g_le (g_ixT (lookInt rfl ?g16) (g_var rfl (pv 2)) (g_var rfl (pv 3)) (fun _ _ => rfl)) (g_ixT (lookInt rfl ?g17) (g_var rfl (pv 2)) (g_var rfl (pv 4)) (fun _ _ => rfl)))) ?g18
            s_end)) (fun c6 => ⟨rfl, rfl, rfl, rfl, rfl, rfl, rfl, trivial⟩) 
          s_end))) ⟨rfl, rfl, rfl, rfl, trivial⟩) ⟨rfl, rfl, rfl, rfl, trivial⟩
        s_end) ⟨rfl, rfl, rfl, trivial⟩)
        (fun j hj hbef hb => (s_forR (xs := List.range j) (emb := fun (i : Nat) => D.int (i : Nat)) (fun i => [.d (ordD f), .d (ordD s'), .d (tI ls), .d (.int (j : Nat)), .any, .any, .any, .any]) (fun i => [.d (ordD f), .d (ordD s'), .d (tI ls), .d (.int (j : Nat)), .d (.int (i : Nat)), .any, .any, .any]) (fun i => foll f s' i j && decide (ls.getD j 0 ≤ ls.getD i 0)) .never rfl (gi_rng1 (n := ((j : Nat) : Int)) ?g27 (by rfl) T.z_range (g_var rfl (pv 3))) (pg_name (i := 4) sc_law_are_right.nd rfl (Or.inl rfl)) (fun i hi => gA_eq (ga_name (d := .int (i : Nat))) ?e28)
          (fun i hi _ hbb => s_less (s_cons (p_asg (i := 5) sc_law_are_right.nd rfl (Or.inl rfl) (g_ixT (at_getD (f := D.str) (ls := s'.1) (i := i) default rfl ?g28) (g_ixT rfl (g_var rfl (pv 1)) g_int (fun _ _ => rfl)) (g_var rfl (pv 4)) (fun _ _ => rfl))) 
          (s_cons (p_asg (i := 6) sc_law_are_right.nd rfl (Or.inl rfl) (g_ixT (at_getD (f := D.str) (ls := s'.1) (i := j) default rfl ?g29) (g_ixT rfl (g_var rfl (pv 1)) g_int (fun _ _ => rfl)) (g_var rfl (pv 3)) (fun _ _ => rfl))) 
          (s_ifj (b := foll f s' i j) (Γ1 := [.d (ordD f), .d (ordD s'), .d (tI ls), .d (.int (j : Nat)), .d (.int (i : Nat)), .d (.str (s'.1.getD i default)), .d (.str (s'.1.getD j default)), .any]) (tB_eq (gt_w (gw_and (Cmp.t (g_lt (g_tixS (pe_tm PySem.F.slot_tuple_index PySem.F.type_tuple_index mt_tix (g_ixT rfl (g_var rfl (pv 0)) g_int (fun _ _ => rfl)) (ga_cons (g_var rfl (pv 5)) ga_nil)) ?g30) (g_tixS (pe_tm PySem.F.slot_tuple_index PySem.F.type_tuple_index mt_tix (g_ixT rfl (g_var rfl (pv 0)) g_int (fun _ _ => rfl)) (ga_cons (g_var rfl (pv 6)) ga_nil)) ?g31))) (fun h5 => (gw_and1 (Cmp.t (g_eqI (g_call (d := .int (dif f (s'.1.getD i default) (s'.1.getD j default))) (pe_call (ok_law_difference T) (hr.mono (by decide)) (by rfl) T.d_law_difference.g T.d_law_difference.F.kp T.d_law_difference.b .nil pass0 (ga_cons (g_var rfl (pv 0)) (ga_cons (g_var rfl (pv 5)) (ga_cons (g_var rfl (pv 6)) ga_nil)))) ⟨f, _, _, rfl, v.v1.wf, ?g32, ?g33, rfl⟩) (g_call (d := .int (dif s' (s'.1.getD i default) (s'.1.getD j default))) (pe_call (ok_law_difference T) (hr.mono (by decide)) (by rfl) T.d_law_difference.g T.d_law_difference.F.kp T.d_law_difference.b .nil pass0 (ga_cons (g_var rfl (pv 1)) (ga_cons (g_var rfl (pv 5)) (ga_cons (g_var rfl (pv 6)) ga_nil)))) ⟨s', _, _, rfl, v.v2.wf, ?g34, ?g35, rfl⟩))))))) ?e36) (fun c6 => (s_ifF (Cmp.t (g_le (g_ixT (lookInt rfl ?g36) (g_var rfl (pv 2)) (g_var rfl (pv 3)) (fun _ _ => rfl)) (g_ixT (lookInt rfl ?g37) (g_var rfl (pv 2)) (g_var rfl (pv 4)) (fun _ _ => rfl)))) ?g38
            s_end)) (fun c6 => ⟨rfl, rfl, rfl, rfl, rfl, rfl, rfl, trivial⟩) 
          s_end))) ⟨rfl, rfl, rfl, rfl, trivial⟩)
          (fun i hi _ hbb => (s_cons (p_asg (i := 5) sc_law_are_right.nd rfl (Or.inl rfl) (g_ixT (at_getD (f := D.str) (ls := s'.1) (i := i) default rfl ?g48) (g_ixT rfl (g_var rfl (pv 1)) g_int (fun _ _ => rfl)) (g_var rfl (pv 4)) (fun _ _ => rfl))) 
          (s_cons (p_asg (i := 6) sc_law_are_right.nd rfl (Or.inl rfl) (g_ixT (at_getD (f := D.str) (ls := s'.1) (i := j) default rfl ?g49) (g_ixT rfl (g_var rfl (pv 1)) g_int (fun _ _ => rfl)) (g_var rfl (pv 3)) (fun _ _ => rfl))) 
          (s_ifT (x := foll f s' i j) (tB_eq (gt_w (gw_and (Cmp.t (g_lt (g_tixS (pe_tm PySem.F.slot_tuple_index PySem.F.type_tuple_index mt_tix (g_ixT rfl (g_var rfl (pv 0)) g_int (fun _ _ => rfl)) (ga_cons (g_var rfl (pv 5)) ga_nil)) ?g50) (g_tixS (pe_tm PySem.F.slot_tuple_index PySem.F.type_tuple_index mt_tix (g_ixT rfl (g_var rfl (pv 0)) g_int (fun _ _ => rfl)) (ga_cons (g_var rfl (pv 6)) ga_nil)) ?g51))) (fun h5 => (gw_and1 (Cmp.t (g_eqI (g_call (d := .int (dif f (s'.1.getD i default) (s'.1.getD j default))) (pe_call (ok_law_difference T) (hr.mono (by decide)) (by rfl) T.d_law_difference.g T.d_law_difference.F.kp T.d_law_difference.b .nil pass0 (ga_cons (g_var rfl (pv 0)) (ga_cons (g_var rfl (pv 5)) (ga_cons (g_var rfl (pv 6)) ga_nil)))) ⟨f, _, _, rfl, v.v1.wf, ?g52, ?g53, rfl⟩) (g_call (d := .int (dif s' (s'.1.getD i default) (s'.1.getD j default))) (pe_call (ok_law_difference T) (hr.mono (by decide)) (by rfl) T.d_law_difference.g T.d_law_difference.F.kp T.d_law_difference.b .nil pass0 (ga_cons (g_var rfl (pv 1)) (ga_cons (g_var rfl (pv 5)) (ga_cons (g_var rfl (pv 6)) ga_nil)))) ⟨s', _, _, rfl, v.v2.wf, ?g54, ?g55, rfl⟩))))))) ?e56) ?g57 (s_ifT (Cmp.t (g_le (g_ixT (lookInt rfl ?g58) (g_var rfl (pv 2)) (g_var rfl (pv 3)) (fun _ _ => rfl)) (g_ixT (lookInt rfl ?g59) (g_var rfl (pv 2)) (g_var rfl (pv 4)) (fun _ _ => rfl)))) ?g60 (s_ret (p_ret (isD_eq g_bl ?g61)))))))) ⟨rfl, rfl, rfl, rfl, trivial⟩ (fun hall => ?g62) ⟨_, .inl rfl⟩))
        ⟨rfl, rfl, rfl, trivial⟩ (fun hj => 
      (s_ret (p_ret (isD_eq g_bl ?g63)))) ⟨_, .inl rfl⟩))))
    case g3 =>
      simp [hl]
    case g5 =>
      rw [c4]
      rfl
    case g6 =>
      omega
    case e6 =>
      rw [List.length_map, hl]
    case e7 =>
      rw [List.getElem_range]
    case g7 =>
      rw [List.length_range] at hj
      omega
    case g27 =>
      rw [List.length_range] at hj
      omega
    case e8 =>
      rw [List.getElem_range]
    case e28 =>
      rw [List.getElem_range]
    case g8 =>
      rw [List.length_range] at hi hj
      omega
    case g28 =>
      rw [List.length_range] at hi hj
      omega
    case g48 =>
      rw [List.length_range] at hi hj
      omega
    case g9 =>
      rwa [List.length_range] at hj
    case g29 =>
      rwa [List.length_range] at hj
    case g49 =>
      rwa [List.length_range] at hj
    case g10 =>
      rw [List.length_range] at hi hj
      exact (v.memG (by omega)).1
    case g12 =>
      rw [List.length_range] at hi hj
      exact (v.memG (by omega)).1
    case g30 =>
      rw [List.length_range] at hi hj
      exact (v.memG (by omega)).1
    case g32 =>
      rw [List.length_range] at hi hj
      exact (v.memG (by omega)).1
    case g50 =>
      rw [List.length_range] at hi hj
      exact (v.memG (by omega)).1
    case g52 =>
      rw [List.length_range] at hi hj
      exact (v.memG (by omega)).1
    case g11 =>
      rw [List.length_range] at hj
      exact (v.memG hj).1
    case g13 =>
      rw [List.length_range] at hj
      exact (v.memG hj).1
    case g31 =>
      rw [List.length_range] at hj
      exact (v.memG hj).1
    case g33 =>
      rw [List.length_range] at hj
      exact (v.memG hj).1
    case g51 =>
      rw [List.length_range] at hj
      exact (v.memG hj).1
    case g53 =>
      rw [List.length_range] at hj
      exact (v.memG hj).1
    case g14 =>
      rw [List.length_range] at hi hj
      exact (v.memG (by omega)).2
    case g34 =>
      rw [List.length_range] at hi hj
      exact (v.memG (by omega)).2
    case g54 =>
      rw [List.length_range] at hi hj
      exact (v.memG (by omega)).2
    case g15 =>
      rw [List.length_range] at hj
      exact (v.memG hj).2
    case g35 =>
      rw [List.length_range] at hj
      exact (v.memG hj).2
    case g55 =>
      rw [List.length_range] at hj
      exact (v.memG hj).2
    case e16 =>
      rw [List.length_range] at hi hj
      exact ask_foll v hi hj
    case e36 =>
      rw [List.length_range] at hi hj
      exact ask_foll v hi hj
    case e56 =>
      rw [List.length_range] at hi hj
      exact ask_foll v hi hj
    case g16 =>
      rw [List.length_range] at hj
      omega
    case g36 =>
      rw [List.length_range] at hj
      omega
    case g58 =>
      rw [List.length_range] at hj
      omega
    case g17 =>
      rw [List.length_range] at hi hj
      omega
    case g37 =>
      rw [List.length_range] at hi hj
      omega
    case g59 =>
      rw [List.length_range] at hi hj
      omega
    case g18 =>
      have h := List.any_eq_false.mp hb i (List.mem_range.mpr (by rwa [List.length_range] at hi))
      rw [c6] at h
      simpa using h
    case g38 =>
      rw [c6] at hbb
      simpa using hbb
    case g57 =>
      exact (Bool.and_eq_true_iff.mp hbb).1
    case g60 =>
      exact (Bool.and_eq_true_iff.mp hbb).2
    case g61 =>
      have e : (List.range s'.1.length).all (fun j => !badJ f s' ls j) = false := List.all_eq_false.mpr ⟨j, by rw [List.length_range] at hj; exact List.mem_range.mpr hj, by simp [hb]⟩
      rw [e, Bool.and_false]
    case g62 =>
      exfalso
      unfold badJ at hb
      obtain ⟨i, hi, e⟩ := List.any_eq_true.mp hb
      have := hall i (by rw [List.length_range]; exact List.mem_range.mp hi)
      rw [this] at e
      cases e
    case g63 =>
      have e : (List.range s'.1.length).all (fun j => !badJ f s' ls j) = true := List.all_eq_true.mpr fun j hj' => by
        rw [hj j (by rw [List.length_range]; exact List.mem_range.mp hj')]
        rfl
      rw [c4, e]
      rfl
  · exact (s_ifT (gt_w (gw_orT (gt_not (gt_val (g_isi kk_lt rfl (by decide) (by rfl) T.z_isinstance (g_var rfl (pv 2)) (pe_bltn (v := .ty "tuple") (by rfl) T.z_tuple (by decide +kernel) rfl)))) rfl)) rfl (s_ret (p_ret g_bl)))
  · exact (s_ifT (gt_w (gw_orT (gt_not (gt_val (g_isi kk_nt rfl (by decide) (by rfl) T.z_isinstance (g_var rfl (pv 2)) (pe_bltn (v := .ty "tuple") (by rfl) T.z_tuple (by decide +kernel) rfl)))) rfl)) rfl (s_ret (p_ret g_bl)))
end
end Ga
/-! The stream: one list that changes; answers of which only so much is told. -/
namespace Ga
open PySem PySem.Spec PyProof.Rows L2 Mi
structure SI where
  st : Addr
  sc : Addr
  ns : List Int
abbrev sO (S : SI) (a : Int) (b : Nat) : HO := .lst [.ref S.sc, .int a, .int (b : Nat)]
def Stm (S : SI) (H : Hp) : Prop := S.sc ≠ S.st ∧ H S.sc = some (.lst (S.ns.map V.int)) ∧ ∃ (a : Int) (b : Nat), H S.st = some (sO S a b)
structure GS (S : SI) (B H B' H' : Hp) : Prop where
  g : Grow B (rm H S.st) B' (rm H' S.st)
  s : Stm S H'
structure KnS (S : SI) (B0 H0 : Hp) (Γ : Ctx) (σ : L2.St) (B H : Hp) : Prop where
  sc : H0 S.sc = some (.lst (S.ns.map V.int))
  h0 : H0 S.st = none
  b0 : B0 S.st = none
  k : ∃ (a : Int) (b : Nat), Kn B0 (upd H0 S.st (sO S a b)) Γ σ B H
section
variable {S : SI} {B0 H0 B H B' H' B2 H2 : Hp} {Γ Γ' : Ctx} {σ : L2.St}
theorem rm_le {H : Hp} {x : Addr} : Same (rm H x) H := fun b o h => (rm_some h).2
theorem KnS.bst (k : KnS S B0 H0 Γ σ B H) : B S.st = none := by
  obtain ⟨a, b, q⟩ := k.k
  exact q.g.fr S.st _ upd_same k.b0
theorem KnS.ne (k : KnS S B0 H0 Γ σ B H) : S.sc ≠ S.st := fun z => by
  have h := k.sc
  rw [z, k.h0] at h
  cases h
theorem KnS.stm (k : KnS S B0 H0 Γ σ B H) : Stm S H := by
  obtain ⟨a, b, q⟩ := k.k
  exact ⟨k.ne, q.g.kh _ _ (by rw [upd_ne k.ne]; exact k.sc), a, b, q.g.kh _ _ upd_same⟩
theorem KnS.le (k : KnS S B0 H0 Γ σ B H) : Same B H := by
  obtain ⟨a, b, q⟩ := k.k
  exact q.le
theorem GS.kb (g : GS S B H B' H') : Same B B' := g.g.kb
theorem GS.bst (g : GS S B H B' H') : B' S.st = none := g.g.le.free rm_eq
theorem GS.le (g : GS S B H B' H') : Same B' H' := fun b o h => (rm_some (g.g.le b o h)).2
theorem same_rm {B H : Hp} {x : Addr} (s : Same B H) (n : B x = none) : Same B (rm H x) := fun b o h => by
  rw [rm_ne (ne_of_none h n)]
  exact s b o h
theorem GS.refl (s : Stm S H) (le : Same B H) (n : B S.st = none) : GS S B H B H := ⟨Grow.refl (same_rm le n), s⟩
theorem GS.trans (a : GS S B H B' H') (b : GS S B' H' B2 H2) : GS S B H B2 H2 := ⟨a.g.trans b.g, b.s⟩
theorem Grow.gs (g : Grow B H B' H') (s : Stm S H) (n : B S.st = none) : GS S B H B' H' := by
  obtain ⟨h1, h2, a, b, h3⟩ := s
  have n' : B' S.st = none := g.fr _ _ h3 n
  exact ⟨⟨g.kb, fun x o h => by
    obtain ⟨hx, h⟩ := rm_some h
    rw [rm_ne hx]
    exact g.kh x o h, same_rm g.le n', fun x o h hn => g.fr x o (rm_some h).2 hn⟩, h1, g.kh _ _ h2, a, b, g.kh _ _ h3⟩
theorem KnS.grow (k : KnS S B0 H0 Γ σ B H) (g : Grow B H B' H') : KnS S B0 H0 Γ σ B' H' := ⟨k.sc, k.h0, k.b0, let ⟨a, b, q⟩ := k.k; ⟨a, b, q.grow g⟩⟩
theorem KnS.gs (k : KnS S B0 H0 Γ σ B H) (g : GS S B H B' H') : KnS S B0 H0 Γ σ B' H' := by
  obtain ⟨a, b, q⟩ := k.k
  obtain ⟨h1, h2, a', b', h3⟩ := g.s
  refine ⟨k.sc, k.h0, k.b0, a', b', ⟨q.g.kb.trans g.kb, fun x o h => ?_, g.le, fun x o h hn => ?_⟩, q.len, fun i d h => ?_, fun i ds h => ?_, q.sep⟩
  · by_cases e : x = S.st
    · subst e
      rw [upd_same] at h
      cases h
      exact h3
    · rw [upd_ne e] at h
      have := q.g.kh x o (by rw [upd_ne e]; exact h)
      exact (rm_some (g.g.kh x o (by rw [rm_ne e]; exact this))).2
  · by_cases e : x = S.st
    · subst e
      exact g.bst
    · rw [upd_ne e] at h
      have h4 := q.g.fr x o (by rw [upd_ne e]; exact h) hn
      have := q.g.kh x o (by rw [upd_ne e]; exact h)
      exact g.g.fr x o (by rw [rm_ne e]; exact this) h4
  · obtain ⟨v, e1, e2⟩ := q.d i d h
    exact ⟨v, e1, e2.mono g.kb⟩
  · obtain ⟨l, vs, e1, e2, e3, e4, e5⟩ := q.m i ds h
    have hl : l ≠ S.st := fun z => by
      subst z
      rw [upd_same] at e4
      cases e4
    have e6 : rm H S.st l = some (.lst vs) := by
      rw [rm_ne hl]
      exact e2
    refine ⟨l, vs, e1, (rm_some (g.g.kh _ _ e6)).2, g.g.fr _ _ e6 e3, ?_, e5.mono g.kb⟩
    rw [upd_ne hl] at e4 ⊢
    exact e4
theorem KnS.out (k : KnS S B0 H0 Γ σ B H) : Grow B0 H0 B (rm H S.st) := by
  obtain ⟨a, b, q⟩ := k.k
  refine ⟨q.g.kb, fun x o h => ?_, same_rm q.le k.bst, fun x o h hn => ?_⟩
  · have e := ne_of_none h k.h0
    rw [rm_ne e]
    exact q.g.kh x o (by rw [upd_ne e]; exact h)
  · have e := ne_of_none h k.h0
    exact q.g.fr x o (by rw [upd_ne e]; exact h) hn
/-- from another base -/
theorem KnS.rebase {B1 H1 : Hp} (k : KnS S B0 H0 Γ σ B1 H1) : KnS S B1 H0 Γ σ B1 H1 := by
  obtain ⟨a, b, q⟩ := k.k
  exact ⟨k.sc, k.h0, k.bst, a, b, q.rebase q.g (Same.refl _)⟩
theorem KnS.unbase {B1 : Hp} (k : KnS S B1 H0 Γ σ B H) (kb : Same B0 B1) (b0 : B0 S.st = none) (b1 : B1 S.st = none) (fr : ∀ l o, H0 l = some o → B0 l = none → B1 l = none) : KnS S B0 H0 Γ σ B H := by
  obtain ⟨a, b, q⟩ := k.k
  refine ⟨k.sc, k.h0, b0, a, b, ⟨kb.trans q.g.kb, q.g.kh, q.g.le, fun l o h n => q.g.fr l o h ?_⟩, q.len, q.d, q.m, q.sep⟩
  by_cases e : l = S.st
  · subst e
    exact b1
  · rw [upd_ne e] at h
    exact fr l o h n
theorem KnS.setD (k : KnS S B0 H0 Γ σ B H) {i : Nat} {x : D} {v : V} (r : Rel B x v) : KnS S B0 H0 (Γ.set i (.d x)) (σ.set i (some v)) B H := ⟨k.sc, k.h0, k.b0, let ⟨a, b, q⟩ := k.k; ⟨a, b, q.setD r⟩⟩
theorem KnS.sub (k : KnS S B0 H0 Γ σ B H) (h : subC Γ' Γ) : KnS S B0 H0 Γ' σ B H := ⟨k.sc, k.h0, k.b0, let ⟨a, b, q⟩ := k.k; ⟨a, b, q.sub h⟩⟩
theorem KnS.wipe (k : KnS S B0 H0 Γ σ B H) {vs : List Nat} (hw : ∀ i ∈ vs, Γ[i]? = some .any ∨ Γ[i]? = none) : KnS S B0 H0 Γ (L2.wipe σ vs) B H := ⟨k.sc, k.h0, k.b0, let ⟨a, b, q⟩ := k.k; ⟨a, b, q.wipe hw⟩⟩
end
/-! ### readings -/
def tR (S : SI) (Γ : Ctx) (P : D → Prop) : TE := fun σ H Q => ∃ B0 H0 B, KnS S B0 H0 Γ σ B H ∧ ∀ d v B' H', P d → GS S B H B' H' → Rel B' d v → Q v H'
def tRA (S : SI) (Γ : Ctx) (P : List D → Prop) : TA := fun σ H Q => ∃ B0 H0 B, KnS S B0 H0 Γ σ B H ∧ ∀ ds vs B' H', P ds → GS S B H B' H' → RelL B' ds vs → Q vs H'
def tRB (S : SI) (Γ : Ctx) (P : Bool → Prop) : TT := fun σ H Q => ∃ B0 H0 B, KnS S B0 H0 Γ σ B H ∧ ∀ b B' H', P b → GS S B H B' H' → Q b H'
def tRN (S : SI) (Γ : Ctx) (P : List D → Prop) : TE := fun σ H Q => ∃ B0 H0 B, KnS S B0 H0 Γ σ B H ∧ ∀ ds l vs B' H', P ds → H l = none → B' l = none → GS S B H B' H' → H' l = some (.lst vs) → RelL B' ds vs → Q (.ref l) H'
def iS (S : SI) (Γ : Ctx) (P : List D → Prop) : TI := fun σ H R => ∃ B0 H0 B, KnS S B0 H0 Γ σ B H ∧ ∀ its J B' H', P its → GS S B H B' H' → Walks J B' its → R J H'
inductive OutS where
  | nx (Q : Ctx → Prop)
  | rt (P : D → Prop)
def sR (S : SI) (Γ : Ctx) (o : OutS) : TS := fun D σ H => ∃ B0 H0 B, KnS S B0 H0 Γ σ B H ∧ match o with
  | .nx Q => ∀ Γ' σ' B' H', Q Γ' → KnS S B0 H0 Γ' σ' B' H' → D.nx σ' H'
  | .rt P => ∀ d v B' H', P d → Grow B0 H0 B' (rm H' S.st) → Stm S H' → Rel B' d v → D.rt v H'
section
variable {S : SI} {X : Cx} {Γ Γ1 Γ2 : Ctx} {e a b c : Expr} {es : List Expr} {d : D} {ds : List D} {pos : Pos} {P P' P1 P2 : D → Prop} {Ps : List D → Prop}
/-! ### expressions -/
theorem r_pure (h : PE X e (tG Γ d)) : PE X e (tR S Γ (· = d)) :=
  wkE h fun σ H Q ⟨B0, H0, B, k, q⟩ => by
    obtain ⟨a, b, kk⟩ := k.k
    exact ⟨B0, _, B, kk, fun v B' H' g r => q d v B' H' rfl (g.gs k.stm k.bst) r⟩
theorem r_imp (h : PE X e (tR S Γ P)) (w : ∀ d, P d → P' d) : PE X e (tR S Γ P') :=
  wkE h fun σ H Q ⟨B0, H0, B, k, q⟩ => ⟨B0, H0, B, k, fun d v B' H' p g r => q d v B' H' (w d p) g r⟩
theorem r_is (h : PE X e (tG Γ d)) (w : P d) : PE X e (tR S Γ P) := r_imp (r_pure h) fun x hx => hx ▸ w
theorem ra_nil : PA X [] (tRA S Γ (· = [])) := wkA pa_nil fun σ H Q ⟨B0, H0, B, k, q⟩ => q [] [] B H rfl (GS.refl k.stm k.le k.bst) .nil
theorem ra_cons (ha : PE X e (tR S Γ P)) (hr : PA X es (tRA S Γ Ps)) (hs : starEach (e :: es) X.env = (false, eval e X.env) :: starEach es X.env := by rfl) : PA X (e :: es) (tRA S Γ fun xs => ∃ d ds, xs = d :: ds ∧ P d ∧ Ps ds) :=
  wkA (pa_cons ha hr hs) fun σ H Q ⟨B0, H0, B, k, q⟩ => ⟨B0, H0, B, k, fun d x B1 H1 p1 g1 r1 => ⟨B0, H0, B1, k.gs g1, fun ds xs B2 H2 p2 g2 r2 => q _ _ B2 H2 ⟨d, ds, rfl, p1, p2⟩ (g1.trans g2) (.cons (r1.mono g2.kb) r2)⟩⟩
theorem ra_imp {Ps' : List D → Prop} (h : PA X es (tRA S Γ Ps)) (w : ∀ ds, Ps ds → Ps' ds) : PA X es (tRA S Γ Ps') :=
  wkA h fun σ H Q ⟨B0, H0, B, k, q⟩ => ⟨B0, H0, B, k, fun d v B' H' p g r => q d v B' H' (w d p) g r⟩
theorem r_tup {x1} (h : PA X es (tRA S Γ Ps)) (hz : ∀ ds, Ps ds → ds.length ≤ 1000) : PE X (.Tuple es x1 pos) (tR S Γ fun d => ∃ ds, d = .tup ds ∧ Ps ds) :=
  wkE (pe_tupF h) fun σ H Q ⟨B0, H0, B, k, q⟩ => ⟨B0, H0, B, k, fun ds xs B1 H1 p1 g1 r1 => ⟨by rw [← r1.len]; exact Nat.le_of_lt (small1000 (hz ds p1)), fun t o n hd => by
    have k1 := k.gs g1
    exact q _ _ _ _ ⟨ds, rfl, p1⟩ (g1.trans ((Grow.new g1.le n).gs g1.s g1.bst)) (.tup upd_same hd (r1.mono (same_new (g1.le.free n))))⟩⟩
theorem r_lst (h : PA X es (tRA S Γ Ps)) (hz : ∀ ds, Ps ds → ds.length ≤ 1000) : PE X (.List es pos) (tRN S Γ Ps) :=
  wkE (pe_lst h) fun σ H Q ⟨B0, H0, B, k, q⟩ => ⟨B0, H0, B, k, fun ds xs B1 H1 p1 g1 r1 => ⟨by rw [← r1.len]; exact Nat.le_of_lt (small1000 (hz ds p1)), fun t n => by
    have nH : H t = none := by
      by_cases e : t = S.st
      · subst e
        obtain ⟨_, _, a, b, h3⟩ := g1.s
        rw [h3] at n
        cases n
      · cases ht : H t with
        | none => rfl
        | some o =>
          have := rm_le _ _ (g1.g.kh t o (by rw [rm_ne e]; exact ht))
          rw [n] at this
          cases this
    exact q _ t xs B1 _ p1 nH (g1.le.free n) (g1.trans ((Grow.hid g1.le n).gs g1.s g1.bst)) upd_same r1⟩⟩
theorem r_op {op : Operator} {r : R2} (ho : OpR X (binaryOp op) r) (ha : PE X a (tR S Γ P1)) (hb : PE X b (tR S Γ P2))
    (h : ∀ d1 d2 x y B H (Q : VK), P1 d1 → P2 d2 → Same B H → Rel B d1 x → Rel B d2 y → (∀ d v B' H', P d → Grow B H B' H' → Rel B' d v → Q v H') → r x y H Q) : PE X (.BinOp a op b pos) (tR S Γ P) :=
  wkE (pe_op ho ha hb) fun σ H Q ⟨B0, H0, B, k, q⟩ => ⟨B0, H0, B, k, fun d1 x B1 H1 p1 g1 r1 => ⟨B0, H0, B1, k.gs g1, fun d2 y B2 H2 p2 g2 r2 =>
    h d1 d2 x y B2 H2 Q p1 p2 g2.le (r1.mono g2.kb) r2 fun d v B' H' p g r => q d v B' H' p ((g1.trans g2).trans (g.gs g2.s g2.bst)) r⟩⟩
theorem r_add (ha : PE X a (tR S Γ P1)) (hb : PE X b (tR S Γ P2)) (h1 : ∀ d, P1 d → ∃ i : Int, d = .int i) (h2 : ∀ d, P2 d → ∃ i : Int, d = .int i) : PE X (.BinOp a .Add b pos) (tR S Γ fun d => ∃ i j : Int, P1 (.int i) ∧ P2 (.int j) ∧ d = .int (i + j)) :=
  r_op op_add ha hb fun d1 d2 x y B H Q p1 p2 le r1 r2 k => by
    obtain ⟨i, rfl⟩ := h1 d1 p1
    obtain ⟨j, rfl⟩ := h2 d2 p2
    exact ⟨i, j, r1.v_inv, r2.v_inv, k _ _ B H ⟨i, j, p1, p2, rfl⟩ (Grow.refl le) (.v _)⟩
theorem r_cat (ha : PE X a (tR S Γ P1)) (hb : PE X b (tR S Γ P2)) (h1 : ∀ d, P1 d → ∃ ds, d = .tup ds ∧ ds.length ≤ 500) (h2 : ∀ d, P2 d → ∃ ds, d = .tup ds ∧ ds.length ≤ 500) :
    PE X (.BinOp a .Add b pos) (tR S Γ fun d => ∃ ds1 ds2, P1 (.tup ds1) ∧ P2 (.tup ds2) ∧ d = .tup (ds1 ++ ds2)) :=
  r_op op_catF ha hb fun d1 d2 x y B H Q p1 p2 le r1 r2 k => by
    obtain ⟨ds1, rfl, z1⟩ := h1 d1 p1
    obtain ⟨ds2, rfl, z2⟩ := h2 d2 p2
    obtain ⟨t1, o1, v1, e1, e2, e3, e4⟩ := r1.tup_inv
    obtain ⟨t2, o2, v2, f1, f2, f3, f4⟩ := r2.tup_inv
    have l1 := e4.len
    have l2 := f4.len
    refine ⟨t1, t2, v1, v2, e1, f1, sqF (le _ _ e2), sqF (le _ _ f2), Nat.le_of_lt (small1000 (by omega)), fun z => ?_, fun _ z => ?_, fun _ _ p o n hd => ?_⟩
    · refine k _ _ B H ⟨ds1, ds2, p1, p2, rfl⟩ (Grow.refl le) (.tup f2 f3 ?_)
      subst z
      have : ds1 = [] := List.eq_nil_of_length_eq_zero (by simpa using l1)
      rw [this]
      exact f4
    · refine k _ _ B H ⟨ds1, ds2, p1, p2, rfl⟩ (Grow.refl le) (.tup e2 e3 ?_)
      subst z
      have : ds2 = [] := List.eq_nil_of_length_eq_zero (by simpa using l2)
      rw [this, List.append_nil]
      exact e4
    · exact k _ _ _ _ ⟨ds1, ds2, p1, p2, rfl⟩ (Grow.new le n) (.tup upd_same hd ((e4.app f4).mono (same_new (le.free n))))
/-- an item at a drawn place -/
theorem r_ixL (ha : PE X a (tG Γ (.lst ds))) (hb : PE X b (tR S Γ fun d => ∃ k : Nat, k < ds.length ∧ d = .int (k : Nat))) (hs : PlainIx b) : PE X (.Subscript a b pos) (tR S Γ (· ∈ ds)) :=
  wkE (pe_ix ix_list (r_pure (S := S) ha) hb hs) fun σ H Q ⟨B0, H0, B, k, q⟩ => ⟨B0, H0, B, k, fun d1 x B1 H1 p1 g1 r1 => ⟨B0, H0, B1, k.gs g1, fun d2 y B2 H2 p2 g2 r2 => by
    subst p1
    obtain ⟨j, hj, rfl⟩ := p2
    obtain ⟨l, vs, h1, h2, h4⟩ := (r1.mono g2.kb).lst_inv
    obtain ⟨v, h5, h6⟩ := h4.at (i := (j : Nat)) (d := ds[j]) (atI_nat (List.getElem?_eq_getElem hj))
    exact ⟨l, vs, (j : Nat), v, h1, r2.v_inv, .of (g2.le _ _ h2), h5, q _ v B2 H2 (List.getElem_mem hj) (g1.trans g2) h6⟩⟩⟩
theorem r_ixT (ha : PE X a (tG Γ (.tup ds))) (hb : PE X b (tR S Γ fun d => ∃ k : Nat, k < ds.length ∧ d = .int (k : Nat))) (hs : PlainIx b) : PE X (.Subscript a b pos) (tR S Γ (· ∈ ds)) :=
  wkE (pe_ix ix_tup (r_pure (S := S) ha) hb hs) fun σ H Q ⟨B0, H0, B, k, q⟩ => ⟨B0, H0, B, k, fun d1 x B1 H1 p1 g1 r1 => ⟨B0, H0, B1, k.gs g1, fun d2 y B2 H2 p2 g2 r2 => by
    subst p1
    obtain ⟨j, hj, rfl⟩ := p2
    obtain ⟨l, o, vs, h1, h2, h3, h4⟩ := (r1.mono g2.kb).tup_inv
    obtain ⟨v, h5, h6⟩ := h4.at (i := (j : Nat)) (d := ds[j]) (atI_nat (List.getElem?_eq_getElem hj))
    exact ⟨l, vs, (j : Nat), v, h1, r2.v_inv, sqF (g2.le _ _ h2), h5, q _ v B2 H2 (List.getElem_mem hj) (g1.trans g2) h6⟩⟩⟩
/-- t[:e] at a drawn place -/
theorem r_slTo {p2 : Pos} (he : PE X e (tG Γ (.tup ds))) (hb : PE X b (tR S Γ fun d => ∃ k : Nat, d = .int (k : Nat))) : PE X (.Subscript e (.Slice none (some b) none p2) pos) (tR S Γ fun d => ∃ k : Nat, d = .tup (cut ds none (some (k : Nat)))) :=
  wkE (pe_slice sl_tupF (r_pure (S := S) he) po_none (po_some hb)) fun σ H Q ⟨B0, H0, B, k, q⟩ => ⟨B0, H0, B, k, fun d1 x B1 H1 p1 g1 r1 => ⟨B0, H0, B1, k.gs g1, fun d2 y B2 H2 p2 g2 r2 => by
    subst p1
    obtain ⟨j, rfl⟩ := p2
    refine ⟨(j : Nat), r2.v_inv, ?_⟩
    obtain ⟨t, o, vs, h1, h2, h3, h4⟩ := (r1.mono g2.kb).tup_inv
    refine ⟨t, vs, h1, sqF (g2.le _ _ h2), fun ec => ?_, fun t' o' n hd => ?_⟩
    · refine q _ _ B2 H2 ⟨j, rfl⟩ (g1.trans g2) (.tup h2 h3 ?_)
      have := h4.cut none (some (j : Nat))
      rwa [ec] at this
    · exact q _ _ _ _ ⟨j, rfl⟩ ((g1.trans g2).trans ((Grow.new g2.le n).gs g2.s g2.bst)) (.tup upd_same hd ((h4.cut _ _).mono (same_new (g2.le.free n))))⟩⟩
/-- tuple(e) of a list -/
theorem r_tupL {np : Pos} (hg : Gl X "tuple") (hm : X.mg "tuple" = none) (ha : PE X a (tR S Γ P)) (h1 : ∀ d, P d → ∃ ds, d = .lst ds) (hs : St1 X a := by rfl) : PE X (.Call (.Name "tuple" np) [a] [] pos) (tR S Γ fun d => ∃ ds, d = .tup ds ∧ P (.lst ds)) :=
  wkE (pe_callTy cr_tupF hg hm (by decide +kernel) (pa_cons ha pa_nil hs) (by decide) (by decide) hs) fun σ H Q ⟨B0, H0, B, k, q⟩ => ⟨B0, H0, B, k, fun d u B1 H1 p g1 r1 => by
    obtain ⟨ds, rfl⟩ := h1 d p
    obtain ⟨l, vs, h1, h2, h3⟩ := r1.lst_inv
    subst h1
    exact ⟨l, vs, rfl, .of (g1.le _ _ h2), fun t o n hd => q _ _ _ _ ⟨ds, rfl, p⟩ (g1.trans ((Grow.new g1.le n).gs g1.s g1.bst)) (.tup upd_same hd (h3.mono (same_new (g1.le.free n))))⟩⟩
/-- .. of a new list -/
theorem r_tupN {np : Pos} (hg : Gl X "tuple") (hm : X.mg "tuple" = none) (ha : PE X a (tRN S Γ Ps)) (hs : St1 X a := by rfl) : PE X (.Call (.Name "tuple" np) [a] [] pos) (tR S Γ fun d => ∃ ds, d = .tup ds ∧ Ps ds) :=
  wkE (pe_callTy cr_tupF hg hm (by decide +kernel) (pa_cons ha pa_nil hs) (by decide) (by decide) hs) fun σ H Q ⟨B0, H0, B, k, q⟩ => ⟨B0, H0, B, k, fun ds l vs B1 H1 p n0 nb g1 hl r1 =>
    ⟨l, vs, rfl, .of hl, fun t o n hd => q _ _ _ _ ⟨ds, rfl, p⟩ (g1.trans ((Grow.new g1.le n).gs g1.s g1.bst)) (.tup upd_same hd (r1.mono (same_new (g1.le.free n))))⟩⟩
/-- a new list is known from now on -/
theorem r_n (h : PE X e (tRN S Γ Ps)) : PE X e (tR S Γ fun d => ∃ ds, d = .lst ds ∧ Ps ds) :=
  wkE h fun σ H Q ⟨B0, H0, B, k, q⟩ => ⟨B0, H0, B, k, fun ds l vs B' H' p n nb g hl r => by
    have hne : l ≠ S.st := fun z => by
      subst z
      obtain ⟨_, _, a, b, h3⟩ := k.stm
      rw [h3] at n
      cases n
    refine q _ _ (upd B' l (.lst vs)) H' ⟨ds, rfl, p⟩ ⟨⟨g.kb.trans (same_new nb), g.g.kh, fun x o hx => ?_, fun x o hx hb => ?_⟩, g.s⟩ (.lst upd_same (r.mono (same_new nb)))
    · by_cases hxl : x = l
      · subst hxl
        rw [upd_same] at hx
        cases hx
        rw [rm_ne hne]
        exact hl
      · rw [upd_ne hxl] at hx
        exact g.g.le x o hx
    · have hxl : x ≠ l := fun z => by
        subst z
        rw [rm_ne hne, n] at hx
        cases hx
      rw [upd_ne hxl]
      exact g.g.fr x o hx hb⟩
/-- a def that draws -/
def spS (Pre : List D → Prop) (Post : List D → D → Prop) : Sp := fun vs H Q _ => ∃ S B ds vs', vs = .ref (SI.st S) :: vs' ∧ Stm S H ∧ Same B (rm H (SI.st S)) ∧ RelL B ds vs' ∧ Pre ds ∧ ∀ d v B' H', Post ds d → GS S B H B' H' → Rel B' d v → Q v H'
theorem r_callS {Pre : List D → Prop} {Post : List D → D → Prop} {E : XK} (h : PE X e (tCall (spS Pre Post) [] E (tRA S Γ Ps))) (hp : ∀ ds, Ps ds → ∃ es, ds = .v (.ref S.st) :: es ∧ Pre es) :
    PE X e (tR S Γ fun d => ∃ es, Ps (.v (.ref S.st) :: es) ∧ Post es d) :=
  wkE h fun σ H Q ⟨B0, H0, B, k, q⟩ => ⟨B0, H0, B, k, fun ds vs B1 H1 p g1 r1 => by
    obtain ⟨es, rfl, hpre⟩ := hp ds p
    cases r1 with
    | cons r0 r1 =>
      rw [r0.v_inv]
      exact ⟨S, B1, es, _, by rw [List.append_nil], g1.s, g1.g.le, r1, hpre, fun d v B' H' hpost g2 r2 => q d v B' H' ⟨es, p, hpost⟩ (g1.trans g2) r2⟩⟩
theorem r_callP {R : List D → D → Prop} {E : XK} (h : PE X e (tCall (spF R) [] E (tRA S Γ Ps))) (hp : ∀ ds, Ps ds → ∃ d, R ds d) :
    PE X e (tR S Γ fun d => ∃ ds, Ps ds ∧ R ds d) :=
  wkE h fun σ H Q ⟨B0, H0, B, k, q⟩ => ⟨B0, H0, B, k, fun ds vs B1 H1 p g1 r1 => by
    obtain ⟨d, hd⟩ := hp ds p
    exact ⟨B1, ds, d, g1.le, by rw [List.append_nil]; exact r1, hd, fun v B' H' g r => q d v B' H' ⟨ds, p, hd⟩ (g1.trans (g.gs g1.s g1.bst)) r⟩⟩
/-! ### tests -/
theorem rt_pure {x : Bool} (h : PT X e (tB Γ x)) : PT X e (tRB S Γ (· = x)) :=
  wkT h fun σ H Q ⟨B0, H0, B, k, q⟩ => by
    obtain ⟨a, b, kk⟩ := k.k
    exact ⟨B0, _, B, kk, fun B' H' g => q x B' H' rfl (g.gs k.stm k.bst)⟩
theorem rt_gt {j : Int} (ha : PE X a (tR S Γ P)) (hb : PE X b (tG Γ (.int j))) (h1 : ∀ d, P d → ∃ i : Int, d = .int i) : PT X (.Compare a [.Gt] [b] pos) (tRB S Γ fun _ => True) :=
  wkT (pt_cmpR op_gt ha (r_pure (S := S) hb) (nomark _)) fun σ H Q ⟨B0, H0, B, k, q⟩ => ⟨B0, H0, B, k, fun d1 u B1 H1 p1 g1 r1 => ⟨B0, H0, B1, k.gs g1, fun d2 y B2 H2 p2 g2 r2 => by
    subst p2
    obtain ⟨i, rfl⟩ := h1 d1 p1
    exact ⟨i, j, r1.v_inv, r2.v_inv, _, rfl, q _ B2 H2 trivial (g1.trans g2)⟩⟩⟩
theorem rw_and {x : Bool} {rest : List Expr} {Pb : Bool → Prop} (h : PT X a (tB Γ x)) (r : x = true → PW X (.BoolOp .And (b :: rest) pos) (tRB S Γ Pb)) : PW X (.BoolOp .And (a :: b :: rest) pos) (tRB S Γ fun y => (x = true ∧ Pb y) ∨ y = false) := by
  cases x with
  | true => exact wkW (pw_and (rt_pure (S := S) h) (r rfl)) fun σ H Q ⟨B0, H0, B, k, q⟩ => ⟨B0, H0, B, k, fun b B' H' p g => by
      subst p
      exact iteT ⟨B0, H0, B', k.gs g, fun y B2 H2 p2 g2 => q y B2 H2 (.inl ⟨rfl, p2⟩) (g.trans g2)⟩⟩
  | false => exact wkW (pw_and (rt_pure (S := S) h) noW) fun σ H Q ⟨B0, H0, B, k, q⟩ => ⟨B0, H0, B, k, fun b B' H' p g => by
      subst p
      exact iteF (q false B' H' (.inr rfl) g)⟩
/-! ### statements -/
variable {st : Stmt} {sts rest body orelse : List Stmt} {o : OutS} {Q Q1 : Ctx → Prop}
theorem rs_end (q : Q Γ) : PSs X [] (sR S Γ (.nx Q)) := wkSs pss_nil fun D σ H ⟨B0, H0, B, k, qq⟩ => qq Γ σ B H q k
theorem rs_pure (h1 : PS X st (sG Γ (.nx Γ1))) (h2 : PSs X rest (sR S Γ1 o)) : PSs X (st :: rest) (sR S Γ o) :=
  wkSs (pss_cons h1 h2) fun D σ H ⟨B0, H0, B, k, q⟩ => by
    obtain ⟨a, b, kk⟩ := k.k
    exact ⟨B0, _, B, kk, fun σ' B' H' k' => ⟨B0, H0, B', ⟨k.sc, k.h0, k.b0, a, b, k'⟩, q⟩⟩
theorem rs_from (w : subC Γ2 Γ1) (h : PSs X sts (sR S Γ2 o)) : PSs X sts (sR S Γ1 o) :=
  wkSs h fun D σ H ⟨B0, H0, B, k, q⟩ => ⟨B0, H0, B, k.sub w, q⟩
/-- what a name stands for is told so far -/
theorem pssX {I : D → Prop} {t : D → TS} (h : ∀ d, I d → PSs X sts (t d)) : PSs X sts (fun D σ H => ∃ d, I d ∧ t d D σ H) := ⟨fun pins s σ H D J ⟨d, i, q⟩ => (h d i).run pins s σ H D J q⟩
theorem rs_let {i : Nat} {x : Str} {pos' : Pos} (hN : X.N.Nodup) (hi : X.N[i]? = some x) (hx : Loc X.env.scope x) (he : PE X e (tR S Γ P)) (hr : ∀ d, P d → PSs X rest (sR S (Γ.set i (.d d)) o))
    (hs : swapsWith e (some (.Name x pos')) pos.line X.env = pure false := by rfl) (hf : X.fn x = true ∨ X.env.scope.names.lookup x = some .local := by first | exact .inl rfl | exact .inr rfl | assumption) :
    PSs X (.Assign [.Name x pos'] e pos :: rest) (sR S Γ o) :=
  wkSs (pss_cons (ps_set hN hi hx he hs hf) (pssX hr)) fun D σ H ⟨B0, H0, B, k, q⟩ => ⟨B0, H0, B, k, fun d v B' H' p g r => ⟨d, p, B0, H0, B', (k.gs g).setD r, q⟩⟩
theorem pssXs {I : List D → Prop} {t : List D → TS} (h : ∀ d, I d → PSs X sts (t d)) : PSs X sts (fun D σ H => ∃ d, I d ∧ t d D σ H) := ⟨fun pins s σ H D J ⟨d, i, q⟩ => (h d i).run pins s σ H D J q⟩
theorem KnS.setM {B0 H0 B H : Hp} {σ : L2.St} {B1 H1 : Hp} {i : Nat} {l : Addr} {vs : List V} (k : KnS S B0 H0 Γ σ B H) (g : GS S B H B1 H1) (n : H l = none) (hl : H1 l = some (.lst vs)) (hb : B1 l = none) (r : RelL B1 ds vs) : KnS S B0 H0 (Γ.set i (.m ds)) (σ.set i (some (.ref l))) B1 H1 := by
  have k1 := k.gs g
  obtain ⟨a, b, q⟩ := k1.k
  obtain ⟨a0, b0, q0⟩ := k.k
  have hne : l ≠ S.st := fun z => by
    subst z
    obtain ⟨_, _, a, b, h3⟩ := k.stm
    rw [h3] at n
    cases n
  have n0 : H0 l = none := by
    cases hh : H0 l with
    | none => rfl
    | some o =>
      have := q0.g.kh l o (by rw [upd_ne hne]; exact hh)
      rw [n] at this
      cases this
  refine ⟨k.sc, k.h0, k.b0, a, b, q.g, by simp [q.len], fun j y h => ?_, fun j es h => ?_, fun j m es fs p h1 h2 h3 h4 => ?_⟩
  · by_cases hj : i = j
    · subst hj
      cases get_set_eq h
    · rw [get_set_ne hj] at h ⊢
      exact q.d j y h
  · by_cases hj : i = j
    · subst hj
      have hi : i < Γ.length := by
        have := (List.getElem?_eq_some_iff.mp h).1
        simpa using this
      cases get_set_eq h
      exact ⟨l, vs, by rw [List.getElem?_set_self (by rw [q.len]; exact hi)], hl, hb, by rw [upd_ne hne]; exact n0, r⟩
    · rw [get_set_ne hj] at h ⊢
      exact q.m j es h
  · have other : ∀ j es, i ≠ j → Γ[j]? = some (.m es) → σ[j]? ≠ some (some (.ref l)) := fun j es hij hh hs => by
      obtain ⟨l', vs', a1, a2, _⟩ := q0.m j es hh
      rw [hs] at a1
      cases a1
      rw [n] at a2
      cases a2
    by_cases a1 : i = j
    · by_cases a2 : i = m
      · exact a1.symm.trans a2
      · subst a1
        rw [get_set_ne a2] at h2 h4
        have hi : i < σ.length := by
          have := (List.getElem?_eq_some_iff.mp h1).1
          rw [q.len]
          simpa using this
        rw [List.getElem?_set_self hi] at h3
        cases h3
        exact absurd h4 (other m fs a2 h2)
    · by_cases a2 : i = m
      · subst a2
        rw [get_set_ne a1] at h1 h3
        have hi : i < σ.length := by
          have := (List.getElem?_eq_some_iff.mp h2).1
          rw [q.len]
          simpa using this
        rw [List.getElem?_set_self hi] at h4
        cases h4
        exact absurd h3 (other j es a1 h1)
      · rw [get_set_ne a1] at h1 h3
        rw [get_set_ne a2] at h2 h4
        exact q.sep j m es fs p h1 h2 h3 h4
theorem rs_letN {i : Nat} {x : Str} {pos' : Pos} (hN : X.N.Nodup) (hi : X.N[i]? = some x) (hx : Loc X.env.scope x) (he : PE X e (tRN S Γ Ps)) (hr : ∀ ds, Ps ds → PSs X rest (sR S (Γ.set i (.m ds)) o))
    (hs : swapsWith e (some (.Name x pos')) pos.line X.env = pure false := by rfl) (hf : X.fn x = true ∨ X.env.scope.names.lookup x = some .local := by first | exact .inl rfl | exact .inr rfl | assumption) :
    PSs X (.Assign [.Name x pos'] e pos :: rest) (sR S Γ o) :=
  wkSs (pss_cons (ps_set hN hi hx he hs hf) (pssXs hr)) fun D σ H ⟨B0, H0, B, k, q⟩ => ⟨B0, H0, B, k, fun ds l vs B' H' p n nb g hl r => ⟨ds, p, B0, H0, B', k.setM g n hl nb r, q⟩⟩
theorem rs_ret (he : PE X e (tR S Γ P)) (w : ∀ d, P d → P' d) : PSs X (.Return (some e) pos :: rest) (sR S Γ (.rt P')) :=
  wkSs (pss_cons (ps_ret he) pss_never) fun D σ H ⟨B0, H0, B, k, q⟩ => ⟨B0, H0, B, k, fun d v B' H' p g r => q d v B' H' (w d p) (k.gs g).out g.s r⟩
/-- one's own list is handed back -/
theorem rs_retM {i : Nat} {x : Str} {p : Pos} (hΓ : Γ[i]? = some (.m ds)) (h : PE X (.Name x p) (tVar i)) (w : P' (.lst ds)) : PSs X (.Return (some (.Name x p)) pos :: rest) (sR S Γ (.rt P')) :=
  wkSs (pss_cons (ps_ret h) pss_never) fun D σ H ⟨B0, H0, B, k, q⟩ => by
    obtain ⟨a, b, kk⟩ := k.k
    obtain ⟨l, vs, h1, h2, h3, h4, h5⟩ := kk.m i ds hΓ
    have hne : l ≠ S.st := fun z => by
      subst z
      rw [upd_same] at h4
      cases h4
    have h40 : H0 l = none := by rwa [upd_ne hne] at h4
    have go := k.out
    refine ⟨.ref l, h1, q _ (.ref l) (upd B l (.lst vs)) H w ⟨go.kb.trans (same_new h3), go.kh, fun b o hb => ?_, fun b o hb hn => ?_⟩ k.stm (.lst upd_same (h5.mono (same_new h3)))⟩
    · by_cases hbl : b = l
      · subst hbl
        rw [upd_same] at hb
        cases hb
        rw [rm_ne hne]
        exact h2
      · rw [upd_ne hbl] at hb
        exact go.le b o hb
    · rw [upd_ne (ne_of_none hb h40)]
      exact go.fr b o hb hn
/-- a test of what is known -/
theorem rs_if {x : Bool} (hc : PT X c (tB Γ x)) (h1 : x = true → PSs X body (sR S Γ (.rt P))) (h2 : x = false → PSs X rest (sR S Γ (.rt P))) : PSs X (.If c body [] pos :: rest) (sR S Γ (.rt P)) := by
  cases x with
  | true => exact wkSs (pss_cons (ps_if (rt_pure (S := S) hc) (h1 rfl) pss_never) pss_never) fun D σ H ⟨B0, H0, B, k, q⟩ => ⟨B0, H0, B, k, fun b B' H' p g => by
      subst p
      exact iteT ⟨B0, H0, B', k.gs g, q⟩⟩
  | false => exact wkSs (pss_cons (ps_if (rt_pure (S := S) hc) pss_never pss_nil) (h2 rfl)) fun D σ H ⟨B0, H0, B, k, q⟩ => ⟨B0, H0, B, k, fun b B' H' p g => by
      subst p
      exact iteF ⟨B0, H0, B', k.gs g, q⟩⟩
theorem pssXc {I : Ctx → Prop} {t : Ctx → TS} (h : ∀ d, I d → PSs X sts (t d)) : PSs X sts (fun D σ H => ∃ d, I d ∧ t d D σ H) := ⟨fun pins s σ H D J ⟨d, i, q⟩ => (h d i).run pins s σ H D J q⟩
/-- a drawn test, both go on -/
theorem rs_ifj {Pb : Bool → Prop} (hc : PT X c (tRB S Γ Pb)) (h1 : Pb true → PSs X body (sR S Γ (.nx Q1))) (h2 : Pb false → Q1 Γ) (hr : ∀ Γ1, Q1 Γ1 → PSs X rest (sR S Γ1 o)) : PSs X (.If c body [] pos :: rest) (sR S Γ o) := by
  have hb : PSs X body (fun D σ H => Pb true ∧ sR S Γ (.nx Q1) D σ H) := ⟨fun pins s σ H D I q => (h1 q.1).run pins s σ H D I q.2⟩
  refine wkSs (pss_cons (ps_if hc hb pss_nil) (pssXc hr)) fun D σ H ⟨B0, H0, B, k, q⟩ => ⟨B0, H0, B, k, fun b B' H' p g => ?_⟩
  cases b with
  | true => exact iteT ⟨p, B0, H0, B', k.gs g, fun Γ' σ' B2 H2 q1 k2 => ⟨Γ', q1, B0, H0, B2, k2, q⟩⟩
  | false => exact iteF ⟨Γ, h2 p, B0, H0, B', k.gs g, q⟩
end
end Ga
/-! The stream: comprehensions, loops, lists that grow by what is drawn, defs. -/
namespace Ga
open PySem PySem.Spec PyProof.Rows L2 Mi
section
variable {S : SI} {B0 H0 B H B1 H1 B' H' : Hp} {Γ : Ctx} {σ : L2.St} {l : Addr} {o : HO}
theorem KnS.nst (k : KnS S B0 H0 Γ σ B H) (n : H l = none) : l ≠ S.st := fun z => by
  subst z
  obtain ⟨_, _, a, b, h3⟩ := k.stm
  rw [h3] at n
  cases n
theorem GS.hidUpd (g : GS S B1 H1 B H) (hn : H1 l = none) (hb : B l = none) (hs : l ≠ S.st) (hc : l ≠ S.sc) : GS S B1 H1 B (upd H l o) := by
  refine ⟨⟨g.kb, fun b x q => ?_, fun b x q => ?_, g.g.fr⟩, g.s.1, ?_, ?_⟩
  · obtain ⟨hb', q'⟩ := rm_some q
    rw [rm_ne hb', upd_ne (ne_of_none q' hn)]
    have := g.g.kh b x q
    exact (rm_some this).2
  · have hbl : b ≠ l := ne_of_none q hb
    have := rm_some (g.g.le b x q)
    rw [rm_ne this.1, upd_ne hbl]
    exact this.2
  · rw [upd_ne (fun z => hc z.symm)]
    exact g.s.2.1
  · rw [upd_ne (fun z => hs z.symm)]
    exact g.s.2.2
theorem KnS.hidUpd (k : KnS S B0 H0 Γ σ B H) (hn : H0 l = none) (hb : B l = none) (hs : l ≠ S.st) (hno : ∀ (i : Nat) ds, Γ[i]? = some (.m ds) → σ[i]? ≠ some (some (.ref l))) : KnS S B0 H0 Γ σ B (upd H l o) := by
  obtain ⟨a, b, q⟩ := k.k
  exact ⟨k.sc, k.h0, k.b0, a, b, q.hidUpd (by rw [upd_ne hs]; exact hn) hb hno⟩
theorem KnS.nom (k : KnS S B0 H0 Γ σ B H) (n : H l = none) : ∀ (i : Nat) ds, Γ[i]? = some (.m ds) → σ[i]? ≠ some (some (.ref l)) := by
  obtain ⟨a, b, q⟩ := k.k
  exact q.nom n
theorem KnS.n0 (k : KnS S B0 H0 Γ σ B H) (n : H l = none) : H0 l = none := by
  obtain ⟨a, b, q⟩ := k.k
  cases hh : H0 l with
  | none => rfl
  | some o =>
    have := q.g.kh l o (by rw [upd_ne (k.nst n)]; exact hh)
    rw [n] at this
    cases this
end
section
variable {S : SI} {α : Type} {xs : List α} {emb : α → D} {Γ : Ctx} {Γ' : α → Ctx} {Pe : D → Prop} {g : TG} {vs : List Nat}
/-- as many as are walked over, each as told -/
def LP (n : Nat) (Pe : D → Prop) : List D → Prop := fun ds => ds.length = n ∧ ∀ d ∈ ds, Pe d
theorem lcS {σ : L2.St} {H : Hp} {Q : VK} (ha : ∀ x ∈ xs, gA g Γ (Γ' x) (emb x) (ownW vs)) (hw : ∀ i ∈ vs, Γ[i]? = some .any ∨ Γ[i]? = none) (hz : xs.length ≤ 1000) (h : tRN S Γ (LP xs.length Pe) σ H Q) :
    tLc (iG Γ (xs.map emb)) g (tXT (· ∈ xs) fun x => tB (Γ' x) true) (tX (· ∈ xs) fun x => tR S (Γ' x) Pe) vs σ H Q := by
  obtain ⟨B0, H0, B, k, q⟩ := h
  obtain ⟨a0, b0, kk⟩ := k.k
  refine ⟨B0, _, B, kk, fun J B1 H1 g1 wk Dl hD => ?_⟩
  have k1 := k.grow g1
  have hBD : B1 Dl = none := g1.le.free hD
  have hst := k1.nst hD
  have hH0 := k1.n0 hD
  have hsc : Dl ≠ S.sc := fun z => by
    subst z
    have := k1.stm.2.1
    rw [hD] at this
    cases this
  have gs1 : GS S B H B1 H1 := g1.gs k.stm k.bst
  have hDH : H Dl = none := g1.kh.free hD
  refine ⟨fun i m Hi => m = xs.length - i ∧ i ≤ xs.length ∧ ∃ Bi acc ds, KnS S B0 H0 Γ σ Bi Hi ∧ GS S B1 H1 Bi Hi ∧ Bi Dl = none ∧ Hi Dl = some (.lst acc) ∧ RelL Bi ds acc ∧ LP i Pe ds,
    ⟨xs.length, by simp, Nat.zero_le _, B1, [], [], k1.hidUpd hH0 hBD hst (k1.nom hD), (GS.refl k1.stm k1.le k1.bst).hidUpd hD hBD hst hsc, hBD, upd_same, .nil, rfl, fun d hd => by simp at hd⟩, ?_⟩
  rintro i m Hi ⟨rfl, hi, Bi, acc, ds, ki, gi, bi, di, ri, lp⟩
  have hlen : (xs.map emb).length = xs.length := by simp
  by_cases hlt : i < xs.length
  · refine .inr ⟨wk.go i Hi (gi.kb.trans gi.le) (by rw [hlen]; exact hlt), fun Hn => (i + 1 ≤ xs.length) ∧ ∃ Bn acc' ds', KnS S B0 H0 Γ σ Bn Hn ∧ GS S B1 H1 Bn Hn ∧ Bn Dl = none ∧ Hn Dl = some (.lst acc') ∧ RelL Bn ds' acc' ∧ LP (i + 1) Pe ds',
      fun Hn hn => ⟨xs.length - (i + 1), by omega, rfl, hn⟩, fun x H' y => ?_⟩
    obtain ⟨d, B2, hd, g2, r2⟩ := wk.yld i Hi x H' Bi gi.kb gi.le (by rw [hlen]; exact hlt) y
    have hx : xs[i]? = some xs[i] := List.getElem?_eq_getElem hlt
    have mem : xs[i] ∈ xs := List.getElem_mem hlt
    rw [List.getElem?_map, hx] at hd
    have ed : emb xs[i] = d := Option.some.inj hd
    subst ed
    have kw := (ki.wipe hw).grow g2
    obtain ⟨a2, b2, kk2⟩ := kw.k
    refine ha xs[i] mem x (wipe σ vs) B0 _ B2 H' _ kk2 r2 fun σ' kn hW => ⟨hW.trans wipe_wipe, xs[i], mem, B0, _, B2, kn, fun B3 H3 g3 => ?_⟩
    have kn' : KnS S B0 H0 (Γ' xs[i]) σ' B2 H' := ⟨k.sc, k.h0, k.b0, a2, b2, kn⟩
    have gg : GS S Bi Hi B3 H3 := (g2.trans g3).gs ki.stm ki.bst
    refine iteT ⟨xs[i], mem, B0, H0, B3, kn'.grow g3, fun d4 v B4 H4 p4 g4 r4 => ?_⟩
    have gz : GS S Bi Hi B4 H4 := gg.trans g4
    have dz : H4 Dl = some (.lst acc) := (rm_some (gz.g.kh Dl _ (by rw [rm_ne hst]; exact di))).2
    have bz : B4 Dl = none := gz.g.fr Dl _ (by rw [rm_ne hst]; exact di) bi
    have lacc : acc.length = i := by rw [← ri.len]; exact lp.1
    refine ⟨acc, dz, small1000 (by omega), by omega, B4, acc ++ [v], ds ++ [d4], (ki.gs gz).hidUpd hH0 bz hst (k1.nom hD), (gi.trans gz).hidUpd hD bz hst hsc, bz, upd_same, (ri.mono gz.kb).app (.cons r4 .nil), ?_, fun d hd => ?_⟩
    · rw [List.length_append, lp.1]
      rfl
    · rcases List.mem_append.mp hd with z | z
      · exact lp.2 d z
      · rw [List.mem_singleton.mp z]
        exact p4
  · have e : i = xs.length := by omega
    subst e
    have st := wk.stop Hi (gi.kb.trans gi.le)
    rw [hlen] at st
    exact .inl ⟨st, q ds Dl acc Bi Hi lp hDH bi (gs1.trans gi) di ri⟩
end
section
variable {S : SI} {X : Cx} {α : Type} {xs : List α} {emb : α → D} {Γ : Ctx} {Γ' : α → Ctx} {Pe : D → Prop} {g : TG} {elt tg iter : Expr} {scope : Scope} {own : List (Str × Nat)} {pos spos py : Pos} {rest : List Stmt} {o : OutS}
theorem r_lc (Pe : D → Prop) (hc : X.calm = true) (hN : X.N.Nodup) (hi : PI X tg iter (iG Γ (xs.map emb))) (ok : BlkOk X.N X.env.scope scope own)
    (hg : Blk X scope fun Y => PG Y tg g) (ha : ∀ x ∈ xs, gA g Γ (Γ' x) (emb x) (ownW (own.map (·.2))))
    (he : Blk X scope fun Y => ∀ x ∈ xs, PE Y elt (tR S (Γ' x) Pe)) (hw : ∀ i ∈ own.map (·.2), Γ[i]? = some .any ∨ Γ[i]? = none) (hz : xs.length ≤ 1000)
    (hs : ∀ x, foldedSetIterable iter X.env x = pure x := by intro _; rfl) : PE X (.ListComp elt [⟨tg, iter, [], 0⟩] scope pos) (tRN S Γ (LP xs.length Pe)) :=
  wkE (pe_lc hc hN hi ok hg (fun s H C cl fp => ptsX (I := (· ∈ xs)) (t := fun x => tB (Γ' x) true) fun x hx => gts_nil) (fun s H C cl fp => peX (he s H C cl fp)) hs) fun σ H Q h => lcS ha hw hz h
theorem rs_lc {i : Nat} {y : Str} (Pe : D → Prop) (hc : X.calm = true) (hN : X.N.Nodup) (hy : X.N[i]? = some y) (hyl : X.env.scope.names.lookup y = some .local)
    (hsw : swapsWith (.ListComp elt [⟨tg, iter, [], 0⟩] scope pos) (some (.Name y py)) spos.line X.env = pure true) (hi : PI X tg iter (iG Γ (xs.map emb))) (ok : BlkOk X.N X.env.scope scope own)
    (hg : Blk X scope fun Y => PG Y tg g) (ha : ∀ x ∈ xs, gA g Γ (Γ' x) (emb x) (ownW (own.map (·.2))))
    (he : Blk X scope fun Y => ∀ x ∈ xs, PE Y elt (tR S (Γ' x) Pe)) (hw : ∀ i ∈ own.map (·.2), Γ[i]? = some .any ∨ Γ[i]? = none) (hz : xs.length ≤ 1000)
    (hr : ∀ ds, LP xs.length Pe ds → PSs X rest (sR S (Γ.set i (.m ds)) o))
    (hs : ∀ x, foldedSetIterable iter X.env x = pure x := by intro _; rfl) : PSs X (.Assign [.Name y py] (.ListComp elt [⟨tg, iter, [], 0⟩] scope pos) spos :: rest) (sR S Γ o) :=
  wkSs (pss_cons (wkS (t' := fun D σ H => ∃ B0 H0 B, KnS S B0 H0 Γ σ B H ∧ ∀ ds σ' B' H', LP xs.length Pe ds → KnS S B0 H0 (Γ.set i (.m ds)) σ' B' H' → D.nx σ' H') (ps_setLc hc hN hy hyl hsw hi ok hg (fun s H C cl fp => ptsX (I := (· ∈ xs)) (t := fun x => tB (Γ' x) true) fun x hx => gts_nil) (fun s H C cl fp => peX (he s H C cl fp)) hs) fun D σ H ⟨B0, H0, B, k, q⟩ =>
    lcS ha hw hz ⟨B0, H0, B, k, fun ds l vs B' H' p n nb g hl r => q ds _ B' H' p (k.setM g n hl nb r)⟩) (pssXs hr)) fun D σ H ⟨B0, H0, B, k, q⟩ => ⟨B0, H0, B, k, fun ds σ' B' H' p k' => ⟨ds, p, B0, H0, B', k', q⟩⟩
end
/-! ### loops -/
section
variable {S : SI} {X : Cx} {Γ Γ1 : Ctx} {a e : Expr} {pos np : Pos} {P : D → Prop} {ds : List D} {rest body : List Stmt} {o : OutS} {tg iter : Expr}
theorem is_pure (h : PI X tg iter (iG Γ ds)) : PI X tg iter (iS S Γ (· = ds)) :=
  wkI h fun σ H R ⟨B0, H0, B, k, q⟩ => by
    obtain ⟨a, b, kk⟩ := k.k
    exact ⟨B0, _, B, kk, fun J B' H' g w => q ds J B' H' rfl (g.gs k.stm k.bst) w⟩
/-- range of what is drawn -/
theorem is_rng {m : Nat} (hm' : m ≤ 100000) (hg : Gl X "range") (hm : X.mg "range" = none) (h : PE X a (tR S Γ fun d => ∃ k : Nat, k < m ∧ d = .int (k : Nat))) (hs : St1 X a := by rfl) :
    PI X tg (.Call (.Name "range" np) [a] [] pos) (iS S Γ fun its => ∃ k : Nat, k < m ∧ its = (List.range k).map fun i => D.int (i : Nat)) :=
  wkI (pi_range1 hg hm (pa_cons h pa_nil hs) hs) fun σ H R ⟨B0, H0, B, k, q⟩ => ⟨B0, H0, B, k, fun d v B' H' p g r => by
    obtain ⟨n, hn, rfl⟩ := p
    refine ⟨(n : Nat), by rw [r.v_inv], by omega, by omega, q _ _ B' H' ⟨n, hn, rfl⟩ g ⟨fun i H s hi => ?_, fun H s => ?_, fun i H x H' B1 s1 s2 hi y => ?_⟩⟩
    · simpa [Itr] using hi
    · show _ ≤ List.length _
      simp
    · obtain ⟨rfl, rfl⟩ := y
      have hi' : i < n := by simpa using hi
      exact ⟨D.int (i : Nat), B1, by simp [hi'], Grow.refl s2, by rw [Int.zero_add]; exact .v _⟩⟩
/-- a loop; what holds ahead of each turn -/
theorem rs_for {Pi : List D → Prop} {g : TG} (Inv : List D → Nat → Ctx → Prop) (hp : PassesOwn (model X.prog X.w) X.A X.env X.xe) (hc : X.calm = true) (hi : PI X tg iter (iS S Γ Pi)) (hg : PG X tg g)
    (hb : ∀ its, Pi its → ∀ i (h : i < its.length) Γ', Inv its i Γ' → ∃ Γb, gA g Γ' Γb its[i] anyW ∧ PSs X body (sR S Γb (.nx (Inv its (i + 1))))) (h0 : ∀ its, Pi its → Inv its 0 Γ)
    (hr : ∀ its, Pi its → ∀ Γ', Inv its its.length Γ' → PSs X rest (sR S Γ' o)) (hs : ∀ x, foldedSetIterable iter X.env x = pure x := by intro _; rfl) : PSs X (.For tg iter body [] pos :: rest) (sR S Γ o) := by
  have hb' : PSs X body (fun D σ H => ∃ its, Pi its ∧ ∃ i, i < its.length ∧ ∃ Γb, PSs X body (sR S Γb (.nx (Inv its (i + 1)))) ∧ sR S Γb (.nx (Inv its (i + 1))) D σ H) :=
    ⟨fun pins s σ H D I ⟨its, p, i, h, Γb, w, q⟩ => w.run pins s σ H D I q⟩
  have hr' : PSs X rest (fun D σ H => ∃ its, Pi its ∧ ∃ Γ', Inv its its.length Γ' ∧ sR S Γ' o D σ H) := ⟨fun pins s σ H D I ⟨its, p, Γ', w, q⟩ => (hr its p Γ' w).run pins s σ H D I q⟩
  refine wkSs (pss_cons (ps_for hp hc hi hg hb' hs) hr') fun D σ H ⟨B0, H0, B, k, q⟩ => ⟨B0, H0, B, k, fun its J B1 H1 p g1 wk => ?_⟩
  have k1 := k.gs g1
  obtain ⟨a1, b1, kk1⟩ := k1.k
  have fr1 : ∀ l o, H0 l = some o → B0 l = none → B1 l = none := fun l o h n => by
    refine kk1.g.fr l o ?_ n
    rw [upd_ne (ne_of_none h k.h0)]
    exact h
  refine ⟨fun i m σi Hi => m = its.length - i ∧ i ≤ its.length ∧ ∃ Γ' Bi, Inv its i Γ' ∧ KnS S B1 H0 Γ' σi Bi Hi, ⟨its.length, by simp, Nat.zero_le _, Γ, B1, h0 its p, k1.rebase⟩, ?_⟩
  rintro i m σi Hi ⟨rfl, hi, Γ', Bi, inv, ki⟩
  obtain ⟨ai, bi, kki⟩ := ki.k
  by_cases hlt : i < its.length
  · refine .inr ⟨wk.go i Hi (kki.g.kb.trans kki.le) hlt, fun σ' H' => ∃ Γn Bn, Inv its (i + 1) Γn ∧ KnS S B1 H0 Γn σ' Bn H',
      fun σ' H' hn => ⟨its.length - (i + 1), by omega, rfl, by omega, hn⟩, fun x H' y => ?_⟩
    obtain ⟨d, B2, hd, g2, r2⟩ := wk.yld i Hi x H' Bi kki.g.kb kki.le hlt y
    rw [List.getElem?_eq_getElem hlt] at hd
    have ed : its[i] = d := Option.some.inj hd
    subst ed
    obtain ⟨Γb, ga, w⟩ := hb its p i hlt Γ' inv
    obtain ⟨a2, b2, kk2⟩ := (ki.grow g2).k
    exact ga x σi B1 _ B2 H' _ kk2 r2 fun σ' kn _ => ⟨its, p, i, hlt, Γb, w, B1, H0, B2, ⟨ki.sc, ki.h0, ki.b0, a2, b2, kn⟩, fun Γn σ2 B3 H3 qn k3 => ⟨Γn, B3, qn, k3⟩⟩
  · have e : i = its.length := by omega
    subst e
    exact .inl ⟨wk.stop Hi (kki.g.kb.trans kki.le), its, p, Γ', inv, B0, H0, Bi, ki.unbase kk1.g.kb k.b0 k1.bst fr1, q⟩
/-- x.append(e), drawn -/
theorem KnS.write {B0 H0 B H : Hp} {σ : L2.St} {i : Nat} {es : List D} {l : Addr} {vs : List V} (k : KnS S B0 H0 Γ σ B H) (hi : Γ[i]? = some (.m ds)) (hs : σ[i]? = some (some (.ref l))) (r : RelL B es vs) : KnS S B0 H0 (Γ.set i (.m es)) σ B (upd H l (.lst vs)) :=
  ⟨k.sc, k.h0, k.b0, let ⟨a, b, q⟩ := k.k; ⟨a, b, q.write hi hs r⟩⟩
theorem rs_app {i : Nat} {x : Str} {xp ap cp : Pos} (hΓ : Γ[i]? = some (.m ds)) (hz : ds.length < 1000) (he : PE X e (tR S Γ P)) (hx : PE X (.Name x xp) (tVar i))
    (hr : ∀ d, P d → PSs X rest (sR S (Γ.set i (.m (ds ++ [d]))) o)) (m1 : PE X (.Call (.Attribute (.Name x xp) "append" ap) [e] [] cp) (tBM X.K "list" rAppend (tVar i) (tCons (tR S Γ P) tNil)))
    (hs : swapsWith (.Call (.Attribute (.Name x xp) "append" ap) [e] [] cp) none pos.line X.env = pure false := by rfl) :
    PSs X (.Expr (.Call (.Attribute (.Name x xp) "append" ap) [e] [] cp) pos :: rest) (sR S Γ o) :=
  wkSs (pss_cons (ps_expr m1 hs) (pssX hr)) fun D σ H ⟨B0, H0, B, k, q⟩ => by
    obtain ⟨a, b, kk⟩ := k.k
    obtain ⟨l, vs, h1, h2, h3, h4, h5⟩ := kk.m i ds hΓ
    have hne : l ≠ S.st := fun z => by
      subst z
      rw [upd_same] at h4
      cases h4
    refine ⟨.ref l, h1, .inl ⟨rfl, _, .of h2⟩, B0, H0, B, k, fun d v B' H' p g r => ⟨l, vs, v, rfl, rfl, (rm_some (g.g.kh l _ (by rw [rm_ne hne]; exact h2))).2, ?_, d, p, B0, H0, B', (k.gs g).write hΓ h1 ((h5.mono g.kb).app (.cons r .nil)), q⟩⟩
    rw [← h5.len]
    exact small1000 (Nat.le_of_lt hz)
theorem seqIx_nat {n m : Nat} (h : n < m) : seqIndex? (n : Int) m = some n := by
  unfold seqIndex?
  have h1 : ¬ (n : Int) < 0 := by omega
  have h2 : (0 : Int) ≤ (n : Int) := by omega
  have h3 : (n : Int) < (m : Int) := by omega
  simp [h1, h2, h3]
/-- found.append(left.pop(e)) at a drawn place -/
theorem rs_move {i j : Nat} {x y : Str} {xp ap cp yp bp dp : Pos} {es : List D} (hij : i ≠ j) (hΓ : Γ[i]? = some (.m ds)) (hΓ' : Γ[j]? = some (.m es)) (hz : ds.length < 1000) (hz2 : es.length ≤ 1000) 
    (hr : ∀ n (h : n < es.length), PSs X rest (sR S ((Γ.set j (.m (es.eraseIdx n))).set i (.m (ds ++ [es[n]]))) o))
    (m1 : PE X (.Call (.Attribute (.Name x xp) "append" ap) [.Call (.Attribute (.Name y yp) "pop" bp) [e] [] dp] [] cp) (tBM X.K "list" rAppend (tVar i) (tCons (tBM X.K "list" rPopAt (tVar j) (tCons (tR S Γ fun d => ∃ k : Nat, k < es.length ∧ d = .int (k : Nat)) tNil)) tNil)))
    (hs : swapsWith (.Call (.Attribute (.Name x xp) "append" ap) [.Call (.Attribute (.Name y yp) "pop" bp) [e] [] dp] [] cp) none pos.line X.env = pure false := by rfl) :
    PSs X (.Expr (.Call (.Attribute (.Name x xp) "append" ap) [.Call (.Attribute (.Name y yp) "pop" bp) [e] [] dp] [] cp) pos :: rest) (sR S Γ o) := by
  have hr' : PSs X rest (fun D σ H => ∃ n, ∃ h : n < es.length, sR S ((Γ.set j (.m (es.eraseIdx n))).set i (.m (ds ++ [es[n]]))) o D σ H) := ⟨fun pins s σ H D I ⟨n, h, q⟩ => (hr n h).run pins s σ H D I q⟩
  refine wkSs (pss_cons (ps_expr m1 hs) hr') fun D σ H ⟨B0, H0, B, k, q⟩ => ?_
  obtain ⟨a, b, kk⟩ := k.k
  obtain ⟨l, vs, h1, h2, h3, h4, h5⟩ := kk.m i ds hΓ
  obtain ⟨l', us, f1, f2, f3, f4, f5⟩ := kk.m j es hΓ'
  have hne : l ≠ S.st := fun z => by
    subst z
    rw [upd_same] at h4
    cases h4
  have hne' : l' ≠ S.st := fun z => by
    subst z
    rw [upd_same] at f4
    cases f4
  have hll : l ≠ l' := fun z => by
    subst z
    exact hij (kk.sep i j ds es l hΓ hΓ' h1 f1)
  refine ⟨.ref l, h1, .inl ⟨rfl, _, .of h2⟩, .ref l', f1, .inl ⟨rfl, _, .of f2⟩, B0, H0, B, k, fun d v B' H' p g r => ?_⟩
  obtain ⟨n, hn, rfl⟩ := p
  have a1 : H' l = some (.lst vs) := (rm_some (g.g.kh l _ (by rw [rm_ne hne]; exact h2))).2
  have a2 : H' l' = some (.lst us) := (rm_some (g.g.kh l' _ (by rw [rm_ne hne']; exact f2))).2
  have hu : n < us.length := by rw [← f5.len]; exact hn
  obtain ⟨w, e1, e2⟩ := (f5.mono g.kb).get (List.getElem?_eq_getElem hn)
  refine ⟨l', us, (n : Nat), n, w, rfl, by rw [r.v_inv], a2, by omega, by omega, ?_, e1, l, vs, w, rfl, rfl, ?_, ?_, n, hn, B0, H0, B', ?_, q⟩
  · exact seqIx_nat hu
  · rw [upd_ne hll]
    exact a1
  · rw [← h5.len]
    exact small1000 (Nat.le_of_lt hz)
  · have k2 := (k.gs g).write hΓ' f1 ((f5.mono g.kb).erase n)
    exact k2.write (by rw [get_set_ne (fun z => hij z.symm)]; exact hΓ) h1 ((h5.mono g.kb).app (.cons e2 .nil))
end
/-! ### defs -/
section
variable {P : Program} {w : World} {K : PySem.W.Frag} {mg : Str → Option Value} {base : Heap} {x qual : Str} {st : Stmt} {N ps : List Str} {f : Addr} {fd : FuncData} {k : Nat}
theorem rm_upd {H : Hp} {p : Addr} {o : HO} (h : H p = some o) : upd (rm H p) p o = H := by
  funext b
  by_cases e : b = p
  · subst e
    rw [upd_same, h]
  · rw [upd_ne e, rm_ne e]
theorem fn_s {Pre : List D → Prop} {Post : List D → D → Prop} (F : Fun K x qual st f fd) (Sc : FnScope N ps (defScope st)) (hl : ∀ ds, Pre ds → ds.length + 1 = ps.length)
    (hb : ∀ (cdv : Value) (A : Around) (outer : List PySem.Env) (s : Shared) (H : Hp) (E : XK), Room k (A.deeper (envOfC qual (defScope st) s.heap.objs.size f cdv)) → ∀ (S : SI) ds, Pre ds → PSs (Bx P w K mg base N qual st f cdv A outer s H E) (defBody st) (sR S (ctx0 N (.v (.ref S.st) :: ds)) (.rt (Post ds)))) :
    FnOk P w K mg base CX0 (k + 1) f fd ps (spS Pre Post) := by
  refine F.ok Sc (fun vs H Q E ⟨S, B, ds, vs', e, h1, h2, r, hp, q⟩ => ?_) (fun cdv A outer s H vs Q E hr ⟨S, B, ds, vs', e, h1, h2, r, hp, q⟩ => ?_)
  · rw [e, List.length_cons, ← r.len]
    exact hl ds hp
  · subst e
    refine ⟨_, hb cdv A outer s H E hr S ds hp, B, rm H S.st, B, ?_, fun d v B' H' p g s' r' => q d v B' H' p ⟨g, s'⟩ r'⟩
    obtain ⟨g1, g2, a, b, g3⟩ := h1
    refine ⟨by rw [rm_ne g1]; exact g2, rm_eq, h2.free rm_eq, a, b, ?_⟩
    rw [rm_upd g3]
    exact kn_start (h2.trans rm_le) (.cons (.v _) r)
end
end Ga
namespace Ga
open PySem PySem.Spec PyProof.Rows L2 Mi
theorem KnS.own {S : SI} {B0 H0 B H : Hp} {Γ : Ctx} {σ : L2.St} {i : Nat} {ds : List D} (k : KnS S B0 H0 Γ σ B H) (hΓ : Γ[i]? = some (.m ds)) : ∃ B', KnS S B0 H0 (Γ.set i (.d (.lst ds))) σ B' H := by
  obtain ⟨a, b, q⟩ := k.k
  obtain ⟨B', q'⟩ := q.open hΓ
  exact ⟨B', k.sc, k.h0, k.b0, a, b, q'⟩
theorem rs_own {S : SI} {X : Cx} {Γ : Ctx} {sts : List Stmt} {o : OutS} {i : Nat} {ds : List D} (hΓ : Γ[i]? = some (.m ds)) (h : PSs X sts (sR S (Γ.set i (.d (.lst ds))) o)) : PSs X sts (sR S Γ o) :=
  wkSs h fun D σ H ⟨B0, H0, B, k, q⟩ => let ⟨B', k'⟩ := k.own hΓ; ⟨B0, H0, B', k', q⟩
end Ga
/-! the stream itself -/
namespace Ga
open PySem PySem.Spec PyProof.Rows L2 Mi
section
variable {X : Cx} {Γ Γ1 Γ2 : Ctx} {d : D} {st : Stmt} {sts rest body : List Stmt} {e c : Expr} {pos : Pos} {b : Bool}
def ifBody : Stmt → List Stmt
  | .If _ b _ _ => b
  | _ => []
variable {p : Addr}
/-- name 0 stands for p all along -/
def at0 (p : Addr) (σ : L2.St) : Prop := σ[0]? = some (some (.ref p))
def aG (p : Addr) (Γ Γ' : Ctx) : TS := fun D σ H => ∃ B0 H0 B, Kn B0 H0 Γ σ B H ∧ at0 p σ ∧ ∀ σ' B' H', Kn B0 H0 Γ' σ' B' H' → at0 p σ' → D.nx σ' H'
/-- handed back, and what is known then -/
def aK (p : Addr) (Γ Γ' : Ctx) (d : D) : TS := fun D σ H => ∃ B0 H0 B, Kn B0 H0 Γ σ B H ∧ at0 p σ ∧ ∀ σ' v B' H', Kn B0 H0 Γ' σ' B' H' → at0 p σ' → Rel B' d v → D.rt v H'
theorem a_cons (h1 : PS X st (aG p Γ Γ1)) (h2 : PSs X rest (aG p Γ1 Γ2)) : PSs X (st :: rest) (aG p Γ Γ2) :=
  wkSs (pss_cons h1 h2) fun D σ H ⟨B0, H0, B, k, h, q⟩ => ⟨B0, H0, B, k, h, fun σ' B' H' k' h' => ⟨B0, H0, B', k', h', q⟩⟩
theorem a_end : PSs X [] (aG p Γ Γ) := wkSs pss_nil fun D σ H ⟨B0, H0, B, k, h, q⟩ => q σ B H k h
theorem a_less (h : PSs X sts (aG p Γ Γ1)) (w : subC Γ2 Γ1) : PSs X sts (aG p Γ Γ2) :=
  wkSs h fun D σ H ⟨B0, H0, B, k, h, q⟩ => ⟨B0, H0, B, k, h, fun σ' B' H' k' h' => q σ' B' H' (k'.sub w) h'⟩
theorem k_cons (h1 : PS X st (aG p Γ Γ1)) (h2 : PSs X rest (aK p Γ1 Γ2 d)) : PSs X (st :: rest) (aK p Γ Γ2 d) :=
  wkSs (pss_cons h1 h2) fun D σ H ⟨B0, H0, B, k, h, q⟩ => ⟨B0, H0, B, k, h, fun σ' B' H' k' h' => ⟨B0, H0, B', k', h', q⟩⟩
theorem k_ret (he : PE X e (tG Γ d)) : PSs X (.Return (some e) pos :: rest) (aK p Γ Γ d) :=
  wkSs (pss_cons (ps_ret he) pss_never) fun D σ H ⟨B0, H0, B, k, h, q⟩ => ⟨B0, H0, B, k, fun v B' H' g r => q σ v B' H' (k.grow g) h r⟩
theorem a_if (hc : PT X c (tB Γ b)) (h1 : b = true → PSs X body (aG p Γ Γ1)) (h2 : b = false → subC Γ1 Γ) : PS X (.If c body [] pos) (aG p Γ Γ1) := by
  cases b with
  | true => exact wkS (ps_if hc (h1 rfl) pss_never) fun D σ H ⟨B0, H0, B, k, h, q⟩ => ⟨B0, H0, B, k, fun B' H' g => iteT ⟨B0, H0, B', k.grow g, h, q⟩⟩
  | false => exact wkS (ps_if hc pss_never pss_nil) fun D σ H ⟨B0, H0, B, k, h, q⟩ => ⟨B0, H0, B, k, fun B' H' g => iteF (q σ B' H' ((k.grow g).sub (h2 rfl)) h)⟩
theorem a_asg {i : Nat} {x : Str} {pos' : Pos} (hN : X.N.Nodup) (hi : X.N[i + 1]? = some x) (hx : Loc X.env.scope x) (he : PE X e (tG Γ d))
    (hs : swapsWith e (some (.Name x pos')) pos.line X.env = pure false := by rfl) (hf : X.fn x = true ∨ X.env.scope.names.lookup x = some .local := by first | exact .inl rfl | exact .inr rfl | assumption) :
    PS X (.Assign [.Name x pos'] e pos) (aG p Γ (Γ.set (i + 1) (.d d))) :=
  wkS (ps_set hN hi hx he hs hf) fun D σ H ⟨B0, H0, B, k, h, q⟩ => ⟨B0, H0, B, k, fun v B' H' g r => q _ B' H' ((k.grow g).setD r) (by unfold at0; rw [get_set_ne (by omega)]; exact h)⟩
theorem a_setL {i j : Nat} {ds : List D} (hΓ : Γ[i]? = some (.m ds)) (hj : j < ds.length) (h : PS X st (tAsg (tG Γ d) (gSub (tVar i) (tG Γ (.int (j : Nat))) rSetL))) :
    PS X st (aG p Γ (Γ.set i (.m (ds.set j d)))) :=
  wkS h fun D σ H ⟨B0, H0, B, k, h, q⟩ => by
    refine ⟨B0, H0, B, k, fun x B1 H1 g1 r1 => ?_⟩
    obtain ⟨l, vs, h1, h2, h3, h4, h5⟩ := k.m i ds hΓ
    refine ⟨.ref l, h1, B0, H0, B1, k.grow g1, fun y B2 H2 g2 r2 => ?_⟩
    have g := g1.trans g2
    refine ⟨l, vs, (j : Nat), j, rfl, r2.v_inv, g.kh _ _ h2, ?_, ?_⟩
    · unfold ixN
      rw [← h5.len, if_pos (by omega), if_pos (by omega)]
      simp
    · exact q σ B2 _ ((k.grow g).write hΓ h1 ((h5.mono g.kb).set (r1.mono g2.kb) j)) h
end
section
variable {P : Program} {w : World} {K : PySem.W.Frag} {mg : Str → Option Value} {base : Heap}
def Pre_next : List D → Prop := fun ds => ∃ m : Nat, ds = [.int (m : Nat)] ∧ 0 < m ∧ m ≤ 1000
def Post_next : List D → D → Prop := fun ds d => ∃ m k : Nat, ds = [.int (m : Nat)] ∧ k < m ∧ d = .int (k : Nat)
abbrev cS (S : SI) (a : Int) (b : Nat) : Sl := .m [.at_ S.sc (S.ns.map D.int), .int a, .int (b : Nat)]
theorem ok_law_next (T : Top K mg) : FnOk P w K mg base CX0 1 T.d_law_next.f T.d_law_next.fd ["_law_stream_here", "_law_many"] (spS Pre_next Post_next) := by
  refine T.d_law_next.F.ok sc_law_next (fun vs H Q E ⟨S, B, ds, vs', e, h1, h2, r, ⟨m, hd, _⟩, q⟩ => by subst hd; rw [e, List.length_cons, ← r.len]; rfl) (fun cdv A outer s H vs Q E hr ⟨S, B, ds, vs', e, h1, h2, r, ⟨m, hd, hm0, hm⟩, q⟩ => ?_)
  subst e hd
  obtain ⟨g1, g2, a, b, g3⟩ := h1
  have e1 : ∃ (a1 : Int) (b1 : Nat), PS (Bx P w K mg base N_law_next "_law_next" s_law_next T.d_law_next.f cdv A outer s H E) ((defBody s_law_next).getD 0 (.Pass ⟨0, 0, 0, 0⟩)) (aG S.st [cS S a b, .d (.int (m : Nat)), .any, .any, .any] [cS S a1 b1, .d (.int (m : Nat)), .any, .any, .any]) := by
    by_cases c0 : a = 0
    · have e2 : ∃ c1 : Int, PS (Bx P w K mg base N_law_next "_law_next" s_law_next T.d_law_next.f cdv A outer s H E) ((ifBody ((defBody s_law_next).getD 0 (.Pass ⟨0, 0, 0, 0⟩))).getD 2 (.Pass ⟨0, 0, 0, 0⟩)) (aG S.st [cS S a b, .d (.int (m : Nat)), .d (.int (b : Nat)), .d (.int (7 + (b : Nat))), .any] [cS S a b, .d (.int (m : Nat)), .d (.int (b : Nat)), .d (.int c1), .any]) := by
        by_cases c1 : b < S.ns.length
        · exact ⟨_, a_if (Cmp.t (g_lt (g_var rfl (pv 2)) (g_lenL (by rfl) T.z_len (g_at (g_ixL (atI_nat (j := 0) rfl) (g_varm rfl (pv 0)) g_int (fun _ _ => rfl)))))) (fun _ => (a_cons (a_asg (i := 2) sc_law_next.nd rfl (Or.inl rfl) (g_abs (by rfl) T.z_abs (g_ixL (lookInt rfl c1) (g_at (g_ixL (atI_nat (j := 0) rfl) (g_varm rfl (pv 0)) g_int (fun _ _ => rfl))) (g_var rfl (pv 2)) (fun _ _ => rfl)))) a_end)) (fun h => absurd (of_decide_eq_false h) (by rw [List.length_map]; omega))⟩
        · exact ⟨_, a_if (Cmp.t (g_lt (g_var rfl (pv 2)) (g_lenL (by rfl) T.z_len (g_at (g_ixL (atI_nat (j := 0) rfl) (g_varm rfl (pv 0)) g_int (fun _ _ => rfl)))))) (fun h => absurd (of_decide_eq_true h) (by rw [List.length_map]; omega)) (fun _ => ⟨rfl, rfl, rfl, rfl, trivial⟩)⟩
      obtain ⟨c1, h2'⟩ := e2
      have e3 : ∃ c2 : Int, PS (Bx P w K mg base N_law_next "_law_next" s_law_next T.d_law_next.f cdv A outer s H E) ((ifBody ((defBody s_law_next).getD 0 (.Pass ⟨0, 0, 0, 0⟩))).getD 3 (.Pass ⟨0, 0, 0, 0⟩)) (aG S.st [cS S a b, .d (.int (m : Nat)), .d (.int (b : Nat)), .d (.int c1), .any] [cS S a b, .d (.int (m : Nat)), .d (.int (b : Nat)), .d (.int c2), .any]) := by
        by_cases c3 : c1 < (10 : Int) ^ (18 : Int).toNat
        · exact ⟨_, a_if (Cmp.t (g_lt (g_var rfl (pv 3)) (g_pow (by unfold CPow; decide) g_int g_int))) (fun _ => (a_cons (a_asg (i := 2) sc_law_next.nd rfl (Or.inl rfl) (g_mod (by decide) (g_int1 (by rfl) T.z_int (g_add (g_add (g_mul (.inr (by decide)) (g_var rfl (pv 3)) g_int) (g_mul (.inr (by decide)) (g_var rfl (pv 2)) g_int)) g_int)) g_int)) 
            (a_cons (a_asg (i := 2) sc_law_next.nd rfl (Or.inl rfl) (g_add (g_mul (.inr (by decide)) (g_mod (by decide) (g_int1 (by rfl) T.z_int (g_add (g_mul (.inr (by decide)) (g_var rfl (pv 3)) g_int) g_int)) g_int) g_int) (g_var rfl (pv 3)))) 
            a_end))) (fun h => absurd c3 (of_decide_eq_false h))⟩
        · exact ⟨_, a_if (Cmp.t (g_lt (g_var rfl (pv 3)) (g_pow (by unfold CPow; decide) g_int g_int))) (fun h => absurd (of_decide_eq_true h) c3) (fun _ => ⟨rfl, rfl, rfl, rfl, trivial⟩)⟩
      obtain ⟨c2, h3'⟩ := e3
      exact ⟨c2, b + 1, a_if (Cmp.t (g_eqI (g_ixL (atI_nat (j := 1) rfl) (g_varm rfl (pv 0)) g_int (fun _ _ => rfl)) g_int)) (fun _ => a_less (a_cons (a_asg (i := 1) sc_law_next.nd rfl (Or.inl rfl) (g_ixL (atI_nat (j := 2) rfl) (g_varm rfl (pv 0)) g_int (fun _ _ => rfl))) 
          (a_cons (a_asg (i := 2) sc_law_next.nd rfl (Or.inl rfl) (g_add g_int (g_var rfl (pv 2)))) 
          (a_cons h2' (a_cons h3'
          (a_cons (a_setL (j := 1) rfl (by simp) (ps_asg (g_var rfl (pv 3)) (pg_sub (pv 0) g_int set_list))) 
          (a_cons (a_setL (j := 2) rfl (by simp) (ps_asg (g_add (g_var rfl (pv 2)) g_int) (pg_sub (pv 0) g_int set_list))) 
          a_end)))))) ⟨rfl, rfl, trivial⟩) (fun h => absurd c0 (of_decide_eq_false h))⟩
    · exact ⟨a, b, a_if (Cmp.t (g_eqI (g_ixL (atI_nat (j := 1) rfl) (g_varm rfl (pv 0)) g_int (fun _ _ => rfl)) g_int)) (fun h => absurd (of_decide_eq_true h) c0) (fun _ => ⟨rfl, rfl, trivial⟩)⟩
  obtain ⟨a1, b1, h4⟩ := e1
  have body : PSs (Bx P w K mg base N_law_next "_law_next" s_law_next T.d_law_next.f cdv A outer s H E) (defBody s_law_next) (aK S.st [cS S a b, .d (.int (m : Nat)), .any, .any, .any] [cS S (a1 / (m : Int)) b1, .d (.int (m : Nat)), .any, .any, .d (.int (a1 % (m : Int)))] (.int (a1 % (m : Int)))) := 
    (k_cons h4 
    (k_cons (a_asg (i := 3) sc_law_next.nd rfl (Or.inl rfl) (g_mod (by omega) (g_int1 (by rfl) T.z_int (g_ixL (atI_nat (j := 1) rfl) (g_varm rfl (pv 0)) g_int (fun _ _ => rfl))) (g_var rfl (pv 1)))) 
    (k_cons (a_setL (j := 1) rfl (by simp) (ps_asg (g_fdiv ⟨by omega, by omega⟩ (g_ixL (atI_nat (j := 1) rfl) (g_varm rfl (pv 0)) g_int (fun _ _ => rfl)) (g_var rfl (pv 1))) (pg_sub (pv 0) g_int set_list))) 
    (k_ret (g_var rfl (pv 4))))))
  have hm1 : vs' = [.int (m : Nat)] := by
    cases r with
    | cons r0 r1 =>
      cases r1
      rw [r0.v_inv]
  subst hm1
  have nb : B S.st = none := h2.free rm_eq
  have sB : Same B (upd B S.sc (.lst (S.ns.map V.int))) := fun x o hx => by
    by_cases e : x = S.sc
    · subst e
      have := rm_le _ _ (h2 _ _ hx)
      rw [g2] at this
      cases this
      exact upd_same
    · rw [upd_ne e]
      exact hx
  have sH : Same (upd B S.sc (.lst (S.ns.map V.int))) H := fun x o hx => by
    by_cases e : x = S.sc
    · subst e
      rw [upd_same] at hx
      cases hx
      exact g2
    · rw [upd_ne e] at hx
      exact rm_le _ _ (h2 _ _ hx)
  have nb1 : (upd B S.sc (.lst (S.ns.map V.int))) S.st = none := by
    rw [upd_ne (fun z => g1 z.symm)]
    exact nb
  refine ⟨_, body, upd B S.sc (.lst (S.ns.map V.int)), rm H S.st, upd B S.sc (.lst (S.ns.map V.int)), ⟨⟨Same.refl _, rm_le, sH, fun l o h n => n⟩, rfl, fun i x hx => ?_, fun i es hx => ?_, fun i j es fs l hx hy => ?_⟩, rfl, fun σ' v B' H' k' h' r' => ?_⟩
  · rcases i with _ | _ | _ | _ | _ | i
    · cases hx
    · cases hx
      exact ⟨_, rfl, .v _⟩
    · cases hx
    · cases hx
    · cases hx
    · simp at hx
  · rcases i with _ | _ | _ | _ | _ | i
    · cases hx
      exact ⟨S.st, _, rfl, g3, nb1, rm_eq, .cons (.at_ upd_same .ofInts) (.cons (.v _) (.cons (.v _) .nil))⟩
    · cases hx
    · cases hx
    · cases hx
    · cases hx
    · simp at hx
  · have z : ∀ (i : Nat) es, ([cS S a b, .d (.int (m : Nat)), .any, .any, .any] : Ctx)[i]? = some (.m es) → i = 0 := fun i es h => by
      rcases i with _ | _ | _ | _ | _ | i
      · rfl
      · cases h
      · cases h
      · cases h
      · cases h
      · simp at h
    intro _ _
    rw [z i es hx, z j fs hy]
  · obtain ⟨l, vs, q1, q2, q3, q4, q5⟩ := k'.m 0 _ rfl
    unfold at0 at h'
    rw [h'] at q1
    cases q1
    have hmod : a1 % (m : Int) = ((a1 % (m : Int)).toNat : Nat) := by
      have := Int.emod_nonneg a1 (show (m : Int) ≠ 0 by omega)
      omega
    refine q _ v B H' ⟨m, (a1 % (m : Int)).toNat, rfl, ?_, rfl⟩ ⟨⟨Same.refl _, fun x o hx => ?_, same_rm ((sB.trans k'.g.kb).trans k'.g.le) nb, fun x o hx hn => hn⟩, g1, k'.g.kh _ _ (by rw [rm_ne g1]; exact g2), ?_⟩ (by rw [r'.v_inv, ← hmod]; exact .v _)
    · have := Int.emod_lt_of_pos a1 (show (0 : Int) < (m : Int) by omega)
      omega
    · obtain ⟨hx1, hx2⟩ := rm_some hx
      rw [rm_ne hx1]
      exact k'.g.kh x o hx
    · cases q5 with
      | cons r0 q5 =>
        obtain ⟨us, e1, _, _⟩ := r0.at_inv
        cases q5 with
        | cons r1 q5 =>
          cases q5 with
          | cons r2 q5 =>
            cases q5
            refine ⟨a1 / (m : Int), b1, ?_⟩
            rw [q2, e1, r1.v_inv, r2.v_inv]
end
end Ga
/-! names, orders drawn -/
namespace Ga
open PySem PySem.Spec PyProof.Rows L2 Mi
section
variable {S : SI} {X : Cx} {Γ : Ctx} {e : Expr} {E : XK}
/-- a place drawn -/
theorem r_draw {m : Nat} (h0 : 0 < m) (hm : m ≤ 1000) (h : PE X e (tCall (spS Pre_next Post_next) [] E (tRA S Γ fun xs => ∃ d ds, xs = d :: ds ∧ d = .v (.ref S.st) ∧ ∃ d' ds', ds = d' :: ds' ∧ d' = .int (m : Nat) ∧ ds' = []))) :
    PE X e (tR S Γ fun d => ∃ k : Nat, k < m ∧ d = .int (k : Nat)) :=
  r_imp (r_callS h fun ds ⟨d, ds', e, h1, d2, ds2, e2, h2, h3⟩ => ⟨[.int (m : Nat)], by rw [e, h1, e2, h2, h3], m, rfl, h0, hm⟩) fun d ⟨es, ⟨d1, ds', e, h1, d2, ds2, e2, h2, h3⟩, m', k, e3, hk, hd⟩ => by
    have e4 : es = ds' := by injection e
    rw [e4, e2, h2, h3] at e3
    simp at e3
    exact ⟨k, by omega, hd⟩
end
theorem map_erase {α β : Type} (f : α → β) (l : List α) (n : Nat) : (l.map f).eraseIdx n = (l.eraseIdx n).map f := by
  rw [List.eraseIdx_eq_take_drop_succ, List.eraseIdx_eq_take_drop_succ, List.map_append, List.map_take, List.map_drop]
theorem erase_perm {α : Type} {l : List α} {n : Nat} (h : n < l.length) : (l[n] :: l.eraseIdx n).Perm l := by
  rw [List.eraseIdx_eq_take_drop_succ]
  have e : l = l.take n ++ l[n] :: l.drop (n + 1) := by
    rw [← List.drop_eq_getElem_cons h, List.take_append_drop]
  refine (List.perm_middle (l₁ := l.take n) (l₂ := l.drop (n + 1)) (a := l[n])).symm.trans ?_
  rw [← e]
def pool1 : List Str := ["a", "b", "c", "d", "e", "f", "g", "h", "k", "m", "p", "z"]
def pool2 : List Str := ["ae", "a1", "cat", "d2", "ee", "f", "gull", "h9", "oe", "abcdefghijkl", "q", "z"]
theorem pool1_ok : pool1.Nodup ∧ pool1.length = 12 ∧ ∀ x ∈ pool1, okL x = true := by decide +kernel
theorem pool2_ok : pool2.Nodup ∧ pool2.length = 12 ∧ ∀ x ∈ pool2, okL x = true := by decide +kernel
section
variable {P : Program} {w : World} {K : PySem.W.Frag} {mg : Str → Option Value} {base : Heap}
def Pre_names : List D → Prop := fun ds => ds = []
def Post_names : List D → D → Prop := fun ds d => ∃ ls : List Str, d = lS ls ∧ ls.Nodup ∧ ls.length = 12 ∧ ∀ x ∈ ls, okL x = true
theorem ok_law_names (T : Top K mg) : FnOk P w K mg base CX0 2 T.d_law_names.f T.d_law_names.fd ["_law_stream_here"] (spS Pre_names Post_names) := by
  refine fn_s T.d_law_names.F sc_law_names (fun ds h => by rw [h]; rfl) (fun cdv A outer s H E hr S ds hp => ?_)
  subst hp
  refine (rs_pure (p_asgN (i := 1) sc_law_names.nd rfl (Or.inl rfl) (g_lst (ga_cons (g_n (g_lst (ga_cons g_str (ga_cons g_str (ga_cons g_str (ga_cons g_str (ga_cons g_str (ga_cons g_str (ga_cons g_str (ga_cons g_str (ga_cons g_str (ga_cons g_str (ga_cons g_str (ga_cons g_str ga_nil)))))))))))) (by simp))) ga_nil) (by simp))) 
    (rs_pure (p_app rfl ?g1 (pe_bm PySem.F.plainAttrs_list PySem.F.slot_list_append PySem.F.type_list_append mt_append (pv 1) (ga_cons (g_n (g_lst (ga_cons g_str (ga_cons g_str (ga_cons g_str (ga_cons g_str (ga_cons g_str (ga_cons g_str (ga_cons g_str (ga_cons g_str (ga_cons g_str (ga_cons g_str (ga_cons g_str (ga_cons g_str ga_nil)))))))))))) (by simp))) ga_nil))) 
    (rs_own (i := 1) rfl
    (rs_ret (r_ixL (g_var rfl (pv 1)) (r_draw (m := 2) (by decide) (by decide) (pe_call (ok_law_next T) (hr.mono (by decide)) (by rfl) T.d_law_next.g T.d_law_next.F.kp T.d_law_next.b .nil pass0 (ra_cons (r_pure (g_var rfl (pv 0))) (ra_cons (r_pure g_int) ra_nil)))) (fun _ _ => rfl)) ?g4))))
  case g1 => simp
  case g4 =>
    intro d hd
    have h : d = lS pool1 ∨ d = lS pool2 := by
      rcases List.mem_cons.mp hd with z | z
      · exact .inl z
      · exact .inr (List.mem_singleton.mp z)
    rcases h with h | h
    · exact ⟨pool1, h, pool1_ok⟩
    · exact ⟨pool2, h, pool2_ok⟩
def Pre_shuffled : List D → Prop := fun ds => ∃ ls : List Str, ds = [lS ls] ∧ ls.length ≤ 12
def Post_shuffled : List D → D → Prop := fun ds d => ∃ ls ms : List Str, ds = [lS ls] ∧ d = lS ms ∧ ms.Perm ls
theorem ok_law_shuffled (T : Top K mg) : FnOk P w K mg base CX0 2 T.d_law_shuffled.f T.d_law_shuffled.fd ["_law_stream_here", "_law_names_here"] (spS Pre_shuffled Post_shuffled) := by
  refine fn_s T.d_law_shuffled.F sc_law_shuffled (fun ds ⟨ls, h, _⟩ => by rw [h]; rfl) (fun cdv A outer s H E hr S ds hp => ?_)
  obtain ⟨ls, rfl, hl⟩ := hp
  refine (rs_pure (p_asgN (i := 2) sc_law_shuffled.nd rfl (Or.inl rfl) (g_listL (by rfl) T.z_list (g_l (g_var rfl (pv 1))))) 
    (rs_pure (p_asgN (i := 3) sc_law_shuffled.nd rfl (Or.inl rfl) (g_lst ga_nil (by simp))) 
    (rs_for (fun its i Γ' => ∃ (left found : List Str) (s4 : Sl), Γ' = [.d (.v (.ref S.st)), .d (lS ls), .m (left.map D.str), .m (found.map D.str), s4] ∧ (found ++ left).Perm ls ∧ found.length = i) .never rfl (is_pure (gi_rng1 (n := ((ls.length : Nat) : Int)) ?g1 (by rfl) T.z_range (isD_eq (g_lenL (by rfl) T.z_len (g_l (g_var rfl (pv 1)))) ?e1))) (pg_name (i := 4) sc_law_shuffled.nd rfl (Or.inl rfl)) ?body (fun its _ => ⟨ls, [], .any, rfl, by simp, rfl⟩) ?rest)))
  case g1 => omega
  case e1 => rw [List.length_map]
  case body =>
    rintro its rfl i h Γ' ⟨left, found, s4, rfl, hp, hf⟩
    have hi : i < ls.length := by simpa using h
    have hlen := hp.length_eq
    rw [List.length_append, hf] at hlen
    obtain ⟨dd, hdd⟩ : ∃ dd, dd = ((List.range ((ls.length : Nat) : Int).toNat).map fun i => D.int (i : Nat))[i] := ⟨_, rfl⟩
    rw [← hdd]
    refine ⟨_, ga_name, rs_move (i := 3) (j := 2) (ds := found.map D.str) (es := left.map D.str) (by decide) rfl rfl (by rw [List.length_map]; omega) (by rw [List.length_map]; omega) (fun n hn => rs_end ?_)
      (pe_bm PySem.F.plainAttrs_list PySem.F.slot_list_append PySem.F.type_list_append mt_append (pv 3) (pa_cons (pe_bm PySem.F.plainAttrs_list PySem.F.slot_list_pop PySem.F.type_list_pop mt_popAt (pv 2) (pa_cons (r_draw (m := (left.map D.str).length) (by rw [List.length_map]; omega) (by rw [List.length_map]; omega) (pe_call (ok_law_next T) (hr.mono (by decide)) (by rfl) T.d_law_next.g T.d_law_next.F.kp T.d_law_next.b .nil pass0 (ra_cons (r_pure (g_var rfl (pv 0))) (ra_cons (r_pure (g_lenL (by rfl) T.z_len (g_varm rfl (pv 2)))) ra_nil)))) pa_nil)) pa_nil))⟩
    have hn' : n < left.length := by rwa [List.length_map] at hn
    refine ⟨left.eraseIdx n, found ++ [left[n]], .d dd, ?_, ?_, by rw [List.length_append, hf]; rfl⟩
    · rw [map_erase, List.map_append, List.getElem_map]
      rfl
    · refine List.Perm.trans ?_ hp
      rw [List.append_assoc]
      refine List.Perm.append_left _ ?_
      exact erase_perm hn'
  case rest =>
    rintro its rfl Γ' ⟨left, found, s4, rfl, hp, hf⟩
    have hlen := hp.length_eq
    have hl2 : ((List.range ((ls.length : Nat) : Int).toNat).map fun i => D.int (i : Nat)).length = ls.length := by simp
    rw [List.length_append, hf, hl2] at hlen
    have e : left = [] := List.eq_nil_of_length_eq_zero (by omega)
    subst e
    rw [List.append_nil] at hp
    exact rs_retM (i := 3) rfl (pv 3) ⟨ls, found, rfl, rfl, hp⟩
def weaks : List (List Int) := [[1, 2, 3], [1, 1, 1, 2, 3], [2, 3, 3, 1], [1]]
theorem weaks_ok : ∀ l ∈ weaks, 0 < l.length ∧ l.length ≤ 5 ∧ ∀ x ∈ l, 1 ≤ x ∧ x ≤ 3 := by decide
def Pre_order : List D → Prop := fun ds => ∃ ls : List Str, ds = [lS ls] ∧ ls.Nodup ∧ (∀ x ∈ ls, okL x = true) ∧ 1 ≤ ls.length ∧ ls.length ≤ 12
def Post_order : List D → D → Prop := fun ds d => ∃ (ls : List Str) (o : Ord), ds = [lS ls] ∧ d = ordD o ∧ V0 o ∧ o.1.Perm ls
theorem lS_inj {a b : List Str} (h : lS a = lS b) : a = b := by
  have h1 := eqv_strs a b
  have h2 := eqv_strs b b
  have e : a.map D.str = b.map D.str := by injection h
  rw [e, h2] at h1
  simpa using h1.symm
theorem ok_law_order (T : Top K mg) : FnOk P w K mg base CX0 3 T.d_law_order.f T.d_law_order.fd ["_law_stream_here", "_law_names_here"] (spS Pre_order Post_order) := by
  refine fn_s T.d_law_order.F sc_law_order (fun ds ⟨ls, h, _⟩ => by rw [h]; rfl) (fun cdv A outer s H E hr S ds hp => ?_)
  obtain ⟨ls, rfl, hnd, hok, h1, h12⟩ := hp
  refine (rs_let (i := 2) sc_law_order.nd rfl (Or.inr rfl) (r_ixL (ds := weaks.map lI) (isD_eq (g_n (g_lst (ga_cons (g_n (g_lst (ga_cons g_int (ga_cons g_int (ga_cons g_int ga_nil))) (by simp))) (ga_cons (g_n (g_lst (ga_cons g_int (ga_cons g_int (ga_cons g_int (ga_cons g_int (ga_cons g_int ga_nil))))) (by simp))) (ga_cons (g_n (g_lst (ga_cons g_int (ga_cons g_int (ga_cons g_int (ga_cons g_int ga_nil)))) (by simp))) (ga_cons (g_n (g_lst (ga_cons g_int ga_nil) (by simp))) ga_nil)))) (by simp))) rfl) (r_draw (m := 4) (by decide) (by decide) (pe_call (ok_law_next T) (hr.mono (by decide)) (by rfl) T.d_law_next.g T.d_law_next.F.kp T.d_law_next.b .nil pass0 (ra_cons (r_pure (g_var rfl (pv 0))) (ra_cons (r_pure g_int) ra_nil)))) (fun _ _ => rfl)) (fun d hd => ?_))
  obtain ⟨wk, hw, rfl⟩ := List.mem_map.mp hd
  obtain ⟨w1, w2, w3⟩ := weaks_ok wk hw
  refine (rs_lc (i := 3) (xs := List.range (ls.length - 1)) (emb := fun (k : Nat) => D.int (k : Nat)) (fun d => ∃ z : Int, d = .int z ∧ 1 ≤ z ∧ z ≤ 3) rfl sc_law_order.nd rfl (by rfl) (by rfl) (gi_eq (gi_rng1 (n := ((ls.length - 1 : Nat) : Int)) ?g3 (by rfl) T.z_range (isD_eq (g_sub (g_lenL (by rfl) T.z_len (g_l (g_var rfl (pv 1)))) g_int) ?e3)) rfl) (blkOk_by (own := [("_law_k", 4)]) (N := N_law_order) (sc := defScope s_law_order) (by decide +kernel)) (fun _ _ _ _ _ => pg_name (i := 4) sc_law_order.nd rfl (Or.inl rfl)) (fun x hx => ga_nameW (by simp)) (fun _ _ _ _ _ x hx => r_imp (r_ixL (g_var rfl (pv 2)) (r_draw (m := (wk.map D.int).length) ?m0 ?m1 (pe_call (ok_law_next T) (hr.mono (by decide)) (by rfl) T.d_law_next.g T.d_law_next.F.kp T.d_law_next.b .nil pass0 (ra_cons (r_pure (g_var rfl (pv 0))) (ra_cons (r_pure (g_lenL (by rfl) T.z_len (g_l (g_var rfl (pv 2))))) ra_nil)))) (fun _ _ => rfl)) ?w) (hw1 rfl) ?g6 (fun es hes => rs_own (i := 3) rfl ?rest))
  case g3 => omega
  case e3 =>
    rw [List.length_map]
    congr 2
    omega
  case m0 =>
    rw [List.length_map]
    exact w1
  case m1 =>
    rw [List.length_map]
    omega
  case w =>
    intro d hd
    obtain ⟨z, hz, rfl⟩ := List.mem_map.mp hd
    exact ⟨z, rfl, w3 z hz⟩
  case g6 =>
    rw [List.length_range]
    omega
  case rest =>
    obtain ⟨e1, e2⟩ := hes
    rw [List.length_range] at e1
    obtain ⟨ss, rfl, hss⟩ : ∃ ss : List Int, es = ss.map D.int ∧ ∀ z ∈ ss, 1 ≤ z ∧ z ≤ 3 := by
      clear e1
      induction es with
      | nil => exact ⟨[], rfl, fun z hz => by simp at hz⟩
      | cons d es ih =>
        obtain ⟨ss, rfl, h⟩ := ih fun d hd => e2 d (List.mem_cons_of_mem _ hd)
        obtain ⟨z, rfl, hz⟩ := e2 d (by simp)
        exact ⟨z :: ss, rfl, fun y hy => by
          rcases List.mem_cons.mp hy with q | q
          · exact q ▸ hz
          · exact h y q⟩
    rw [List.length_map] at e1
    refine (rs_ret (r_tup (ra_cons (r_tupL (by rfl) T.z_tuple (r_imp (P' := fun d => ∃ ms : List Str, d = lS ms ∧ ms.Perm ls) (r_callS (pe_call (ok_law_shuffled T) (hr.mono (by decide)) (by rfl) T.d_law_shuffled.g T.d_law_shuffled.F.kp T.d_law_shuffled.b .nil pass0 (ra_cons (r_pure (g_var rfl (pv 0))) (ra_cons (r_pure (g_var rfl (pv 1))) ra_nil))) ?p1) ?p2) ?p3) (ra_cons (r_pure (g_tupL (by rfl) T.z_tuple (g_l (g_var rfl (pv 3))))) ra_nil)) ?z) ?p4)
    case p1 =>
      rintro ds ⟨d, ds', rfl, rfl, d2, ds2, rfl, rfl, rfl⟩
      exact ⟨_, rfl, ls, rfl, h12⟩
    case p2 =>
      rintro d ⟨es, ⟨d1, ds', e, h1, d2, ds2, e2, h2, h3⟩, ls', ms, e4, e5, e6⟩
      have e7 : es = ds' := by injection e
      rw [e7, e2, h2, h3] at e4
      have e8 : lS ls = lS ls' := by injection e4
      exact ⟨ms, e5, lS_inj e8 ▸ e6⟩
    case p3 =>
      rintro d ⟨ms, e, _⟩
      exact ⟨_, e⟩
    case z =>
      rintro ds ⟨d, ds', rfl, _, d2, ds2, rfl, _, rfl⟩
      simp
    case p4 =>
      rintro d ⟨ds, rfl, d1, ds', rfl, ⟨xs, rfl, ms, e, hp⟩, d2, ds2, rfl, rfl, rfl⟩
      have e : xs = ms.map D.str := by injection e
      subst e
      refine ⟨ls, (ms, ss), rfl, rfl, ⟨?_, ?_, ?_, ?_, ?_, hss⟩, hp⟩
      · exact hp.nodup_iff.mpr hnd
      · exact fun x hx => hok x (hp.mem_iff.mp hx)
      · show ms.length ≤ 12
        rw [hp.length_eq]
        exact h12
      · show 1 ≤ ms.length
        rw [hp.length_eq]
        exact h1
      · show ss.length + 1 = ms.length
        rw [hp.length_eq]
        omega
end
end Ga
/-! the law puts a letter; rules drawn -/
namespace Ga
open PySem PySem.Spec PyProof.Rows L2 Mi
theorem V0.str3 {o : Ord} (v : V0 o) : Str3 o := v.st
theorem V0.ofPut {o q : Ord} (v : V0 o) (hp : q.1.Perm o.1) (hl : q.2.length + 1 = o.1.length) (hs : Str3 q) : V0 q := ⟨hp.nodup_iff.mpr v.nd, fun x hx => v.ok x (hp.mem_iff.mp hx), by rw [hp.length_eq]; exact v.le, by rw [hp.length_eq]; exact v.one, by rw [hp.length_eq]; exact hl, hs⟩
theorem V0.lput {o : Ord} (v : V0 o) {r : Rl Str} (u : Usable o r) (ht : 1 ≤ r.str ∧ r.str ≤ 3) : V0 (lput o r) ∧ (Mi.lput o r).1.Perm o.1 := by
  obtain ⟨h1, h2, h3⟩ := lput_ok v.wf v.str3 u ht
  exact ⟨v.ofPut h1 h2 h3, h1⟩
theorem V0.rem {o : Ord} (v : V0 o) {y : Str} (hy : y ∈ o.1) (h2 : 2 ≤ o.1.length) : V0 (Mi.rem o y) := by
  have w := rem_wf v.wf hy h2
  have l1 := rem_len1 (o := o) hy
  have hz := v.le
  exact ⟨w.nd, okL_rem v.ok, by omega, by omega, w.ln, str_rem v.wf v.str3 hy⟩
section
variable {X : Cx} {Γ Γ1 : Ctx} {c : Expr} {b : Bool} {body orelse : List Stmt} {pos : Pos}
theorem p_if2 (hc : PT X c (tB Γ b)) (h1 : b = true → PSs X body (sG Γ (.nx Γ1))) (h2 : b = false → PSs X orelse (sG Γ (.nx Γ1))) : PS X (.If c body orelse pos) (sG Γ (.nx Γ1)) := by
  cases b with
  | true => exact wkS (ps_if hc (h1 rfl) pss_never) fun D σ H ⟨B0, H0, B, k, q⟩ => ⟨B0, H0, B, k, fun B' H' g => iteT ⟨B0, H0, B', k.grow g, q⟩⟩
  | false => exact wkS (ps_if hc pss_never (h2 rfl)) fun D σ H ⟨B0, H0, B, k, q⟩ => ⟨B0, H0, B, k, fun B' H' g => iteF ⟨B0, H0, B', k.grow g, q⟩⟩
end
theorem ins_hr {n : Nat} (hn : n ≤ 1000) : ∀ (l : Addr) (vs : List V) (y : V) (H : Hp) (Q : VK), H l = some (.lst vs) → vs.length ≤ 1000 → Q .non (upd H l (.lst (vs.take n ++ [y] ++ vs.drop n))) →
    ∃ (l' : Addr) (xs : List V) (i : Int) (y' : V), V.ref l = .ref l' ∧ [V.int (n : Nat), y] = [.int i, y'] ∧ H l' = some (.lst xs) ∧ xs.length < sizeLine ∧ 0 ≤ i ∧ i < 2 ^ 63 ∧ Q .non (upd H l' (.lst (xs.take i.toNat ++ [y'] ++ xs.drop i.toNat))) :=
  fun l vs y H Q h hz q => ⟨l, vs, (n : Nat), y, rfl, rfl, h, small1000 hz, by omega, by omega, q⟩
section
variable {P : Program} {w : World} {K : PySem.W.Frag} {mg : Str → Option Value} {base : Heap}
def R_law_put : List D → D → Prop := fun ds d => ∃ (o : Ord) (r : Rl Str), ds = [ordD o, ruleD r] ∧ V0 o ∧ Usable o r ∧ d = ordD (lput o r)
theorem ok_law_put (T : Top K mg) : FnOk P w K mg base CX0 3 T.d_law_put.f T.d_law_put.fd ["_law_order_here", "_law_rule_here"] (spF R_law_put) := by
  refine fn_rt T.d_law_put.F sc_law_put (fun ds d ⟨_, _, h, _⟩ => by subst h; rfl) (fun cdv A outer s H E hr ds d hR => ?_)
  obtain ⟨o, r, rfl, v, u, rfl⟩ := hR
  have h2 := two_of u.a u.y u.ne
  have v1 := v.rem u.y h2
  have hn := v1.ln
  have hz := v1.le
  have ha : r.anc ∈ (rem o r.let_).1 := (rem_mem v.wf).mpr ⟨u.ne, u.a⟩
  have hi := List.idxOf_lt_length_of_mem ha
  obtain ⟨q, hq⟩ : ∃ q, q = rem o r.let_ := ⟨_, rfl⟩
  rw [← hq] at v1 hn hz ha hi
  have pk := lpk_le v1.wf ha
  have gA := cnt_le (fun i => decide (r.str < dif q r.anc (L q (q.1.idxOf r.anc + 1 + i)))) (q.1.length - (q.1.idxOf r.anc + 1))
  have gB := cnt_le (fun i => decide (r.str < dif q r.anc (L q (q.1.idxOf r.anc - 1 - i)))) (q.1.idxOf r.anc)
  refine (s_cons (p_unp (g_var rfl (pv 1)) (pg_tup rfl (pgs_cons (pg_name (i := 2) sc_law_put.nd rfl (Or.inl rfl)) (pgs_cons (pg_name (i := 3) sc_law_put.nd rfl (Or.inl rfl)) (pgs_cons (pg_name (i := 4) sc_law_put.nd rfl (Or.inl rfl)) (pgs_cons (pg_name (i := 5) sc_law_put.nd rfl (Or.inl rfl)) pgs_nil))))) ga_tup4) 
    (s_ifj (Cmp.t (g_inT (by rfl) (g_var rfl (pv 5)) (g_ixT rfl (g_var rfl (pv 0)) g_int (fun _ _ => rfl)))) (fun c1 => (s_cons (p_asg (d := ordD q) (i := 0) sc_law_put.nd rfl (Or.inl rfl) (g_call (pe_call (ok_law_without T) (hr.mono (by decide)) (by rfl) T.d_law_without.g T.d_law_without.F.kp T.d_law_without.b .nil pass0 (ga_cons (g_var rfl (pv 0)) (ga_cons (g_var rfl (pv 5)) ga_nil))) ⟨o, r.let_, rfl, v, u.y, h2, by rw [hq]⟩)) 
      s_end)) (fun c1 => absurd u.y (of_decide_eq_false c1)) 
    (s_cons (p_asgN (i := 6) sc_law_put.nd rfl (Or.inl rfl) (g_listT (by rfl) T.z_list (g_ixT rfl (g_var rfl (pv 0)) g_int (fun _ _ => rfl)))) 
    (s_cons (p_asg (i := 7) sc_law_put.nd rfl (Or.inl rfl) (g_lixS (pe_bm PySem.F.plainAttrs_list PySem.F.slot_list_index PySem.F.type_list_index mt_index (g_varm rfl (pv 6)) (ga_cons (g_var rfl (pv 3)) ga_nil)) ha)) 
    (s_cons (p_if2 (Γ1 := [.d (ordD q), .d (ruleD r), .d (.str (if r.aft then "after" else "before")), .d (.str r.anc), .d (.int r.str), .d (.str r.let_), .m (q.1.map D.str), .d (.int (q.1.idxOf r.anc : Nat)), .d (.int (lpl q r : Nat)), .m ((q.2.map D.int).take (lpk q r) ++ [.int r.str] ++ (q.2.map D.int).drop (lpk q r))]) (Cmp.t (g_eqS (g_var rfl (pv 2)) g_str)) (fun c2 => (s_cons (p_asg (i := 8) sc_law_put.nd rfl (Or.inl rfl) (g_add (g_var rfl (pv 7)) g_int)) 
      (s_while (fun i => [.d (ordD q), .d (ruleD r), .d (.str (if r.aft then "after" else "before")), .d (.str r.anc), .d (.int r.str), .d (.str r.let_), .m (q.1.map D.str), .d (.int (q.1.idxOf r.anc : Nat)), .d (.int (q.1.idxOf r.anc + 1 + i : Nat)), .any]) (lgA q r.anc r.str) .never (fun i hi => tB_eq (gt_w (gw_and (Cmp.t (g_lt (g_var rfl (pv 8)) (g_lenL (by rfl) T.z_len (g_varm rfl (pv 6))))) (fun h3 => (gw_and1 (Cmp.t (g_gt (g_call (d := .int (dif q r.anc (L q (q.1.idxOf r.anc + 1 + i)))) (pe_call (ok_law_difference T) (hr.mono (by decide)) (by rfl) T.d_law_difference.g T.d_law_difference.F.kp T.d_law_difference.b .nil pass0 (ga_cons (g_var rfl (pv 0)) (ga_cons (g_var rfl (pv 3)) (ga_cons (g_ixL (at_getD (f := D.str) (ls := q.1) (i := q.1.idxOf r.anc + 1 + i) default rfl ?g4) (g_varm rfl (pv 6)) (g_var rfl (pv 8)) (fun _ _ => rfl)) ga_nil)))) ⟨q, _, _, rfl, v1.wf, ha, ?g5, rfl⟩) (g_var rfl (pv 4)))))))) ?g6) (fun i hi => s_less (s_cons (p_asg (i := 8) sc_law_put.nd rfl (Or.inl rfl) (g_add (g_var rfl (pv 8)) g_int)) 
        s_end) ⟨rfl, rfl, rfl, rfl, rfl, rfl, rfl, rfl, ?g7, trivial⟩) ⟨rfl, rfl, rfl, rfl, rfl, rfl, rfl, rfl, ?g8, trivial⟩
      (s_cons (p_asgN (i := 9) sc_law_put.nd rfl (Or.inl rfl) (g_listT (by rfl) T.z_list (g_ixT rfl (g_var rfl (pv 0)) g_int (fun _ _ => rfl)))) 
      (s_less (s_cons (p_ins (n := lpk q r) rfl ?g9 ?g10 ?g11 (pe_bm PySem.F.plainAttrs_list PySem.F.slot_list_insert PySem.F.type_list_insert mt_insert (pv 9) (ga_cons (isD_eq (g_sub (g_var rfl (pv 8)) g_int) ?e11) (ga_cons (g_var rfl (pv 4)) ga_nil)))) 
      s_end) ⟨rfl, rfl, rfl, rfl, rfl, rfl, rfl, rfl, ?e12, rfl, trivial⟩)))))
     (fun c2 => (s_cons (p_asg (i := 8) sc_law_put.nd rfl (Or.inl rfl) (g_var rfl (pv 7))) 
      (s_while (fun i => [.d (ordD q), .d (ruleD r), .d (.str (if r.aft then "after" else "before")), .d (.str r.anc), .d (.int r.str), .d (.str r.let_), .m (q.1.map D.str), .d (.int (q.1.idxOf r.anc : Nat)), .d (.int (q.1.idxOf r.anc - i : Nat)), .any]) (lgB q r.anc r.str) .never (fun i hi => tB_eq (gt_w (gw_and (Cmp.t (g_gt (g_var rfl (pv 8)) g_int)) (fun h4 => (gw_and1 (Cmp.t (g_gt (g_call (d := .int (dif q r.anc (L q (q.1.idxOf r.anc - 1 - i)))) (pe_call (ok_law_difference T) (hr.mono (by decide)) (by rfl) T.d_law_difference.g T.d_law_difference.F.kp T.d_law_difference.b .nil pass0 (ga_cons (g_var rfl (pv 0)) (ga_cons (g_var rfl (pv 3)) (ga_cons (g_ixL (at_getD (f := D.str) (ls := q.1) (i := q.1.idxOf r.anc - 1 - i) default ?z16 ?g16) (g_varm rfl (pv 6)) (g_sub (g_var rfl (pv 8)) g_int) (fun _ _ => rfl)) ga_nil)))) ⟨q, _, _, rfl, v1.wf, ha, ?g17, rfl⟩) (g_var rfl (pv 4)))))))) ?g18) (fun i hi => s_less (s_cons (p_asg (i := 8) sc_law_put.nd rfl (Or.inl rfl) (g_sub (g_var rfl (pv 8)) g_int)) 
        s_end) ⟨rfl, rfl, rfl, rfl, rfl, rfl, rfl, rfl, ?g19, trivial⟩) ⟨rfl, rfl, rfl, rfl, rfl, rfl, rfl, rfl, rfl, trivial⟩
      (s_cons (p_asgN (i := 9) sc_law_put.nd rfl (Or.inl rfl) (g_listT (by rfl) T.z_list (g_ixT rfl (g_var rfl (pv 0)) g_int (fun _ _ => rfl)))) 
      (s_less (s_cons (p_ins (n := lpk q r) rfl ?g21 ?g22 ?g23 (pe_bm PySem.F.plainAttrs_list PySem.F.slot_list_insert PySem.F.type_list_insert mt_insert (pv 9) (ga_cons (isD_eq (g_var rfl (pv 8)) ?e23) (ga_cons (g_var rfl (pv 4)) ga_nil)))) 
      s_end) ⟨rfl, rfl, rfl, rfl, rfl, rfl, rfl, rfl, ?e24, rfl, trivial⟩)))))) 
    (s_cons (p_ins (n := lpl q r) rfl ?g24 ?g25 ?g26 (pe_bm PySem.F.plainAttrs_list PySem.F.slot_list_insert PySem.F.type_list_insert mt_insert (pv 6) (ga_cons (g_var rfl (pv 8)) (ga_cons (g_var rfl (pv 5)) ga_nil)))) 
    (s_ret (p_ret (isD_eq (g_tup (ga_cons (g_tupL (by rfl) T.z_tuple (g_varm rfl (pv 6))) (ga_cons (g_tupL (by rfl) T.z_tuple (g_varm rfl (pv 9))) ga_nil)) (by simp)) ?g27)))))))))
  case g4 =>
    have h := of_decide_eq_true h3
    rw [List.length_map] at h
    omega
  case g5 =>
    have h := of_decide_eq_true h3
    rw [List.length_map] at h
    exact L_mem (o := q) (by omega)
  case g6 =>
    rw [List.length_map]
    have g := cnt_get (fun i => decide (r.str < dif q r.anc (L q (q.1.idxOf r.anc + 1 + i)))) (q.1.length - (q.1.idxOf r.anc + 1)) i hi
    have e : decide (((q.1.idxOf r.anc + 1 + i : Nat) : Int) < (q.1.length : Nat)) = decide (i < q.1.length - (q.1.idxOf r.anc + 1)) := decide_eq_decide.mpr (by omega)
    rw [e]
    exact g
  case g7 => rfl
  case g8 => rfl
  case g9 =>
    rw [List.length_map]
    omega
  case g10 =>
    rw [List.length_map]
    exact pk
  case g11 => exact ins_hr (by omega)
  case e11 =>
    have e : r.aft = true := by
      have h := of_decide_eq_true c2
      cases hb : r.aft with
      | true => rfl
      | false =>
        rw [hb] at h
        exact absurd h (by decide)
    have e2 : lpk q r = q.1.idxOf r.anc + lgA q r.anc r.str := by
      unfold lpk
      rw [if_pos e]
    rw [e2]
    congr 2
    omega
  case e12 =>
    have e : r.aft = true := by
      have h := of_decide_eq_true c2
      cases hb : r.aft with
      | true => rfl
      | false =>
        rw [hb] at h
        exact absurd h (by decide)
    unfold lpl
    rw [if_pos e]
  case z16 =>
    have h := of_decide_eq_true h4
    omega
  case g16 => omega
  case g17 => exact L_mem (o := q) (by omega)
  case g18 =>
    have g := cnt_get (fun i => decide (r.str < dif q r.anc (L q (q.1.idxOf r.anc - 1 - i)))) (q.1.idxOf r.anc) i hi
    have e : decide ((0 : Int) < ((q.1.idxOf r.anc - i : Nat) : Int)) = decide (i < q.1.idxOf r.anc) := decide_eq_decide.mpr (by omega)
    rw [e]
    exact g
  case g19 =>
    have h : i < q.1.idxOf r.anc := by
      unfold lgB at hi
      omega
    congr 3
    omega
  case g21 =>
    rw [List.length_map]
    omega
  case g22 =>
    rw [List.length_map]
    exact pk
  case g23 => exact ins_hr (by omega)
  case e23 =>
    have e : ¬ r.aft = true := by
      have h := of_decide_eq_false c2
      intro hb
      rw [hb] at h
      exact h rfl
    unfold lpk
    rw [if_neg e]
  case e24 =>
    have e : ¬ r.aft = true := by
      have h := of_decide_eq_false c2
      intro hb
      rw [hb] at h
      exact h rfl
    unfold lpl
    rw [if_neg e]
  case g24 =>
    rw [List.length_map]
    omega
  case g25 =>
    rw [List.length_map]
    unfold lpl lgA
    split <;> omega
  case g26 =>
    refine ins_hr ?_
    unfold lpl lgA
    split <;> omega
  case g27 =>
    rw [← List.map_take, ← List.map_drop, ← List.map_take, ← List.map_drop]
    unfold lput
    rw [← hq]
    simp
def Pre_rule : List D → Prop := fun ds => ∃ o : Ord, ds = [ordD o, .lst []] ∧ V0 o ∧ 2 ≤ o.1.length
def Post_rule : List D → D → Prop := fun ds d => ∃ (o : Ord) (r : Rl Str), ds = [ordD o, .lst []] ∧ d = ruleD r ∧ Usable o r ∧ 1 ≤ r.str ∧ r.str ≤ 3
theorem ok_law_rule (T : Top K mg) : FnOk P w K mg base CX0 2 T.d_law_rule.f T.d_law_rule.fd ["_law_stream_here", "_law_order_here", "_law_more"] (spS Pre_rule Post_rule) := by
  refine fn_s T.d_law_rule.F sc_law_rule (fun ds ⟨o, h, _⟩ => by rw [h]; rfl) (fun cdv A outer s H E hr S ds hp => ?_)
  obtain ⟨o, rfl, v, h2⟩ := hp
  have hz := v.le
  refine (rs_let (i := 3) sc_law_rule.nd rfl (Or.inr rfl) (r_ixT (ds := o.1.map D.str) (g_ixT rfl (g_var rfl (pv 1)) g_int (fun _ _ => rfl)) (r_draw (m := (o.1.map D.str).length) ?m0 ?m1 (pe_call (ok_law_next T) (hr.mono (by decide)) (by rfl) T.d_law_next.g T.d_law_next.F.kp T.d_law_next.b .nil pass0 (ra_cons (r_pure (g_var rfl (pv 0))) (ra_cons (r_pure (g_lenT (ds := o.1.map D.str) (by rfl) T.z_len (g_ixT rfl (g_var rfl (pv 1)) g_int (fun _ _ => rfl)))) ra_nil)))) (fun _ _ => rfl)) (fun d hd => ?_))
  case m0 =>
    rw [List.length_map]
    omega
  case m1 =>
    rw [List.length_map]
    omega
  obtain ⟨a, ha, rfl⟩ := List.mem_map.mp hd
  have hne : o.1.filter (fun x => !decide (x = a)) ≠ [] := fun z => by
    have hall := List.filter_eq_nil_iff.mp z
    have h0 : o.1[0]'(by omega) = a := by simpa using hall _ (List.getElem_mem (show 0 < o.1.length by omega))
    have h1 : o.1[1]'(by omega) = a := by simpa using hall _ (List.getElem_mem (show 1 < o.1.length by omega))
    have := (List.getElem_inj v.nd).mp (h0.trans h1.symm)
    omega
  refine (rs_pure (p_lcF (xs := o.1) (emb := D.str) (i := 4) (fun x => !decide (x = a)) D.str rfl sc_law_rule.nd rfl (by rfl) (by rfl) (gi_eq (gi_lst (g_n (g_catL (ds1 := o.1.map D.str) (ds2 := []) ?g3 (g_nl (g_listT (by rfl) T.z_list (g_ixT rfl (g_var rfl (pv 1)) g_int (fun _ _ => rfl)))) (g_l (g_var rfl (pv 2)))))) ?e3) (blkOk_by (own := [("_law_one", 6)]) (N := N_law_rule) (sc := defScope s_law_rule) (by decide +kernel)) (fun _ _ _ _ _ => pg_name (i := 6) sc_law_rule.nd rfl (Or.inl rfl)) (fun x hx => ga_nameW (by simp)) (fun _ _ _ _ _ x hx => gts_one (Cmp.t (g_neS (g_var rfl (pv 6)) (g_var rfl (pv 3))))) (fun _ _ _ _ _ x hx ht => (g_var rfl (pv 6))) (hw1 rfl) ?g4) (rs_own (i := 4) rfl 
    (rs_let (i := 5) sc_law_rule.nd rfl (Or.inl rfl) (r_ixL (ds := (o.1.filter fun x => !decide (x = a)).map D.str) (g_var rfl (pv 4)) (r_draw (m := ((o.1.filter fun x => !decide (x = a)).map D.str).length) ?n0 ?n1 (pe_call (ok_law_next T) (hr.mono (by decide)) (by rfl) T.d_law_next.g T.d_law_next.F.kp T.d_law_next.b .nil pass0 (ra_cons (r_pure (g_var rfl (pv 0))) (ra_cons (r_pure (g_lenL (by rfl) T.z_len (g_l (g_var rfl (pv 4))))) ra_nil)))) (fun _ _ => rfl)) (fun d hd => ?r))))
  case g3 =>
    rw [List.length_map]
    simp
    omega
  case e3 => rw [List.append_nil]
  case g4 => omega
  case n0 =>
    rw [List.length_map]
    exact len_pos hne
  case n1 =>
    rw [List.length_map]
    have := List.length_filter_le (fun x => !decide (x = a)) o.1
    omega
  case r =>
    obtain ⟨y, hy, rfl⟩ := List.mem_map.mp hd
    obtain ⟨y1, y2⟩ := List.mem_filter.mp hy
    have hya : ¬ y = a := by simpa using y2
    refine (rs_ret (r_tup (ra_cons (r_imp (P' := fun d => ∃ b : Bool, d = .str (if b then "after" else "before")) (r_ixL (g_n (g_lst (ga_cons g_str (ga_cons g_str ga_nil)) (by simp))) (r_draw (m := 2) (by decide) (by decide) (pe_call (ok_law_next T) (hr.mono (by decide)) (by rfl) T.d_law_next.g T.d_law_next.F.kp T.d_law_next.b .nil pass0 (ra_cons (r_pure (g_var rfl (pv 0))) (ra_cons (r_pure g_int) ra_nil)))) (fun _ _ => rfl)) ?q1) (ra_cons (r_pure (g_var rfl (pv 3))) (ra_cons (r_imp (P' := fun d => ∃ z : Int, d = .int z ∧ 1 ≤ z ∧ z ≤ 3) (r_add (r_pure g_int) (r_draw (m := 3) (by decide) (by decide) (pe_call (ok_law_next T) (hr.mono (by decide)) (by rfl) T.d_law_next.g T.d_law_next.F.kp T.d_law_next.b .nil pass0 (ra_cons (r_pure (g_var rfl (pv 0))) (ra_cons (r_pure g_int) ra_nil)))) ?q2 ?q3) ?q4) (ra_cons (r_pure (g_var rfl (pv 5))) ra_nil)))) ?q5) ?q6)
    case q1 =>
      intro d hd
      rcases List.mem_cons.mp hd with z | z
      · exact ⟨true, z⟩
      · exact ⟨false, List.mem_singleton.mp z⟩
    case q2 => exact fun d h => ⟨_, h⟩
    case q3 =>
      rintro d ⟨k, _, e⟩
      exact ⟨_, e⟩
    case q4 =>
      rintro d ⟨i, j, e1, ⟨k, hk, e2⟩, e3⟩
      have e1 : i = 1 := by
        injection e1 with e
        injection e
      have e2 : j = (k : Nat) := by
        injection e2 with e
        injection e
      exact ⟨i + j, e3, by omega, by omega⟩
    case q5 =>
      rintro ds ⟨d, ds', rfl, _, d2, ds2, rfl, _, d3, ds3, rfl, _, d4, ds4, rfl, _, rfl⟩
      simp
    case q6 =>
      rintro d ⟨ds, rfl, d1, ds1, rfl, ⟨b, rfl⟩, d2, ds2, rfl, rfl, d3, ds3, rfl, ⟨z, rfl, z1, z2⟩, d4, ds4, rfl, rfl, rfl⟩
      exact ⟨o, ⟨b, a, z, y⟩, rfl, rfl, ⟨ha, y1, fun h => hya h.symm, by show z < 4; omega⟩, z1, z2⟩
end
end Ga
/-! paths drawn -/
namespace Ga
open PySem PySem.Spec PyProof.Rows L2 Mi
theorem side_inj : ∀ b b' : Bool, (if b = true then ("after" : Str) else "before") = (if b' = true then ("after" : Str) else "before") → b = b' := by decide
/-- an order of these letters -/
structure VO (ls : List Str) (o : Ord) : Prop where
  v : V0 o
  p : o.1.Perm ls
theorem r_order {P : Program} {w : World} {K : PySem.W.Frag} {mg : Str → Option Value} {S : SI} {X : Cx} {Γ : Ctx} {e : Expr} {E : XK} {ls : List Str} (hnd : ls.Nodup) (hok : ∀ x ∈ ls, okL x = true) (h1 : 1 ≤ ls.length) (h12 : ls.length ≤ 12)
    (h : PE X e (tCall (spS Pre_order Post_order) [] E (tRA S Γ fun xs => ∃ d ds, xs = d :: ds ∧ d = .v (.ref S.st) ∧ ∃ d' ds', ds = d' :: ds' ∧ d' = lS ls ∧ ds' = []))) :
    PE X e (tR S Γ fun d => ∃ o : Ord, d = ordD o ∧ VO ls o) :=
  r_imp (r_callS h fun ds ⟨d, ds', e, h1', d2, ds2, e2, h2, h3⟩ => ⟨[lS ls], by rw [e, h1', e2, h2, h3], ls, rfl, hnd, hok, h1, h12⟩) fun d ⟨es, ⟨d1, ds', e, h1, d2, ds2, e2, h2, h3⟩, ls', o, e3, e4, e5, e6⟩ => by
    have e7 : es = ds' := by injection e
    rw [e7, e2, h2, h3] at e3
    have e8 : lS ls = lS ls' := by injection e3
    exact ⟨o, e4, e5, lS_inj e8 ▸ e6⟩
theorem r_putrule {S : SI} {X : Cx} {Γ : Ctx} {e : Expr} {E : XK} {o : Ord} {ls : List Str} (v : VO ls o) 
    (h : PE X e (tCall (spF R_law_put) [] E (tRA S Γ fun xs => ∃ d ds, xs = d :: ds ∧ d = ordD o ∧ ∃ d' ds', ds = d' :: ds' ∧ (∃ r : Rl Str, d' = ruleD r ∧ Usable o r ∧ 1 ≤ r.str ∧ r.str ≤ 3) ∧ ds' = []))) :
    PE X e (tR S Γ fun d => ∃ q : Ord, d = ordD q ∧ VO ls q) :=
  r_imp (r_callP h fun ds ⟨d, ds', e, h1', d2, ds2, e2, ⟨r, h2, u, _⟩, h3⟩ => ⟨ordD (lput o r), o, r, by rw [e, h1', e2, h2, h3], v.v, u, rfl⟩) fun d ⟨ds, ⟨d1, ds', e, h1, d2, ds2, e2, ⟨r, h2, u, t1, t2⟩, h3⟩, o', r', e3, _, u', e5⟩ => by
    rw [e, h1, e2, h2, h3] at e3
    have e6 : ordD o = ordD o' := by injection e3
    have e7 : ruleD r = ruleD r' := by
      injection e3 with _ e3
      injection e3
    have eo := ordD_inj e6
    subst eo
    have er : r = r' := by
      obtain ⟨b, a, z, y⟩ := r
      obtain ⟨b', a', z', y'⟩ := r'
      injection e7 with e7
      injection e7 with q1 q2
      injection q2 with q2 q3
      injection q3 with q3 q4
      injection q4 with q4 _
      injection q1 with q1
      injection q1 with q1
      injection q2 with q2
      injection q2 with q2
      injection q3 with q3
      injection q3 with q3
      injection q4 with q4
      injection q4 with q4
      subst q2 q3 q4
      rw [side_inj b b' q1]
    subst er
    obtain ⟨l1, l2⟩ := v.v.lput u ⟨t1, t2⟩
    exact ⟨_, e5, l1, l2.trans v.p⟩
theorem r_rule {S : SI} {X : Cx} {Γ : Ctx} {e : Expr} {E : XK} {o : Ord} (v : V0 o) (h2 : 2 ≤ o.1.length)
    (h : PE X e (tCall (spS Pre_rule Post_rule) [] E (tRA S Γ fun xs => ∃ d ds, xs = d :: ds ∧ d = .v (.ref S.st) ∧ ∃ d' ds', ds = d' :: ds' ∧ d' = ordD o ∧ ∃ d'' ds'', ds' = d'' :: ds'' ∧ d'' = .lst [] ∧ ds'' = []))) :
    PE X e (tR S Γ fun d' => ∃ r : Rl Str, d' = ruleD r ∧ Usable o r ∧ 1 ≤ r.str ∧ r.str ≤ 3) :=
  r_imp (r_callS h fun ds ⟨d, ds', e, h1', d2, ds2, e2, h2', d3, ds3, e3, h3, h4⟩ => ⟨[ordD o, .lst []], by rw [e, h1', e2, h2', e3, h3, h4], o, rfl, v, h2⟩) fun d ⟨es, ⟨d1, ds', e, h1, d2, ds2, e2, h2, d3, ds3, e3, h3, h4⟩, o', r, e5, e6, e7, e8⟩ => by
    have e9 : es = ds' := by injection e
    rw [e9, e2, h2, e3, h3, h4] at e5
    have e10 : ordD o = ordD o' := by injection e5
    have eo := ordD_inj e10
    subst eo
    exact ⟨r, e6, e7, e8⟩
section
variable {P : Program} {w : World} {K : PySem.W.Frag} {mg : Str → Option Value} {base : Heap}
def Pre_path : List D → Prop := fun ds => ds = [.int 6, .int 4]
def Post_path : List D → D → Prop := fun ds d => ∃ (ls : List Str) (os : List Ord), d = .tup (os.map ordD) ∧ os ≠ [] ∧ os.length ≤ 4 ∧ ∀ o ∈ os, VO ls o
theorem ok_law_some_path (T : Top K mg) : FnOk P w K mg base CX0 4 T.d_law_some_path.f T.d_law_some_path.fd ["_law_stream_here", "_law_most", "_law_long"] (spS Pre_path Post_path) := by
  refine fn_s T.d_law_some_path.F sc_law_some_path (fun ds h => by rw [h]; rfl) (fun cdv A outer s H E hr S ds hp => ?_)
  subst hp
  refine (rs_let (i := 3) sc_law_some_path.nd rfl (Or.inl rfl) (r_imp (P' := fun d => ∃ ls : List Str, d = lS ls ∧ ls.Nodup ∧ ls.length = 12 ∧ ∀ x ∈ ls, okL x = true) (r_callS (pe_call (ok_law_names T) (hr.mono (by decide)) (by rfl) T.d_law_names.g T.d_law_names.F.kp T.d_law_names.b .nil pass0 (ra_cons (r_pure (g_var rfl (pv 0))) ra_nil)) ?p1) ?p2) (fun d hd => ?_))
  case p1 =>
    rintro ds ⟨d, ds', rfl, rfl, rfl⟩
    exact ⟨[], rfl, rfl⟩
  case p2 =>
    rintro d ⟨es, _, h⟩
    exact h
  obtain ⟨ls, rfl, hnd, hlen, hok⟩ := hd
  refine (rs_let (i := 4) sc_law_some_path.nd rfl (Or.inl rfl) (r_imp (P' := fun d => ∃ m : Nat, d = .int (m : Nat) ∧ 1 ≤ m ∧ m ≤ 6) (r_add (r_pure g_int) (r_draw (m := 6) (by decide) (by decide) (pe_call (ok_law_next T) (hr.mono (by decide)) (by rfl) T.d_law_next.g T.d_law_next.F.kp T.d_law_next.b .nil pass0 (ra_cons (r_pure (g_var rfl (pv 0))) (ra_cons (r_pure (g_var rfl (pv 1))) ra_nil)))) ?q2 ?q3) ?q4) (fun d hd => ?_))
  case q2 => exact fun d h => ⟨_, h⟩
  case q3 =>
    rintro d ⟨k, _, e⟩
    exact ⟨_, e⟩
  case q4 =>
    rintro d ⟨i, j, e1, ⟨k, hk, e2⟩, e3⟩
    have e1 : i = 1 := by
      injection e1 with e
      injection e
    have e2 : j = (k : Nat) := by
      injection e2 with e
      injection e
    refine ⟨1 + k, ?_, by omega, by omega⟩
    rw [e3, e1, e2]
    congr 1
  obtain ⟨m, rfl, hm1, hm6⟩ := hd
  have kn : (ls.take m).Nodup := hnd.sublist (List.take_sublist _ _)
  have ko : ∀ x ∈ ls.take m, okL x = true := fun x hx => hok x (List.mem_of_mem_take hx)
  have kl : (ls.take m).length = m := by
    rw [List.length_take]
    omega
  refine (rs_letN (i := 5) sc_law_some_path.nd rfl (Or.inl rfl) (r_lst (ra_cons (r_order (P := P) (w := w) (K := K) (mg := mg) kn ko (by omega) (by omega) (pe_call (ok_law_order T) (hr.mono (by decide)) (by rfl) T.d_law_order.g T.d_law_order.F.kp T.d_law_order.b .nil pass0 (ra_cons (r_pure (g_var rfl (pv 0))) (ra_cons (r_is (P := (· = lS (ls.take m))) (g_n (g_slL (g_l (g_var rfl (pv 3))) g_o0 (g_o1 (g_var rfl (pv 4))))) ?c1) ra_nil)))) ra_nil) ?c2) (fun ds hds => ?_))
  case c1 =>
    show D.lst _ = _
    rw [cut_to, ← List.map_take]
  case c2 =>
    rintro ds ⟨d, ds', rfl, _, rfl⟩
    simp
  obtain ⟨d, ds', rfl, ⟨o, rfl, vo⟩, rfl⟩ := hds
  refine (rs_for (fun its i Γ' => ∃ (rows : List Ord) (s6 s7 s8 : Sl), Γ' = [.d (.v (.ref S.st)), .d (.int 6), .d (.int 4), .d (lS ls), .d (.int (m : Nat)), .m (rows.map ordD), s6, s7, s8] ∧ rows.length = i + 1 ∧ ∀ o ∈ rows, VO (ls.take m) o) .never rfl (is_rng (m := 4) (by decide) (by rfl) T.z_range (r_draw (m := 4) (by decide) (by decide) (pe_call (ok_law_next T) (hr.mono (by decide)) (by rfl) T.d_law_next.g T.d_law_next.F.kp T.d_law_next.b .nil pass0 (ra_cons (r_pure (g_var rfl (pv 0))) (ra_cons (r_pure (g_var rfl (pv 2))) ra_nil))))) (pg_name (i := 6) sc_law_some_path.nd rfl (Or.inl rfl)) ?body (fun its _ => ⟨[o], .any, .any, .any, rfl, rfl, fun q hq => by rw [List.mem_singleton.mp hq]; exact vo⟩) ?rest)
  case rest =>
    rintro its ⟨n, hn, rfl⟩ Γ' ⟨rows, s6, s7, s8, rfl, hl, hv⟩
    rw [List.length_map, List.length_range] at hl
    refine rs_ret (r_pure (g_tupL (by rfl) T.z_tuple (g_varm rfl (pv 5)))) ?_
    rintro d rfl
    exact ⟨ls.take m, rows, rfl, fun z => by rw [z] at hl; simp at hl, by omega, hv⟩
  case body =>
    rintro its ⟨n, hn, rfl⟩ i hi Γ' ⟨rows, s6, s7, s8, rfl, hl, hv⟩
    have hi' : i < 4 := by
      rw [List.length_map, List.length_range] at hi
      omega
    obtain ⟨dd, hdd⟩ : ∃ dd, dd = ((List.range n).map fun i => D.int (i : Nat))[i] := ⟨_, rfl⟩
    rw [← hdd]
    refine ⟨_, ga_name, ?_⟩
    refine (rs_let (i := 7) sc_law_some_path.nd rfl (Or.inl rfl) (r_order (P := P) (w := w) (K := K) (mg := mg) kn ko (by omega) (by omega) (pe_call (ok_law_order T) (hr.mono (by decide)) (by rfl) T.d_law_order.g T.d_law_order.F.kp T.d_law_order.b .nil pass0 (ra_cons (r_pure (g_var rfl (pv 0))) (ra_cons (r_is (P := (· = lS (ls.take m))) (g_n (g_slL (g_l (g_var rfl (pv 3))) g_o0 (g_o1 (g_var rfl (pv 4))))) ?c1) ra_nil)))) (fun d hd => ?_))
    case c1 =>
      show D.lst _ = _
      rw [cut_to, ← List.map_take]
    obtain ⟨row, rfl, vrow⟩ := hd
    obtain ⟨last, hlast⟩ : ∃ last, rows.getLast? = some last := ⟨_, List.getLast?_eq_some_getLast (fun z => by rw [z] at hl; simp at hl)⟩
    have vlast := hv last (List.mem_of_getLast? hlast)
    refine (rs_ifj (Q1 := fun Γ1 => ∃ (row : Ord) (s8 : Sl), Γ1 = [.d (.v (.ref S.st)), .d (.int 6), .d (.int 4), .d (lS ls), .d (.int (m : Nat)), .m (rows.map ordD), .d dd, .d (ordD row), s8] ∧ VO (ls.take m) row) (PW.pt (rw_and (Cmp.t (g_gt (g_var rfl (pv 4)) g_int)) (fun _ => pw_and1 (rt_gt (r_draw (m := 3) (by decide) (by decide) (pe_call (ok_law_next T) (hr.mono (by decide)) (by rfl) T.d_law_next.g T.d_law_next.F.kp T.d_law_next.b .nil pass0 (ra_cons (r_pure (g_var rfl (pv 0))) (ra_cons (r_pure g_int) ra_nil)))) g_int ?t1)))) (fun hb => ?tt) (fun _ => ⟨row, s8, rfl, vrow⟩) ?aft)
    case t1 =>
      rintro d ⟨k, _, e⟩
      exact ⟨_, e⟩
    case aft =>
      rintro Γ1 ⟨row, s8, rfl, vrow⟩
      refine rs_app (i := 5) (P := (· = ordD row)) rfl ?a1 (r_pure (g_var rfl (pv 7))) (pv 5) ?a2 (pe_bm PySem.F.plainAttrs_list PySem.F.slot_list_append PySem.F.type_list_append mt_append (pv 5) (pa_cons (r_pure (g_var rfl (pv 7))) pa_nil))
      case a1 =>
        rw [List.length_map]
        omega
      case a2 =>
        rintro d rfl
        refine rs_end ⟨rows ++ [row], .d dd, .d (ordD row), s8, ?_, by rw [List.length_append, hl]; rfl, fun q hq => ?_⟩
        · rw [List.map_append]
          rfl
        · rcases List.mem_append.mp hq with z | z
          · exact hv q z
          · rw [List.mem_singleton.mp z]
            exact vrow
    case tt =>
      have hm2 : 2 ≤ m := by
        rcases hb with ⟨z, _⟩ | z
        · have := of_decide_eq_true z
          omega
        · cases z
      refine rs_pure (p_asg (i := 7) sc_law_some_path.nd rfl (Or.inl rfl) (g_ixL (at_last hlast) (g_varm rfl (pv 5)) (g_neg g_int) (fun _ _ => rfl)))
        (rs_for (fun its i Γ' => ∃ (row : Ord) (s8 : Sl), Γ' = [.d (.v (.ref S.st)), .d (.int 6), .d (.int 4), .d (lS ls), .d (.int (m : Nat)), .m (rows.map ordD), .d dd, .d (ordD row), s8] ∧ VO (ls.take m) row) .never rfl (is_rng (m := 3) (by decide) (by rfl) T.z_range (r_draw (m := 3) (by decide) (by decide) (pe_call (ok_law_next T) (hr.mono (by decide)) (by rfl) T.d_law_next.g T.d_law_next.F.kp T.d_law_next.b .nil pass0 (ra_cons (r_pure (g_var rfl (pv 0))) (ra_cons (r_pure g_int) ra_nil))))) (pg_name (i := 8) sc_law_some_path.nd rfl (Or.inl rfl)) ?b2 (fun its _ => ⟨last, s8, rfl, vlast⟩) ?r2)
      case r2 =>
        rintro its _ Γ' ⟨row, s8, rfl, v⟩
        exact rs_end ⟨row, s8, rfl, v⟩
      case b2 =>
        rintro its ⟨n', hn', rfl⟩ j hj Γ' ⟨row, s8, rfl, v⟩
        obtain ⟨de, hde⟩ : ∃ de, de = ((List.range n').map fun i => D.int (i : Nat))[j] := ⟨_, rfl⟩
        rw [← hde]
        refine ⟨_, ga_name, ?_⟩
        have hl2 : 2 ≤ row.1.length := by
          rw [v.p.length_eq]
          omega
        refine rs_let (i := 7) sc_law_some_path.nd rfl (Or.inl rfl) (r_putrule v (pe_call (ok_law_put T) (hr.mono (by decide)) (by rfl) T.d_law_put.g T.d_law_put.F.kp T.d_law_put.b .nil pass0 (ra_cons (r_pure (g_var rfl (pv 7))) (ra_cons (r_rule v.v hl2 (pe_call (ok_law_rule T) (hr.mono (by decide)) (by rfl) T.d_law_rule.g T.d_law_rule.F.kp T.d_law_rule.b .nil pass0 (ra_cons (r_pure (g_var rfl (pv 0))) (ra_cons (r_pure (g_var rfl (pv 7))) (ra_cons (r_pure (g_n (g_lst ga_nil (by simp)))) ra_nil))))) ra_nil)))) (fun d hd => ?_)
        obtain ⟨q, rfl, vq⟩ := hd
        exact rs_end ⟨q, .d de, rfl, vq⟩
end
end Ga
/-! what the way is; what rows tell -/
namespace Ga
open PySem PySem.Spec PyProof.Rows L2 Mi
theorem V2.of {f o : Ord} (v : V0 f) (t : Two f o) (h : Str3 o) : V2 f o := ⟨v, v.ofPut t.p (by rw [← t.len]; exact t.ws.ln) h, t.p⟩
theorem V2.refl {f : Ord} (v : V0 f) : V2 f f := ⟨v, v, List.Perm.refl _⟩
theorem V2.symm {f s : Ord} (v : V2 f s) : V2 s f := ⟨v.v2, v.v1, v.p.symm⟩
theorem V2.trans {a b c : Ord} (v : V2 a b) (u : V2 b c) : V2 a c := ⟨v.v1, u.v2, u.p.trans v.p⟩
structure WayF (f s : Ord) : Prop where
  ris : Ris s.1.length (best (link f s) s.1.length)
  good : Good f (wayRs f s)
  v2 : ∀ o ∈ runs f (wayRs f s), V2 f o
  len : (((runs f (wayRs f s)).length : Nat) : Int) = far f s + 1
  le : (runs f (wayRs f s)).length ≤ 13
  row : rowP f s (runs f (wayRs f s)) = true
theorem way_f {f s : Ord} (v : V2 f s) : WayF f s := by
  have hn := v.pos
  have t := v.two
  obtain ⟨b1, b2, b3, b4⟩ := best_pw t hn
  have wo : WayOk f s (wayRs f s) := way_ok t v.v1.str3 v.v2.str3 hn
  have fp := far_pos t hn
  have hz := v.v2.le
  have tp := top_pos (lk := link f s) link_Lk hn
  have tl := top_le v
  have fl : far f s ≤ 12 := by
    unfold far
    omega
  have hlen := wo.len
  have lr : (wayRs f s).length ≤ 12 := by omega
  have v2 : ∀ i, i ≤ (wayRs f s).length → V2 f (after f (wayRs f s) i) := fun i hi => V2.of v.v1 (wo.two i hi).1 (wo.two i hi).2
  refine ⟨⟨b1, b2, b3, by omega⟩, ⟨by omega, fun i hi => (v2 i (by omega)).v2.wo, fun i hi => ⟨(wo.use i hi).a, (wo.use i hi).ne⟩⟩, fun o ho => ?_, ?_, ?_, ?_⟩
  · obtain ⟨i, hi, e⟩ := List.mem_map.mp ho
    have := List.mem_range.mp hi
    rw [← e]
    exact v2 i (by omega)
  · unfold runs
    rw [List.length_map, List.length_range]
    omega
  · unfold runs
    rw [List.length_map, List.length_range]
    omega
  · have hl : (runs f (wayRs f s)).length = (wayRs f s).length + 1 := by
      unfold runs
      rw [List.length_map, List.length_range]
    have gt : ∀ i, i ≤ (wayRs f s).length → (runs f (wayRs f s)).getD i default = after f (wayRs f s) i := fun i hi => by
      unfold runs
      rw [List.getD_eq_getElem?_getD, List.getElem?_map, List.getElem?_range (by omega)]
      rfl
    have hh : (runs f (wayRs f s)).head? = some f := by
      unfold runs
      rw [List.range_succ_eq_map]
      rfl
    have hg : (runs f (wayRs f s)).getLast? = some s := by
      unfold runs
      rw [List.range_succ, List.map_append, List.map_singleton, List.getLast?_concat]
      congr 1
      unfold after
      rw [List.take_length]
      exact wo.last
    have he : (runs f (wayRs f s)).isEmpty = false := by
      cases h : runs f (wayRs f s) with
      | nil =>
        rw [h] at hl
        simp at hl
      | cons a b => rfl
    have hs : (List.range ((runs f (wayRs f s)).length - 1)).all (fun k => stepP ((runs f (wayRs f s)).getD k default) ((runs f (wayRs f s)).getD (k + 1) default)) = true := by
      refine List.all_eq_true.mpr fun k hk => ?_
      have := List.mem_range.mp hk
      rw [gt k (by omega), gt (k + 1) (by omega)]
      exact way_steps t hn wo (by omega)
    unfold rowP
    rw [hh, hg, he, zip_range, hs]
    simp
/-- what a row tells -/
theorem rowP_far {f s : Ord} (v : V2 f s) {os : List Ord} (ho : ∀ o ∈ os, V2 f o) (h : rowP f s os = true) (hl : ((os.length : Nat) : Int) - 1 ≤ far f s) : ((os.length : Nat) : Int) - 1 = far f s ∧ ∀ o ∈ os, far f o + far o s = far f s := by
  have hn := v.pos
  unfold rowP at h
  simp only [Bool.and_eq_true, Bool.not_eq_true', Bool.not_eq_false', decide_eq_true_eq, decide_eq_false_iff_not, Bool.not_eq_eq_eq_not, Bool.not_true, Bool.not_false, Decidable.not_not] at h
  obtain ⟨⟨he, h0, h1⟩, h2⟩ := h
  rw [zip_range] at h2
  have hne : os ≠ [] := fun z => by
    rw [z] at he
    simp at he
  have hp := len_pos hne
  have mem : ∀ i, i < os.length → os.getD i default ∈ os := fun i hi => by
    rw [List.getD_eq_getElem?_getD, List.getElem?_eq_getElem hi]
    exact List.getElem_mem hi
  have st : ∀ i, i < os.length - 1 → far (os.getD i default) (os.getD (i + 1) default) ≤ 1 := fun i hi => by
    have hs := List.all_eq_true.mp h2 i (List.mem_range.mpr hi)
    exact stepB_far ((ho _ (mem i (by omega))).symm.trans (ho _ (mem (i + 1) (by omega)))).two hs
  have r := row_far (q := fun i => os.getD i default) (m := os.length - 1) v.two hn (fun i hi => (ho _ (mem i (by omega))).two) (by
    show os.getD 0 default = f
    rw [List.head?_eq_getElem?] at h0
    rw [List.getD_eq_getElem?_getD, h0]
    rfl) (by
    show os.getD (os.length - 1) default = s
    rw [List.getLast?_eq_getElem?] at h1
    rw [List.getD_eq_getElem?_getD, h1]
    rfl) st (by omega)
  refine ⟨by omega, fun o hoo => ?_⟩
  obtain ⟨i, hi, e⟩ := List.mem_iff_getElem.mp hoo
  have := r.2 i (by omega)
  simp only [List.getD_eq_getElem?_getD, List.getElem?_eq_getElem hi, Option.getD_some, e] at this
  exact this
theorem rightL_top {f s : Ord} (v : V2 f s) {ls : List Int} (hl : ls.length = s.1.length) (h : rightL (link f s) ls = true) : top (link f s) s.1.length ≤ lmax ls := by
  unfold rightL badAt at h
  simp only [Bool.and_eq_true, List.all_eq_true, decide_eq_true_eq, Bool.not_eq_true', List.mem_range, List.any_eq_false, hl] at h
  obtain ⟨h1, h2⟩ := h
  refine lev_top link_Lk v.pos hl (fun i hi => ?_) (fun i j hi hj => ?_)
  · have hi' : i < ls.length := by omega
    rw [List.getD_eq_getElem?_getD, List.getElem?_eq_getElem hi', Option.getD_some]
    exact h1 _ (List.getElem_mem hi')
  · have := h2 i hi j hj
    omega
theorem levs_right {f s : Ord} (v : V2 f s) : rightL (link f s) (levs (link f s) s.1.length) = true ∧ lmax (levs (link f s) s.1.length) = top (link f s) s.1.length := by
  obtain ⟨h1, h2, h3⟩ := levs_ok (lk := link f s) link_Lk v.pos
  refine ⟨?_, h3⟩
  unfold rightL badAt
  simp only [Bool.and_eq_true, List.all_eq_true, decide_eq_true_eq, Bool.not_eq_true', List.mem_range, List.any_eq_false, levs_len]
  refine ⟨fun l hl => ?_, fun i hi j hj => ?_⟩
  · obtain ⟨i, hi, e⟩ := List.mem_iff_getElem.mp hl
    have := h1 i (by rwa [levs_len] at hi)
    rw [List.getD_eq_getElem?_getD, List.getElem?_eq_getElem hi, Option.getD_some, e] at this
    exact this
  · have := h2 i j hi hj
    omega
/-! ### what is told -/
def ValX (f : Ord) (x : D) : Prop := (∃ os : List Ord, x = .tup (os.map ordD) ∧ (∀ o ∈ os, V2 f o) ∧ os.length ≤ 900) ∨ (∃ xs : List (Option Ord), x = .tup (xs.map itD) ∧ none ∈ xs ∧ (∀ o, some o ∈ xs → V2 f o) ∧ xs.length ≤ 900) ∨ (∃ es, x = .lst es) ∨ x = .non
def ValY (n : Nat) (y : D) : Prop := (∃ ls : List Int, y = tI ls ∧ ls.length = n) ∨ (∃ es, y = .lst es) ∨ y = .non
theorem ValX.row {f s : Ord} (v : V2 f s) {x : D} (h : ValX f x) : ∃ b, RowV f s x b ∧ (b = true → ∃ os : List Ord, x = .tup (os.map ordD) ∧ (∀ o ∈ os, V2 f o) ∧ rowP f s os = true) := by
  rcases h with ⟨os, rfl, h1, h2⟩ | ⟨xs, rfl, h1, h2, h3⟩ | ⟨es, rfl⟩ | rfl
  · exact ⟨_, ⟨f, s, v, .inl ⟨os, rfl, h1, h2, rfl⟩⟩, fun h => ⟨os, rfl, h1, h⟩⟩
  · exact ⟨false, ⟨f, s, v, .inr (.inl ⟨xs, rfl, h1, h2, h3, rfl⟩)⟩, fun h => Bool.noConfusion h⟩
  · exact ⟨false, ⟨f, s, v, .inr (.inr (.inl ⟨es, rfl, rfl⟩))⟩, fun h => Bool.noConfusion h⟩
  · exact ⟨false, ⟨f, s, v, .inr (.inr (.inr ⟨rfl, rfl⟩))⟩, fun h => Bool.noConfusion h⟩
theorem ValY.lev {f s : Ord} (v : V2 f s) {y : D} (h : ValY s.1.length y) : ∃ c, LevV f s y c ∧ (c = true → ∃ ls : List Int, y = tI ls ∧ ls.length = s.1.length ∧ rightL (link f s) ls = true) := by
  rcases h with ⟨ls, rfl, h1⟩ | ⟨es, rfl⟩ | rfl
  · exact ⟨_, ⟨f, s, v, .inl ⟨ls, rfl, h1, rfl⟩⟩, fun h => ⟨ls, rfl, h1, h⟩⟩
  · exact ⟨false, ⟨f, s, v, .inr (.inl ⟨es, rfl, rfl⟩)⟩, fun h => Bool.noConfusion h⟩
  · exact ⟨false, ⟨f, s, v, .inr (.inr ⟨rfl, rfl⟩)⟩, fun h => Bool.noConfusion h⟩
end Ga
/-! what is told is turned -/
namespace Ga
open PySem PySem.Spec PyProof.Rows L2 Mi
def VT (f : Ord) (k : Nat) (d : D) : Prop := ∃ os : List Ord, d = .tup (os.map ordD) ∧ (∀ o ∈ os, V2 f o) ∧ os.length ≤ k
def Fin2 (f : Ord) (n : Nat) (d : D) : Prop := ∃ x y, d = .tup [x, y] ∧ ValX f x ∧ ValY n y
theorem VT.val {f : Ord} {k : Nat} {d : D} (h : VT f k d) (hk : k ≤ 900) : ValX f d := by
  obtain ⟨os, e, h1, h2⟩ := h
  exact .inl ⟨os, e, h1, by omega⟩
theorem VT.cut {f : Ord} {os : List Ord} (h : ∀ o ∈ os, V2 f o) (a b : Option Int) : VT f os.length (.tup (cut (os.map ordD) a b)) := by
  refine ⟨Ga.cut os a b, by rw [cut_map], fun o ho => h o ?_, cut_len os a b⟩
  unfold Ga.cut at ho
  exact List.mem_of_mem_drop (List.mem_of_mem_take ho)
theorem VO.v2 {f q : Ord} (v : V0 f) (h : VO f.1 q) : V2 f q := ⟨v, h.v, h.p⟩
theorem V2.vo {f q : Ord} (v : V2 f q) : VO f.1 q := ⟨v.v2, v.p⟩
section
variable {S : SI} {X : Cx} {Γ : Ctx} {a b e : Expr} {es : List Expr} {pos : Pos} {PX PY : D → Prop} {f : Ord} {n k1 k2 : Nat}
theorem r_fin (ha : PE X a (tR S Γ PX)) (hb : PE X b (tR S Γ PY)) (h1 : ∀ d, PX d → ValX f d) (h2 : ∀ d, PY d → ValY n d) {x1}
    (s1 : starEach [a, b] X.env = (false, eval a X.env) :: starEach [b] X.env := by rfl) (s2 : starEach [b] X.env = (false, eval b X.env) :: starEach [] X.env := by rfl) : PE X (.Tuple [a, b] x1 pos) (tR S Γ (Fin2 f n)) :=
  r_imp (r_tup (ra_cons ha (ra_cons hb ra_nil s2) s1) (fun ds ⟨d, ds', e, _, d2, ds2, e2, _, e3⟩ => by rw [e, e2, e3]; simp)) fun d ⟨ds, e0, d1, ds', e, p1, d2, ds2, e2, p2, e3⟩ => ⟨d1, d2, by rw [e0, e, e2, e3], h1 _ p1, h2 _ p2⟩
theorem r_catV (ha : PE X a (tR S Γ (VT f k1))) (hb : PE X b (tR S Γ (VT f k2))) (z1 : k1 ≤ 500) (z2 : k2 ≤ 500) : PE X (.BinOp a .Add b pos) (tR S Γ (VT f (k1 + k2))) :=
  r_imp (r_cat ha hb (fun d ⟨os, e, _, h⟩ => ⟨_, e, by rw [List.length_map]; omega⟩) (fun d ⟨os, e, _, h⟩ => ⟨_, e, by rw [List.length_map]; omega⟩)) fun d ⟨ds1, ds2, ⟨o1, e1, v1, l1⟩, ⟨o2, e2, v2, l2⟩, e⟩ => by
    have e1 : ds1 = o1.map ordD := by injection e1
    have e2 : ds2 = o2.map ordD := by injection e2
    refine ⟨o1 ++ o2, by rw [e, e1, e2, List.map_append], fun o ho => ?_, by rw [List.length_append]; omega⟩
    rcases List.mem_append.mp ho with z | z
    · exact v1 o z
    · exact v2 o z
theorem r_one {x1} (he : PE X e (tR S Γ fun d => ∃ q : Ord, d = ordD q ∧ V2 f q)) (s2 : starEach [e] X.env = (false, eval e X.env) :: starEach [] X.env := by rfl) : PE X (.Tuple [e] x1 pos) (tR S Γ (VT f 1)) :=
  r_imp (r_tup (ra_cons he ra_nil s2) (fun ds ⟨d, ds', e, _, e3⟩ => by rw [e, e3]; simp)) fun d ⟨ds, e0, d1, ds', e, ⟨q, e1, vq⟩, e3⟩ => ⟨[q], by rw [e0, e, e1, e3]; rfl, fun o ho => by rw [List.mem_singleton.mp ho]; exact vq, Nat.le_refl _⟩
end
section
variable {P : Program} {w : World} {K : PySem.W.Frag} {mg : Str → Option Value} {base : Heap}
def Pre_turned : List D → Prop := fun ds => ∃ (f : Ord) (os : List Ord) (ls : List Int), ds = [.tup (os.map ordD), tI ls] ∧ V0 f ∧ os ≠ [] ∧ os.length ≤ 13 ∧ (∀ o ∈ os, V2 f o) ∧ 1 ≤ ls.length ∧ ls.length ≤ 12
def Post_turned : List D → D → Prop := fun ds d => ∀ (f : Ord) (os : List Ord) (ls : List Int), ds = [.tup (os.map ordD), tI ls] → V0 f → (∀ o ∈ os, V2 f o) → Fin2 f ls.length d
theorem tI_inj {a b : List Int} (h : tI a = tI b) : a = b := by
  have h1 := eqv_ints a b
  have h2 := eqv_ints b b
  have e : a.map D.int = b.map D.int := by injection h
  rw [e, h2] at h1
  simpa using h1.symm
theorem ords_inj : ∀ {a b : List Ord}, a.map ordD = b.map ordD → a = b
  | [], [], _ => rfl
  | [], _ :: _, h => by simp at h
  | _ :: _, [], h => by simp at h
  | x :: a, y :: b, h => by
    simp only [List.map_cons] at h
    injection h with h1 h2
    rw [ordD_inj h1, ords_inj h2]
theorem ok_law_turned (T : Top K mg) : FnOk P w K mg base CX0 8 T.d_law_turned.f T.d_law_turned.fd ["_law_stream_here", "_law_row", "_law_levels"] (spS Pre_turned Post_turned) := by
  refine fn_s T.d_law_turned.F sc_law_turned (fun ds ⟨_, _, _, h, _⟩ => by rw [h]; rfl) (fun cdv A outer s H E hr S ds hp => ?_)
  obtain ⟨f0, os, ls, rfl, v0', hne, h13, hv', hl1, hl12⟩ := hp
  -- the letters of whatever order is asked for
  obtain ⟨f, v0, hv, hgo⟩ : ∃ f : Ord, V0 f ∧ (∀ o ∈ os, V2 f o) ∧ ∀ d, Fin2 f ls.length d → Post_turned [.tup (os.map ordD), tI ls] d := by
    refine ⟨f0, v0', hv', fun d ⟨x, y, e, hx, hy⟩ f os' ls' e1 vf hv2 => ?_⟩
    have e2 : os.map ordD = os'.map ordD := by
      injection e1 with e1
      injection e1
    have e3 : tI ls = tI ls' := by
      injection e1 with _ e1
      injection e1
    have e4 := ords_inj e2
    have e5 := tI_inj e3
    subst e4 e5
    obtain ⟨o, ho⟩ : ∃ o, o ∈ os := ⟨os.head hne, List.head_mem hne⟩
    have v12 : V2 f f0 := (hv2 o ho).trans (hv' o ho).symm
    refine ⟨x, y, e, ?_, hy⟩
    rcases hx with ⟨qs, rfl, h1, h2⟩ | ⟨xs, rfl, h1, h2, h3⟩ | h | h
    · exact .inl ⟨qs, rfl, fun q hq => v12.trans (h1 q hq), h2⟩
    · exact .inr (.inl ⟨xs, rfl, h1, fun q hq => v12.trans (h2 q hq), h3⟩)
    · exact .inr (.inr (.inl h))
    · exact .inr (.inr (.inr h))
  have hp0 := len_pos hne
  have hY : ValY ls.length (tI ls) := .inl ⟨ls, rfl, rfl⟩
  have hX : VT f 13 (.tup (os.map ordD)) := ⟨os, rfl, hv, h13⟩
  have cutV : ∀ a b, VT f 13 (.tup (cut (os.map ordD) a b)) := fun a b => by
    obtain ⟨qs, e, h1, h2⟩ := VT.cut hv a b
    exact ⟨qs, e, h1, by omega⟩
  refine (rs_let (i := 3) sc_law_turned.nd rfl (Or.inl rfl) (r_draw (m := (os.map ordD).length) (by rw [List.length_map]; exact hp0) (by rw [List.length_map]; omega) (pe_call (ok_law_next T) (hr.mono (by decide)) (by rfl) T.d_law_next.g T.d_law_next.F.kp T.d_law_next.b .nil pass0 (ra_cons (r_pure (g_var rfl (pv 0))) (ra_cons (r_pure (g_lenT (by rfl) T.z_len (g_var rfl (pv 1)))) ra_nil)))) (fun d hd => ?_))
  obtain ⟨k, hk, rfl⟩ := hd
  rw [List.length_map] at hk
  refine (rs_let (i := 4) sc_law_turned.nd rfl (Or.inl rfl) (r_draw (m := 13) (by decide) (by decide) (pe_call (ok_law_next T) (hr.mono (by decide)) (by rfl) T.d_law_next.g T.d_law_next.F.kp T.d_law_next.b .nil pass0 (ra_cons (r_pure (g_var rfl (pv 0))) (ra_cons (r_pure g_int) ra_nil)))) (fun d hd => ?_))
  obtain ⟨p, hp, rfl⟩ := hd
  have mem : ∀ i, i < os.length → os.getD i default ∈ os := fun i hi => by
    rw [List.getD_eq_getElem?_getD, List.getElem?_eq_getElem hi]
    exact List.getElem_mem hi
  have vk := hv _ (mem k hk)
  have vL : ∀ d, (d = tI ls) → ValY ls.length d := fun d h => h ▸ hY
  have vV : ∀ {m : Nat}, m ≤ 900 → ∀ d, VT f m d → ValX f d := fun hm d h => h.val hm
  refine (rs_if (Cmp.t (g_eqI (g_var rfl (pv 4)) g_int)) (fun c1 => (rs_ret (r_fin (r_catV (r_is (g_slT (g_var rfl (pv 1)) g_o0 (g_o1 (g_var rfl (pv 3)))) (cutV _ _)) (r_is (g_slT (g_var rfl (pv 1)) (g_o1 (g_add (g_var rfl (pv 3)) g_int)) g_o0) (cutV _ _)) (by decide) (by decide)) (r_pure (g_var rfl (pv 2))) (vV (by decide)) vL) hgo)) (fun c1 => 
    (rs_if (Cmp.t (g_eqI (g_var rfl (pv 4)) g_int)) (fun c2 => (rs_ret (r_fin (r_catV (r_is (g_slT (g_var rfl (pv 1)) g_o0 (g_o1 (g_add (g_var rfl (pv 3)) g_int))) (cutV _ _)) (r_is (g_slT (g_var rfl (pv 1)) (g_o1 (g_var rfl (pv 3))) g_o0) (cutV _ _)) (by decide) (by decide)) (r_pure (g_var rfl (pv 2))) (vV (by decide)) vL) hgo)) (fun c2 => 
    (rs_if (Cmp.t (g_eqI (g_var rfl (pv 4)) g_int)) (fun c3 => (rs_ret (r_fin (r_is (P := VT f 13) (g_back (g_var rfl (pv 1))) ?b3) (r_pure (g_var rfl (pv 2))) (vV (by decide)) vL) hgo)) (fun c3 => 
    (rs_if (gt_w (gw_and (Cmp.t (g_eqI (g_var rfl (pv 4)) g_int)) (fun h4 => (gw_and1 (Cmp.t (g_gt (g_lenT (ds := (os.getD k default).1.map D.str) (by rfl) T.z_len (g_ixT rfl (g_ixT (at_getD (f := ordD) (ls := os) (i := k) default rfl hk) (g_var rfl (pv 1)) (g_var rfl (pv 3)) (fun _ _ => rfl)) g_int (fun _ _ => rfl))) g_int)))))) (fun c5 => ?b4) (fun c5 => 
    (rs_if (gt_w (gw_and (Cmp.t (g_eqI (g_var rfl (pv 4)) g_int)) (fun h6 => (gw_and1 (Cmp.t (g_gt (g_lenT (ds := (os.getD k default).1.map D.str) (by rfl) T.z_len (g_ixT rfl (g_ixT (at_getD (f := ordD) (ls := os) (i := k) default rfl hk) (g_var rfl (pv 1)) (g_var rfl (pv 3)) (fun _ _ => rfl)) g_int (fun _ _ => rfl))) g_int)))))) (fun c7 => ?b5) (fun c7 => 
    (rs_if (gt_w (gw_and (Cmp.t (g_eqI (g_var rfl (pv 4)) g_int)) (fun h8 => (gw_and1 (Cmp.t (g_gt (g_lenT (ds := (os.getD k default).1.map D.str) (by rfl) T.z_len (g_ixT rfl (g_ixT (at_getD (f := ordD) (ls := os) (i := k) default rfl hk) (g_var rfl (pv 1)) (g_var rfl (pv 3)) (fun _ _ => rfl)) g_int (fun _ _ => rfl))) g_int)))))) (fun c9 => ?b6) (fun c9 => 
    (rs_if (Cmp.t (g_eqI (g_var rfl (pv 4)) g_int)) (fun c10 => ?b7) (fun c10 => 
    (rs_if (Cmp.t (g_gt (g_var rfl (pv 4)) g_int)) (fun c11 => ?b8) (fun c11 => 
    (rs_if (Cmp.t (g_eqI (g_var rfl (pv 4)) g_int)) (fun c12 => ?b9) (fun c12 => 
    (rs_if (Cmp.t (g_eqI (g_var rfl (pv 4)) g_int)) (fun c13 => ?b10) (fun c13 => 
    (rs_if (Cmp.t (g_eqI (g_var rfl (pv 4)) g_int)) (fun c14 => ?b11) (fun c14 => 
    (rs_ret (r_fin (r_is (P := VT f 13) (g_var rfl (pv 1)) hX) (r_pure (g_var rfl (pv 2))) (vV (by decide)) vL) hgo)))))))))))))))))))))))
  case b3 => exact ⟨os.reverse, by rw [List.map_reverse], fun o ho => hv o (List.mem_reverse.mp ho), by rw [List.length_reverse]; exact h13⟩
  case b4 =>
    have h2 : 2 ≤ (os.getD k default).1.length := by
      have := (Bool.and_eq_true_iff.mp c5).2
      have := of_decide_eq_true this
      rw [List.length_map] at this
      omega
    refine rs_let (i := 5) sc_law_turned.nd rfl (Or.inl rfl) (r_putrule vk.vo (pe_call (ok_law_put T) (hr.mono (by decide)) (by rfl) T.d_law_put.g T.d_law_put.F.kp T.d_law_put.b .nil pass0 (ra_cons (r_pure (g_ixT (at_getD (f := ordD) (ls := os) (i := k) default rfl hk) (g_var rfl (pv 1)) (g_var rfl (pv 3)) (fun _ _ => rfl))) (ra_cons (r_rule vk.v2 h2 (pe_call (ok_law_rule T) (hr.mono (by decide)) (by rfl) T.d_law_rule.g T.d_law_rule.F.kp T.d_law_rule.b .nil pass0 (ra_cons (r_pure (g_var rfl (pv 0))) (ra_cons (r_pure (g_ixT (at_getD (f := ordD) (ls := os) (i := k) default rfl hk) (g_var rfl (pv 1)) (g_var rfl (pv 3)) (fun _ _ => rfl))) (ra_cons (r_pure (g_n (g_lst ga_nil (by simp)))) ra_nil))))) ra_nil)))) (fun d hd => ?_)
    obtain ⟨q, rfl, vq⟩ := hd
    refine rs_ret (r_fin (r_catV (r_catV (r_imp (P' := VT f 13) (r_slTo (g_var rfl (pv 1)) (r_imp (r_add (r_pure (g_var rfl (pv 3))) (r_draw (m := 2) (by decide) (by decide) (pe_call (ok_law_next T) (hr.mono (by decide)) (by rfl) T.d_law_next.g T.d_law_next.F.kp T.d_law_next.b .nil pass0 (ra_cons (r_pure (g_var rfl (pv 0))) (ra_cons (r_pure g_int) ra_nil)))) ?q2 ?q3) ?q4)) ?q5) (r_one (r_is (P := fun d => ∃ q : Ord, d = ordD q ∧ V2 f q) (g_var rfl (pv 5)) ⟨q, rfl, vq.v2 v0⟩)) (by decide) (by decide)) (r_is (g_slT (g_var rfl (pv 1)) (g_o1 (g_add (g_var rfl (pv 3)) g_int)) g_o0) (cutV _ _)) (by decide) (by decide)) (r_pure (g_var rfl (pv 2))) (vV (by decide)) vL) hgo
    case q2 => exact fun d h => ⟨_, h⟩
    case q3 =>
      rintro d ⟨j, _, e⟩
      exact ⟨_, e⟩
    case q4 =>
      rintro d ⟨i, j, e1, ⟨j', hj, e2⟩, e3⟩
      have e1 : i = (k : Nat) := by
        injection e1 with e
        injection e
      have e2 : j = (j' : Nat) := by
        injection e2 with e
        injection e
      exact ⟨k + j', by rw [e3, e1, e2]; rfl⟩
    case q5 =>
      rintro d ⟨j, rfl⟩
      exact cutV _ _
  case b5 =>
    have h2 : 2 ≤ (os.getD k default).1.length := by
      have := (Bool.and_eq_true_iff.mp c7).2
      have := of_decide_eq_true this
      rw [List.length_map] at this
      omega
    refine rs_let (i := 5) sc_law_turned.nd rfl (Or.inl rfl) (r_putrule vk.vo (pe_call (ok_law_put T) (hr.mono (by decide)) (by rfl) T.d_law_put.g T.d_law_put.F.kp T.d_law_put.b .nil pass0 (ra_cons (r_pure (g_ixT (at_getD (f := ordD) (ls := os) (i := k) default rfl hk) (g_var rfl (pv 1)) (g_var rfl (pv 3)) (fun _ _ => rfl))) (ra_cons (r_rule vk.v2 h2 (pe_call (ok_law_rule T) (hr.mono (by decide)) (by rfl) T.d_law_rule.g T.d_law_rule.F.kp T.d_law_rule.b .nil pass0 (ra_cons (r_pure (g_var rfl (pv 0))) (ra_cons (r_pure (g_ixT (at_getD (f := ordD) (ls := os) (i := k) default rfl hk) (g_var rfl (pv 1)) (g_var rfl (pv 3)) (fun _ _ => rfl))) (ra_cons (r_pure (g_n (g_lst ga_nil (by simp)))) ra_nil))))) ra_nil)))) (fun d hd => ?_)
    obtain ⟨q, rfl, vq⟩ := hd
    exact rs_ret (r_fin (r_catV (r_catV (r_is (g_slT (g_var rfl (pv 1)) g_o0 (g_o1 (g_add (g_var rfl (pv 3)) g_int))) (cutV _ _)) (r_one (r_is (P := fun d => ∃ q : Ord, d = ordD q ∧ V2 f q) (g_var rfl (pv 5)) ⟨q, rfl, vq.v2 v0⟩)) (by decide) (by decide)) (r_is (g_slT (g_var rfl (pv 1)) (g_o1 (g_var rfl (pv 3))) g_o0) (cutV _ _)) (by decide) (by decide)) (r_pure (g_var rfl (pv 2))) (vV (by decide)) vL) hgo
  case b6 =>
    have vh := hv _ (mem (k - 1) (by omega))
    have h2 : 2 ≤ (os.getD (k - 1) default).1.length := by
      have := (Bool.and_eq_true_iff.mp c9).2
      have := of_decide_eq_true this
      rw [List.length_map, vk.p.length_eq] at this
      rw [vh.p.length_eq]
      omega
    refine rs_pure (p_asg (d := ordD (os.getD (k - 1) default)) (i := 6) sc_law_turned.nd rfl (Or.inl rfl) (g_ixT (at_getD (f := ordD) (ls := os) (i := k - 1) default ?z (by omega)) (g_var rfl (pv 1)) (g_max2 rfl (by rfl) T.z_max g_int (g_sub (g_var rfl (pv 3)) g_int)) (fun _ _ => rfl))) 
      (rs_ret (r_fin (r_catV (r_catV (r_is (g_slT (g_var rfl (pv 1)) g_o0 (g_o1 (g_var rfl (pv 3)))) (cutV _ _)) (r_one (r_imp (r_putrule vh.vo (pe_call (ok_law_put T) (hr.mono (by decide)) (by rfl) T.d_law_put.g T.d_law_put.F.kp T.d_law_put.b .nil pass0 (ra_cons (r_pure (g_var rfl (pv 6))) (ra_cons (r_rule vh.v2 h2 (pe_call (ok_law_rule T) (hr.mono (by decide)) (by rfl) T.d_law_rule.g T.d_law_rule.F.kp T.d_law_rule.b .nil pass0 (ra_cons (r_pure (g_var rfl (pv 0))) (ra_cons (r_pure (g_var rfl (pv 6))) (ra_cons (r_pure (g_n (g_lst ga_nil (by simp)))) ra_nil))))) ra_nil)))) ?q)) (by decide) (by decide)) (r_is (g_slT (g_var rfl (pv 1)) (g_o1 (g_add (g_var rfl (pv 3)) g_int)) g_o0) (cutV _ _)) (by decide) (by decide)) (r_pure (g_var rfl (pv 2))) (vV (by decide)) vL) hgo)
    case z => omega
    case q =>
      rintro d ⟨q, rfl, vq⟩
      exact ⟨q, rfl, vq.v2 v0⟩
  case b7 =>
    refine rs_ret (r_fin (r_catV (r_catV (r_is (g_slT (g_var rfl (pv 1)) g_o0 (g_o1 (g_var rfl (pv 3)))) (cutV _ _)) (r_one (r_imp (r_order (P := P) (w := w) (K := K) (mg := mg) vk.v2.nd vk.v2.ok vk.v2.one vk.v2.le (pe_call (ok_law_order T) (hr.mono (by decide)) (by rfl) T.d_law_order.g T.d_law_order.F.kp T.d_law_order.b .nil pass0 (ra_cons (r_pure (g_var rfl (pv 0))) (ra_cons (r_pure (g_n (g_listT (ds := (os.getD k default).1.map D.str) (by rfl) T.z_list (g_ixT rfl (g_ixT (at_getD (f := ordD) (ls := os) (i := k) default rfl hk) (g_var rfl (pv 1)) (g_var rfl (pv 3)) (fun _ _ => rfl)) g_int (fun _ _ => rfl))))) ra_nil)))) ?q7)) (by decide) (by decide)) (r_is (g_slT (g_var rfl (pv 1)) (g_o1 (g_add (g_var rfl (pv 3)) g_int)) g_o0) (cutV _ _)) (by decide) (by decide)) (r_pure (g_var rfl (pv 2))) (vV (by decide)) vL) hgo
    case q7 =>
      rintro d ⟨q, rfl, vq⟩
      exact ⟨q, rfl, v0, vq.v, vq.p.trans vk.p⟩
  case b8 =>
    obtain ⟨a, ha⟩ : ∃ a, os.head? = some a := by
      cases os with
      | nil => exact absurd rfl hne
      | cons x l => exact ⟨x, rfl⟩
    obtain ⟨z, hz⟩ : ∃ z, os.getLast? = some z := ⟨_, List.getLast?_eq_some_getLast hne⟩
    have va : V2 f a := hv a (List.mem_of_mem_head? (by rw [ha]; rfl))
    have vz : V2 f z := hv z (List.mem_of_getLast? hz)
    have vza : V2 z a := vz.symm.trans va
    have wf := way_f vza
    refine rs_ret (r_fin (r_is (P := VT f 13) (g_back (ds := (runs z (wayRs z a)).map ordD) (g_call (pe_call (ok_way T) (hr.mono (by decide)) (by rfl) T.d_way.g T.d_way.F.kp T.d_way.b .nil pass0 (ga_cons (g_ixT (at_last hz) (g_var rfl (pv 1)) (g_neg g_int) (fun _ _ => rfl)) (ga_cons (g_ixT (head_at ha) (g_var rfl (pv 1)) g_int (fun _ _ => rfl)) ga_nil))) ⟨z, a, rfl, vza, wf.ris, wf.good, rfl⟩)) ?q8) (r_pure (g_var rfl (pv 2))) (vV (by decide)) vL) hgo
    exact ⟨(runs z (wayRs z a)).reverse, by rw [List.map_reverse], fun o ho => vz.trans (wf.v2 o (List.mem_reverse.mp ho)), by rw [List.length_reverse]; exact wf.le⟩
  case b9 =>
    refine rs_ret (r_fin (r_is (P := VT f 13) (g_var rfl (pv 1)) hX) (r_tupN (by rfl) T.z_tuple (r_lc (xs := ls) (emb := D.int) (fun d => ∃ z : Int, d = .int z) rfl sc_law_turned.nd (gi_tup (g_var rfl (pv 2))) (blkOk_by (own := [("_law_one", 7)]) (N := N_law_turned) (sc := defScope s_law_turned) (by decide +kernel)) (fun _ _ _ _ _ => pg_name (i := 7) sc_law_turned.nd rfl (Or.inl rfl)) (fun x hx => ga_nameW (by simp)) (fun _ _ _ _ _ x hx => r_imp (r_add (r_pure g_int) (r_draw (m := (ls.map D.int).length) (by rw [List.length_map]; omega) (by rw [List.length_map]; omega) (pe_call (ok_law_next T) (hr.mono (by decide)) (by rfl) T.d_law_next.g T.d_law_next.F.kp T.d_law_next.b .nil pass0 (ra_cons (r_pure (g_var rfl (pv 0))) (ra_cons (r_pure (g_lenT (by rfl) T.z_len (g_var rfl (pv 2)))) ra_nil)))) ?q2 ?q3) ?q4) (hw1 rfl) (by omega))) (vV (by decide)) ?q5) hgo
    case q2 => exact fun d h => ⟨_, h⟩
    case q3 =>
      rintro d ⟨j, _, e⟩
      exact ⟨_, e⟩
    case q4 =>
      rintro d ⟨i, j, _, _, e3⟩
      exact ⟨_, e3⟩
    case q5 =>
      rintro d ⟨es, rfl, h1, h2⟩
      have key : ∀ es : List D, (∀ d ∈ es, ∃ z : Int, d = .int z) → ∃ zs : List Int, es = zs.map D.int := by
        intro es
        induction es with
        | nil => exact fun _ => ⟨[], rfl⟩
        | cons d es ih =>
          intro h
          obtain ⟨zs, e⟩ := ih fun d hd => h d (List.mem_cons_of_mem _ hd)
          obtain ⟨z, e2⟩ := h d (by simp)
          exact ⟨z :: zs, by rw [e, e2]; rfl⟩
      obtain ⟨zs, rfl⟩ := key es h2
      rw [List.length_map] at h1
      exact .inl ⟨zs, rfl, h1⟩
  case b10 =>
    refine rs_ret (r_fin (r_is (P := VT f 13) (g_var rfl (pv 1)) hX) (r_pure (g_tupL (by rfl) T.z_tuple (g_nl (g_lc (xs := ls) (emb := D.int) (fun x => D.int (x + 1)) rfl sc_law_turned.nd (gi_tup (g_var rfl (pv 2))) (blkOk_by (own := [("_law_one", 7)]) (N := N_law_turned) (sc := defScope s_law_turned) (by decide +kernel)) (fun _ _ _ _ _ => pg_name (i := 7) sc_law_turned.nd rfl (Or.inl rfl)) (fun x hx => ga_nameW (by simp)) (fun _ _ _ _ _ x hx => (g_add (g_var rfl (pv 7)) g_int)) (hw1 rfl) (by omega))))) (vV (by decide)) ?q5) hgo
    rintro d rfl
    refine .inl ⟨ls.map (· + 1), ?_, by rw [List.length_map]⟩
    show D.tup _ = D.tup _
    rw [List.map_map]
    rfl
  case b11 =>
    refine rs_ret (r_ixL (g_n (g_lst (ga_cons (g_tup (ga_cons (g_n (g_listT (by rfl) T.z_list (g_var rfl (pv 1)))) (ga_cons (g_var rfl (pv 2)) ga_nil)) (by simp)) (ga_cons (g_tup (ga_cons (g_var rfl (pv 1)) (ga_cons (g_n (g_listT (by rfl) T.z_list (g_var rfl (pv 2)))) ga_nil)) (by simp)) (ga_cons (g_tup (ga_cons (g_tup ga_nil (by simp)) (ga_cons (g_var rfl (pv 2)) ga_nil)) (by simp)) (ga_cons (g_tup (ga_cons g_non (ga_cons (g_var rfl (pv 2)) ga_nil)) (by simp)) (ga_cons (g_tup (ga_cons (g_var rfl (pv 1)) (ga_cons g_non ga_nil)) (by simp)) (ga_cons (g_tup (ga_cons (g_catT ?g87 (g_var rfl (pv 1)) (g_tup (ga_cons g_non ga_nil) (by simp))) (ga_cons (g_var rfl (pv 2)) ga_nil)) (by simp)) ga_nil)))))) (by simp))) (r_draw (m := 6) (by decide) (by decide) (pe_call (ok_law_next T) (hr.mono (by decide)) (by rfl) T.d_law_next.g T.d_law_next.F.kp T.d_law_next.b .nil pass0 (ra_cons (r_pure (g_var rfl (pv 0))) (ra_cons (r_pure g_int) ra_nil)))) (fun _ _ => rfl)) ?q11
    case g87 =>
      rw [List.length_map]
      simp
      omega
    case q11 =>
      intro d hd
      apply hgo
      have hX' := hX.val (by decide)
      simp only [List.mem_cons, List.not_mem_nil, or_false] at hd
      rcases hd with rfl | rfl | rfl | rfl | rfl | rfl
      · exact ⟨_, _, rfl, .inr (.inr (.inl ⟨_, rfl⟩)), hY⟩
      · exact ⟨_, _, rfl, hX', .inr (.inl ⟨_, rfl⟩)⟩
      · exact ⟨_, _, rfl, .inl ⟨[], rfl, fun o ho => by simp at ho, by simp⟩, hY⟩
      · exact ⟨_, _, rfl, .inr (.inr (.inr rfl)), hY⟩
      · exact ⟨_, _, rfl, hX', .inr (.inr rfl)⟩
      · refine ⟨_, _, rfl, .inr (.inl ⟨os.map some ++ [none], ?_, by simp, fun o ho => ?_, ?_⟩), hY⟩
        · rw [List.map_append, List.map_map]
          rfl
        · rcases List.mem_append.mp ho with z | z
          · obtain ⟨q, hq, e⟩ := List.mem_map.mp z
            have e : q = o := by injection e
            exact e ▸ hv q hq
          · have := List.mem_singleton.mp z
            cases this
        · rw [List.length_append, List.length_map]
          simp
          omega
end
end Ga
/-! the law -/
namespace Ga
open PySem PySem.Spec PyProof.Rows L2 Mi
section
variable {S : SI} {X : Cx} {Γ : Ctx} {e : Expr} {pos : Pos} {P : D → Prop} {sts rest : List Stmt} {d : D} {o : OutS}
theorem rs_tail (h : PSs X sts (sG Γ (.rt d))) (hp : P d) : PSs X sts (sR S Γ (.rt P)) :=
  wkSs h fun D σ H ⟨B0, H0, B, k, q⟩ => by
    obtain ⟨a, b, kk⟩ := k.k
    refine ⟨B0, _, B, kk, fun v B' H' g r => q d v B' H' hp ⟨g.kb, fun x o h => ?_, same_rm g.le (g.fr _ _ upd_same k.b0), fun x o h hn => ?_⟩ ⟨k.ne, g.kh _ _ (by rw [upd_ne k.ne]; exact k.sc), a, b, g.kh _ _ upd_same⟩ r⟩
    · have e := ne_of_none h k.h0
      rw [rm_ne e]
      exact g.kh x o (by rw [upd_ne e]; exact h)
    · have e := ne_of_none h k.h0
      exact g.fr x o (by rw [upd_ne e]; exact h) hn
theorem rs_unp {i j : Nat} {tg : Expr} (he : PE X e (tR S Γ P)) (hg : PG X tg (gTup X.K 2 (gCons (gName i) (gCons (gName j) gNil)))) (hP : ∀ d, P d → ∃ x y, d = .tup [x, y])
    (hr : ∀ x y, P (.tup [x, y]) → PSs X rest (sR S ((Γ.set i (.d x)).set j (.d y)) o)) (hs : swapsWithSole [tg] e pos.line X.env = pure false := by rfl) (hw : swappedStores [tg] e X.env = pure none := by rfl) (h1 : (assignEach [tg] X.env).map (·.2) = [assign tg X.env] := by rfl) :
    PSs X (.Assign [tg] e pos :: rest) (sR S Γ o) := by
  have hr' : PSs X rest (fun D σ H => ∃ x y, P (.tup [x, y]) ∧ sR S ((Γ.set i (.d x)).set j (.d y)) o D σ H) := ⟨fun pins s σ H D I ⟨x, y, p, q⟩ => (hr x y p).run pins s σ H D I q⟩
  refine wkSs (pss_cons (ps_asg he hg hs hw h1) hr') fun D σ H ⟨B0, H0, B, k, q⟩ => ⟨B0, H0, B, k, fun d v B' H' p g r => ?_⟩
  obtain ⟨x, y, rfl⟩ := hP d p
  have k1 := k.gs g
  obtain ⟨a, b, kk⟩ := k1.k
  exact ga_tup2 v σ B0 _ B' H' _ kk r fun σ' k' _ => ⟨x, y, p, B0, H0, B', ⟨k.sc, k.h0, k.b0, a, b, k'⟩, q⟩
end
section
variable {X : Cx} {Γ Γ1 : Ctx} {c : Expr} {b : Bool} {body : List Stmt} {pos : Pos}
theorem p_if (hc : PT X c (tB Γ b)) (h1 : b = true → PSs X body (sG Γ (.nx Γ1))) (h2 : b = false → subC Γ1 Γ) : PS X (.If c body [] pos) (sG Γ (.nx Γ1)) := by
  cases b with
  | true => exact wkS (ps_if hc (h1 rfl) pss_never) fun D σ H ⟨B0, H0, B, k, q⟩ => ⟨B0, H0, B, k, fun B' H' g => iteT ⟨B0, H0, B', k.grow g, q⟩⟩
  | false => exact wkS (ps_if hc pss_never pss_nil) fun D σ H ⟨B0, H0, B, k, q⟩ => ⟨B0, H0, B, k, fun B' H' g => iteF (q σ B' H' ((k.grow g).sub (h2 rfl)))⟩
end
section
variable {P : Program} {w : World} {K : PySem.W.Frag} {mg : Str → Option Value} {base : Heap}
def spStream (K : PySem.W.Frag) : Sp := fun vs H Q _ => ∃ (a : Addr) (ns : List Int), vs = [.ref a] ∧ SqL K H a (ns.map V.int) ∧ ∀ sc st H', sc ≠ st → H' sc = some (.lst (ns.map V.int)) → H' st = some (.lst [.ref sc, .int 0, .int 0]) → Q (.ref st) H'
theorem ok_law_stream (T : Top K mg) : FnOk P w K mg base CX0 1 T.d_law_stream.f T.d_law_stream.fd ["_law_script"] (spStream K) := by
  refine T.d_law_stream.F.ok sc_law_stream (fun vs H Q E ⟨a, ns, e, _⟩ => by rw [e]; rfl) (fun cdv A outer s H vs Q E hr ⟨a, ns, e, hS, q⟩ => ?_)
  subst e
  refine ⟨_, pss_cons (ps_ret (pe_lst (pa_cons (pe_callTy call_list_of (by rfl) T.z_list (by decide +kernel) (pa_cons (pv 0) pa_nil)) (pa_cons pe_int (pa_cons pe_int pa_nil))))) pss_never, .ref a, rfl, a, ns.map V.int, rfl, .inl hS, fun l nl => ⟨Nat.le_of_lt (small1000 (by simp)), fun p np => q l p _ ?_ ?_ upd_same⟩⟩
  · intro z
    subst z
    rw [upd_same] at np
    cases np
  · have z : l ≠ p := fun z => by
      subst z
      rw [upd_same] at np
      cases np
    rw [upd_ne z, upd_same]
def spLaw (K : PySem.W.Frag) : Sp := fun vs H Q _ => ∃ (a : Addr) (ns : List Int), vs = [.ref a] ∧ SqL K H a (ns.map V.int) ∧ ∀ H', Q (.bl true) H'
theorem ok_law (T : Top K mg) : FnOk P w K mg base CX0 9 T.d_law.f T.d_law.fd ["_law_script"] (spLaw K) := by
  refine T.d_law.F.ok sc_law (fun vs H Q E ⟨a, ns, e, _⟩ => by rw [e]; rfl) (fun cdv A outer s H vs Q E hr ⟨a, ns, e, hS, q⟩ => ?_)
  subst e
  have main : ∀ S : SI, PSs (Bx P w K mg base N_law "law" s_law T.d_law.f cdv A outer s H E) ((defBody s_law).drop 1) (sR S [.any, .d (.v (.ref S.st)), .any, .any, .any, .any, .any, .any, .any, .any, .any, .any] (.rt (· = .bl true))) := fun S => by
    refine (rs_let (i := 2) sc_law.nd rfl (Or.inl rfl) (r_imp (P' := fun d => ∃ (ls : List Str) (os : List Ord), d = .tup (os.map ordD) ∧ os ≠ [] ∧ os.length ≤ 4 ∧ ∀ o ∈ os, VO ls o) (r_callS (pe_call (ok_law_some_path T) (hr.mono (by decide)) (by rfl) T.d_law_some_path.g T.d_law_some_path.F.kp T.d_law_some_path.b .nil pass0 (ra_cons (r_pure (g_var rfl (pv 1))) (ra_cons (r_pure g_int) (ra_cons (r_pure g_int) ra_nil)))) ?p1) ?p2) (fun d hd => ?_))
    case p1 =>
      rintro ds ⟨d, ds', rfl, rfl, d2, ds2, rfl, rfl, d3, ds3, rfl, rfl, rfl⟩
      exact ⟨_, rfl, rfl⟩
    case p2 =>
      rintro d ⟨es, _, h⟩
      exact h
    obtain ⟨ls, os, rfl, hne, h4, hv⟩ := hd
    obtain ⟨f, hf⟩ : ∃ f, os.head? = some f := by
      cases os with
      | nil => exact absurd rfl hne
      | cons x l => exact ⟨x, rfl⟩
    obtain ⟨s', hs'⟩ : ∃ z, os.getLast? = some z := ⟨_, List.getLast?_eq_some_getLast hne⟩
    have vf := hv f (List.mem_of_mem_head? (by rw [hf]; rfl))
    have vs := hv s' (List.mem_of_getLast? hs')
    have v : V2 f s' := ⟨vf.v, vs.v, vs.p.trans vf.p.symm⟩
    have wf := way_f v
    obtain ⟨lr, lt⟩ := levs_right v
    have hn := v.pos
    have hz := v.v2.le
    have hlen := v.len
    have wl := wf.len
    have fe : far f s' = ((s'.1.length : Nat) : Int) - top (link f s') s'.1.length := rfl
    have rowW : RowV f s' (.tup ((runs f (wayRs f s')).map ordD)) true := ⟨f, s', v, .inl ⟨_, rfl, wf.v2, by have := wf.le; omega, by rw [wf.row]⟩⟩
    have levW : LevV f s' (tI (levs (link f s') s'.1.length)) true := ⟨f, s', v, .inl ⟨_, rfl, levs_len, by rw [lr]⟩⟩
    have ok1 : (true && true && decide (lenD (.tup ((runs f (wayRs f s')).map ordD)) - 1 + maxD (tI (levs (link f s') s'.1.length)) = (f.1.length : Nat))) = true := by
      rw [maxD_tI, lt]
      simp only [lenD, List.length_map, Bool.true_and, decide_eq_true_eq]
      omega
    refine (rs_pure (p_asg (i := 3) sc_law.nd rfl (Or.inl rfl) (g_ixT (head_at hf) (g_var rfl (pv 2)) g_int (fun _ _ => rfl))) 
      (rs_pure (p_asg (i := 4) sc_law.nd rfl (Or.inl rfl) (g_ixT (at_last hs') (g_var rfl (pv 2)) (g_neg g_int) (fun _ _ => rfl))) 
      (rs_pure (p_asg (d := .tup ((runs f (wayRs f s')).map ordD)) (i := 5) sc_law.nd rfl (Or.inl rfl) (g_call (pe_call (ok_way T) (hr.mono (by decide)) (by rfl) T.d_way.g T.d_way.F.kp T.d_way.b .nil pass0 (ga_cons (g_var rfl (pv 3)) (ga_cons (g_var rfl (pv 4)) ga_nil))) ⟨f, s', rfl, v, wf.ris, wf.good, rfl⟩)) 
      (rs_pure (p_asg (d := tI (levs (link f s') s'.1.length)) (i := 6) sc_law.nd rfl (Or.inl rfl) (g_call (pe_call (ok_levels_for T) (hr.mono (by decide)) (by rfl) T.d_levels_for.g T.d_levels_for.F.kp T.d_levels_for.b .nil pass0 (ga_cons (g_var rfl (pv 3)) (ga_cons (g_var rfl (pv 4)) ga_nil))) ⟨f, s', rfl, v, rfl⟩)) 
      (rs_if (Cmp.t (g_nisB (g_call (d := .bl true) (pe_call (ok_is_shortest_row T) (hr.mono (by decide)) (by rfl) T.d_is_shortest_row.g T.d_is_shortest_row.F.kp T.d_is_shortest_row.b .nil pass0 (ga_cons (g_var rfl (pv 3)) (ga_cons (g_var rfl (pv 4)) (ga_cons (g_var rfl (pv 5)) (ga_cons (g_var rfl (pv 6)) ga_nil))))) ⟨f, s', _, _, true, true, rfl, v, rowW, levW, by rw [ok1]⟩) g_bl)) (fun c1 => by simp at c1) (fun c1 => 
      (rs_unp (i := 7) (j := 8) (r_imp (P' := Fin2 f s'.1.length) (r_callS (pe_call (ok_law_turned T) (hr.mono (by decide)) (by rfl) T.d_law_turned.g T.d_law_turned.F.kp T.d_law_turned.b .nil pass0 (ra_cons (r_pure (g_var rfl (pv 1))) (ra_cons (r_pure (g_var rfl (pv 5))) (ra_cons (r_pure (g_var rfl (pv 6))) ra_nil)))) ?t1) ?t2) (pg_tup rfl (pgs_cons (pg_name (i := 7) sc_law.nd rfl (Or.inl rfl)) (pgs_cons (pg_name (i := 8) sc_law.nd rfl (Or.inl rfl)) pgs_nil))) ?t3 (fun x y hxy => rs_tail ?fin rfl))))))))
    case t1 =>
      rintro ds ⟨d, ds', rfl, rfl, d2, ds2, rfl, rfl, d3, ds3, rfl, rfl, rfl⟩
      refine ⟨_, rfl, f, runs f (wayRs f s'), levs (link f s') s'.1.length, rfl, v.v1, fun z => ?_, wf.le, wf.v2, ?_, ?_⟩
      · rw [z] at wl
        have := far_pos v.two hn
        simp at wl
        omega
      · rw [levs_len]
        exact hn
      · rw [levs_len]
        exact hz
    case t2 =>
      rintro d ⟨es, ⟨d1, ds', e, h1, d2, ds2, e2, h2, d3, ds3, e3, h3, h4⟩, hpost⟩
      have e5 : es = ds' := by injection e
      rw [e5, e2, h2, e3, h3, h4] at hpost
      have := hpost f (runs f (wayRs f s')) (levs (link f s') s'.1.length) rfl v.v1 wf.v2
      rwa [levs_len] at this
    case t3 =>
      rintro d ⟨x, y, e, _⟩
      exact ⟨x, y, e⟩
    case fin =>
      obtain ⟨x', y', e, hx, hy⟩ := hxy
      have ex : x = x' := by
        injection e with e
        injection e
      have ey : y = y' := by
        injection e with e
        injection e with _ e
        injection e
      subst ex ey
      obtain ⟨b, hb, hb2⟩ := hx.row v
      obtain ⟨c, hc, hc2⟩ := hy.lev v
      obtain ⟨d2, hd2⟩ : ∃ d2, d2 = (b && c && decide (lenD x - 1 + maxD y = (f.1.length : Nat))) := ⟨_, rfl⟩
      refine (s_cons (p_asg (d := .bl (b && c)) (i := 9) sc_law.nd rfl (Or.inl rfl) (g_and (g_call (d := .bl b) (pe_call (ok_law_is_row T) (hr.mono (by decide)) (by rfl) T.d_law_is_row.g T.d_law_is_row.F.kp T.d_law_is_row.b .nil pass0 (ga_cons (g_var rfl (pv 3)) (ga_cons (g_var rfl (pv 4)) (ga_cons (g_var rfl (pv 7)) ga_nil)))) hb) (fun h2 => (g_one (g_call (d := .bl c) (pe_call (ok_law_are_right T) (hr.mono (by decide)) (by rfl) T.d_law_are_right.g T.d_law_are_right.F.kp T.d_law_are_right.b .nil pass0 (ga_cons (g_var rfl (pv 3)) (ga_cons (g_var rfl (pv 4)) (ga_cons (g_var rfl (pv 8)) ga_nil)))) hc))))) 
        (s_cons (p_asg (d := .bl d2) (i := 9) sc_law.nd rfl (Or.inl rfl) ?he) 
        (s_cons (p_if (Γ1 := [.any, .d (.v (.ref S.st)), .d (.tup (os.map ordD)), .d (ordD f), .d (ordD s'), .d (.tup ((runs f (wayRs f s')).map ordD)), .d (tI (levs (link f s') s'.1.length)), .d x, .d y, .d (.bl d2), .any, .any]) (gt_val (g_var rfl (pv 9))) (fun c4 => ?body) (fun c4 => ⟨rfl, rfl, rfl, rfl, rfl, rfl, rfl, rfl, rfl, trivial⟩))
        (s_ret (p_ret (isD_eq (g_call (d := .bl (decide (d2 = d2))) (pe_call (ok_law_equal T) (hr.mono (by decide)) (by rfl) T.d_law_equal.g T.d_law_equal.F.kp T.d_law_equal.b .nil pass0 (ga_cons (g_call (d := .bl d2) (pe_call (ok_is_shortest_row T) (hr.mono (by decide)) (by rfl) T.d_is_shortest_row.g T.d_is_shortest_row.F.kp T.d_is_shortest_row.b .nil pass0 (ga_cons (g_var rfl (pv 3)) (ga_cons (g_var rfl (pv 4)) (ga_cons (g_var rfl (pv 7)) (ga_cons (g_var rfl (pv 8)) ga_nil))))) ⟨f, s', x, y, b, c, rfl, v, hb, hc, by rw [hd2]⟩) (ga_cons (g_var rfl (pv 9)) ga_nil))) ⟨d2, d2, rfl, rfl⟩) (by simp)))))))
      case he =>
        cases hbc : b && c with
        | false => exact isD_eq (g_andF (x := false) (g_var rfl (pv 9)) rfl) (by rw [hd2, hbc]; rfl)
        | true =>
          obtain ⟨hb1, hc1⟩ := Bool.and_eq_true_iff.mp hbc
          obtain ⟨os', rfl, _, _⟩ := hb2 hb1
          obtain ⟨ls', rfl, hl', _⟩ := hc2 hc1
          have hne' : ls' ≠ [] := fun z => by
            rw [z] at hl'
            simp at hl'
            omega
          refine isD_eq (g_and (g_var rfl (pv 9)) (fun h3 => (g_one (Cmp.v (g_eqI (g_add (g_sub (g_lenT (by rfl) T.z_len (g_var rfl (pv 7))) g_int) (g_maxT rfl (hu_of hr) hne' (by rfl) T.z_max (g_var rfl (pv 8)))) (g_lenT (ds := f.1.map D.str) (by rfl) T.z_len (g_ixT rfl (g_var rfl (pv 3)) g_int (fun _ _ => rfl)))))))) ?_
          rw [hd2, hbc, maxD_tI, List.length_map, List.length_map]
          simp only [lenD, List.length_map]
      case body =>
        rw [hd2] at c4
        obtain ⟨hbc, h5⟩ := Bool.and_eq_true_iff.mp c4
        obtain ⟨hb1, hc1⟩ := Bool.and_eq_true_iff.mp hbc
        obtain ⟨os', rfl, hos, hrow⟩ := hb2 hb1
        obtain ⟨ls', rfl, hl', hright⟩ := hc2 hc1
        have h6 := of_decide_eq_true h5
        rw [maxD_tI] at h6
        simp only [lenD, List.length_map] at h6
        have tl := rightL_top v hl' hright
        obtain ⟨r1, r2⟩ := rowP_far v hos hrow (by omega)
        refine (s_cons (p_asg (d := .int (far f s')) (i := 10) sc_law.nd rfl (Or.inl rfl) (g_call (pe_call (ok_law_far T) (hr.mono (by decide)) (by rfl) T.d_law_far.g T.d_law_far.F.kp T.d_law_far.b .nil pass0 (ga_cons (g_var rfl (pv 3)) (ga_cons (g_var rfl (pv 4)) ga_nil))) ⟨f, s', rfl, v, rfl⟩)) 
          (s_ifF (Cmp.t (g_neI (g_sub (g_lenT (by rfl) T.z_len (g_var rfl (pv 7))) g_int) (g_var rfl (pv 10)))) ?c5
          (s_less (s_for (xs := os') (emb := ordD) (fun i => [.any, .d (.v (.ref S.st)), .d (.tup (os.map ordD)), .d (ordD f), .d (ordD s'), .d (.tup ((runs f (wayRs f s')).map ordD)), .d (tI (levs (link f s') s'.1.length)), .d (.tup (os'.map ordD)), .d (tI ls'), .d (.bl d2), .d (.int (far f s')), .any]) (fun i => [.any, .d (.v (.ref S.st)), .d (.tup (os.map ordD)), .d (ordD f), .d (ordD s'), .d (.tup ((runs f (wayRs f s')).map ordD)), .d (tI (levs (link f s') s'.1.length)), .d (.tup (os'.map ordD)), .d (tI ls'), .d (.bl d2), .d (.int (far f s')), .d (ordD (os'.getD i default))]) .never rfl (gi_tup (g_var rfl (pv 7))) (pg_name (i := 11) sc_law.nd rfl (Or.inl rfl)) (fun i hi => gA_eq (ga_name (d := ordD (os'.getD i default))) ?e7) (fun i hi => s_less (s_ifF (Cmp.t (g_neI (g_add (g_call (d := .int (far f (os'.getD i default))) (pe_call (ok_law_far T) (hr.mono (by decide)) (by rfl) T.d_law_far.g T.d_law_far.F.kp T.d_law_far.b .nil pass0 (ga_cons (g_var rfl (pv 3)) (ga_cons (g_var rfl (pv 11)) ga_nil))) ⟨f, _, rfl, ?v1, rfl⟩) (g_call (d := .int (far (os'.getD i default) s')) (pe_call (ok_law_far T) (hr.mono (by decide)) (by rfl) T.d_law_far.g T.d_law_far.F.kp T.d_law_far.b .nil pass0 (ga_cons (g_var rfl (pv 11)) (ga_cons (g_var rfl (pv 4)) ga_nil))) ⟨_, s', rfl, ?v2, rfl⟩)) (g_var rfl (pv 10)))) ?c6
            s_end) ⟨rfl, rfl, rfl, rfl, rfl, rfl, rfl, rfl, rfl, rfl, trivial⟩) ⟨rfl, rfl, rfl, rfl, rfl, rfl, rfl, rfl, rfl, rfl, trivial⟩ 
          s_end) ⟨rfl, rfl, rfl, rfl, rfl, rfl, rfl, rfl, rfl, trivial⟩)))
        case c5 =>
          rw [List.length_map, decide_eq_true r1]
          rfl
        case e7 => rw [List.getD_eq_getElem?_getD, List.getElem?_eq_getElem hi, Option.getD_some]
        case v1 =>
          rw [List.getD_eq_getElem?_getD, List.getElem?_eq_getElem hi, Option.getD_some]
          exact hos _ (List.getElem_mem hi)
        case v2 =>
          rw [List.getD_eq_getElem?_getD, List.getElem?_eq_getElem hi, Option.getD_some]
          exact (hos _ (List.getElem_mem hi)).symm.trans v
        case c6 =>
          rw [List.getD_eq_getElem?_getD, List.getElem?_eq_getElem hi, Option.getD_some, decide_eq_true (r2 _ (List.getElem_mem hi))]
          rfl
  have first : PSs (Bx P w K mg base N_law "law" s_law T.d_law.f cdv A outer s H E) (defBody s_law) (fun D σ H1 => H1 = H ∧ σ = L2.start N_law [V.ref a] ∧ ∀ v H', v = .bl true → D.rt v H') := by
    have rest' : PSs (Bx P w K mg base N_law "law" s_law T.d_law.f cdv A outer s H E) ((defBody s_law).drop 1) (fun D σ H => ∃ S : SI, sR S [.any, .d (.v (.ref S.st)), .any, .any, .any, .any, .any, .any, .any, .any, .any, .any] (.rt (· = .bl true)) D σ H) := ⟨fun pins s σ H D I ⟨S, q⟩ => (main S).run pins s σ H D I q⟩
    refine wkSs (pss_cons (ps_set (i := 1) sc_law.nd rfl (Or.inl rfl) (pe_call (ok_law_stream T) (hr.mono (by decide)) (by rfl) T.d_law_stream.g T.d_law_stream.F.kp T.d_law_stream.b .nil pass0 (pa_cons (pv 0) pa_nil))) rest') fun D σ H1 ⟨e1, e2, qq⟩ => ?_
    subst e1 e2
    refine ⟨.ref a, rfl, a, ns, rfl, hS, fun sc st H' hne h1 h2 => ⟨⟨st, sc, ns⟩, fun _ => none, fun b => if b = sc then some (.lst (ns.map V.int)) else none, fun _ => none, ⟨if_pos rfl, if_neg (fun z => hne z.symm), rfl, 0, 0, ⟨Same.refl _, fun b o hb => ?_, fun b o hb => (by cases hb), fun b o hb hn => rfl⟩, rfl, fun i x hx => ?_, fun i es hx => ?_, fun i j es fs l hx => ?_⟩, fun d v B' H' hd _ _ r => ?_⟩⟩
    · by_cases e : b = st
      · subst e
        rw [upd_same] at hb
        cases hb
        exact h2
      · rw [upd_ne e] at hb
        by_cases e2 : b = sc
        · subst e2
          simp at hb
          rw [h1, hb]
        · simp [e2] at hb
    · rcases i with _ | _ | i
      · cases hx
      · cases hx
        exact ⟨_, rfl, .v _⟩
      · exfalso
        have : ([Sl.any, Sl.any, Sl.any, Sl.any, Sl.any, Sl.any, Sl.any, Sl.any, Sl.any, Sl.any] : Ctx)[i]? = some (.d x) := hx
        have m := List.mem_of_getElem? this
        simp at m
    · exfalso
      have m := List.mem_of_getElem? hx
      simp at m
    · exfalso
      have m := List.mem_of_getElem? hx
      simp at m
    · subst hd
      rw [r.v_inv]
      exact qq _ H' rfl
  exact ⟨_, first, rfl, rfl, fun v H' e => by rw [e]; exact q H'⟩
end
end Ga
/-! What the top has written, from single facts. -/
namespace Ga
open PySem PySem.Spec PyProof.Rows L2 Mi
theorem lk_mk {K : PySem.W.Frag} {x qual : Str} {st : Stmt} {f : Addr} {oc : Value} {od an : Option Addr} {osl : Array (Option Value)} {kV doc pm cdv ct : Value} (l : K.lookup f = some ⟨oc, od, .func (PySem.W.fnOf x qual (defArgs st) (defBody st) (defScope st) .none kV doc pm an cdv ct), osl⟩)
    (c : PySem.W.codeIn K cdv qual = true) (k : PySem.W.keepIn K (.ref f) = true) : Fun K x qual st f (PySem.W.fnOf x qual (defArgs st) (defBody st) (defScope st) .none kV doc pm an cdv ct) := fun_mk l c k
def defT_mk {K : PySem.W.Frag} {h : Heap} {mg : Str → Option Value} {x : Str} {st : Stmt} {ps : List Str} {f : Addr} {oc : Value} {od an : Option Addr} {osl : Array (Option Value)} {kV doc pm cdv ct : Value} (X : K.In h) (G : h.Ns mainGlobals mg)
    (a : PySem.W.nsIn K mainGlobals x = some (some (.ref f))) (l : K.lookup f = some ⟨oc, od, .func (PySem.W.fnOf x x (defArgs st) (defBody st) (defScope st) .none kV doc pm an cdv ct), osl⟩) (c : PySem.W.codeIn K cdv x = true) (k : PySem.W.keepIn K (.ref f) = true)
    (hb : ∀ (kV doc pm : Value) (an : Option Addr) (cdv ct : Value) (us : List Value), us.length = ps.length → bindArgs (PySem.W.fnOf x x (defArgs st) (defBody st) (defScope st) .none kV doc pm an cdv ct) ⟨us, []⟩ = pure (ps.zip us)) : DefT K mg x st ps :=
  ⟨f, _, fun_mk l c k, (fun_mk l c k).binds hb, PySem.W.mg_of X G a⟩
def methT_mk {K : PySem.W.Frag} {C : Addr} {x qual : Str} {st : Stmt} {ps : List Str} {f : Addr} {oc : Value} {od an : Option Addr} {osl : Array (Option Value)} {kV doc pm cdv ct : Value}
    (a : PySem.W.findIn K (.ref C) x = some (some (.ref f))) (i : PySem.W.isFn K (.ref f) = true) (l : K.lookup f = some ⟨oc, od, .func (PySem.W.fnOf x qual (defArgs st) (defBody st) (defScope st) .none kV doc pm an cdv ct), osl⟩) (c : PySem.W.codeIn K cdv qual = true) (k : PySem.W.keepIn K (.ref f) = true)
    (hb : ∀ (kV doc pm : Value) (an : Option Addr) (cdv ct : Value) (us : List Value), us.length = ps.length → bindArgs (PySem.W.fnOf x qual (defArgs st) (defBody st) (defScope st) .none kV doc pm an cdv ct) ⟨us, []⟩ = pure (ps.zip us)) : MethT K C x qual st ps :=
  ⟨f, _, fun_mk l c k, (fun_mk l c k).binds hb, ⟨a, i, k⟩⟩
structure ClsT (K : PySem.W.Frag) (mg : Str → Option Value) where
  C : Addr
  gC : mg "Pairs" = some (.ref C)
  cl : Cls K C
  m_init : MethT K C "__init__" "Pairs.__init__" s_Pinit ["self", "first", "second"]
  m_can_follow : MethT K C "can_follow" "Pairs.can_follow" s_Pcan_follow ["self", "i", "j"]
  m_lengths : MethT K C "lengths" "Pairs.lengths" s_Plengths ["self"]
  m_levels : MethT K C "levels" "Pairs.levels" s_Plevels ["self"]
  mkC : Mk K C m_init.f
  na_places : NoAttr K C "places"
  na_first : NoAttr K C "first"
  na_second : NoAttr K C "second"
  na_own : NoAttr K C "own"
  na_letters : NoAttr K C "letters"
  na_many : NoAttr K C "many"
  na_links : NoAttr K C "links"
def cls_mk {K : PySem.W.Frag} {h : Heap} {mg : Str → Option Value} {C : Addr} {f0 : Addr} {oc0 kV0 doc0 pm0 cdv0 ct0 : Value} {od0 an0 : Option Addr} {osl0 : Array (Option Value)} {f1 : Addr} {oc1 kV1 doc1 pm1 cdv1 ct1 : Value} {od1 an1 : Option Addr} {osl1 : Array (Option Value)} {f2 : Addr} {oc2 kV2 doc2 pm2 cdv2 ct2 : Value} {od2 an2 : Option Addr} {osl2 : Array (Option Value)} {f3 : Addr} {oc3 kV3 doc3 pm3 cdv3 ct3 : Value} {od3 an3 : Option Addr} {osl3 : Array (Option Value)}
    (X : K.In h) (G : h.Ns mainGlobals mg)
    (aC : PySem.W.nsIn K mainGlobals "Pairs" = some (some (.ref C)))
    (pg : PySem.W.plainGet K C Str.empty = true) (hd : PySem.W.hasDictIn K C = true) (po : PySem.W.plainOver K C = true) (sa : PySem.W.findIn K (.ref C) "__setattr__" = some (some (.builtin "object.__setattr__"))) (mk : PySem.W.makesIn K C = true) (kc : PySem.W.keepIn K (.ref C) = true)
    (a0 : PySem.W.findIn K (.ref C) "__init__" = some (some (.ref f0))) (i0 : PySem.W.isFn K (.ref f0) = true) (l0 : K.lookup f0 = some ⟨oc0, od0, .func (PySem.W.fnOf "__init__" "Pairs.__init__" (defArgs s_Pinit) (defBody s_Pinit) (defScope s_Pinit) .none kV0 doc0 pm0 an0 cdv0 ct0), osl0⟩) (c0 : PySem.W.codeIn K cdv0 "Pairs.__init__" = true) (k0 : PySem.W.keepIn K (.ref f0) = true)
    (a1 : PySem.W.findIn K (.ref C) "can_follow" = some (some (.ref f1))) (i1 : PySem.W.isFn K (.ref f1) = true) (l1 : K.lookup f1 = some ⟨oc1, od1, .func (PySem.W.fnOf "can_follow" "Pairs.can_follow" (defArgs s_Pcan_follow) (defBody s_Pcan_follow) (defScope s_Pcan_follow) .none kV1 doc1 pm1 an1 cdv1 ct1), osl1⟩) (c1 : PySem.W.codeIn K cdv1 "Pairs.can_follow" = true) (k1 : PySem.W.keepIn K (.ref f1) = true)
    (a2 : PySem.W.findIn K (.ref C) "lengths" = some (some (.ref f2))) (i2 : PySem.W.isFn K (.ref f2) = true) (l2 : K.lookup f2 = some ⟨oc2, od2, .func (PySem.W.fnOf "lengths" "Pairs.lengths" (defArgs s_Plengths) (defBody s_Plengths) (defScope s_Plengths) .none kV2 doc2 pm2 an2 cdv2 ct2), osl2⟩) (c2 : PySem.W.codeIn K cdv2 "Pairs.lengths" = true) (k2 : PySem.W.keepIn K (.ref f2) = true)
    (a3 : PySem.W.findIn K (.ref C) "levels" = some (some (.ref f3))) (i3 : PySem.W.isFn K (.ref f3) = true) (l3 : K.lookup f3 = some ⟨oc3, od3, .func (PySem.W.fnOf "levels" "Pairs.levels" (defArgs s_Plevels) (defBody s_Plevels) (defScope s_Plevels) .none kV3 doc3 pm3 an3 cdv3 ct3), osl3⟩) (c3 : PySem.W.codeIn K cdv3 "Pairs.levels" = true) (k3 : PySem.W.keepIn K (.ref f3) = true)
    (n_places : PySem.W.findIn K (.ref C) "places" = some none)
    (n_first : PySem.W.findIn K (.ref C) "first" = some none)
    (n_second : PySem.W.findIn K (.ref C) "second" = some none)
    (n_own : PySem.W.findIn K (.ref C) "own" = some none)
    (n_letters : PySem.W.findIn K (.ref C) "letters" = some none)
    (n_many : PySem.W.findIn K (.ref C) "many" = some none)
    (n_links : PySem.W.findIn K (.ref C) "links" = some none) : ClsT K mg where
  C := C
  gC := PySem.W.mg_of X G aC
  cl := ⟨pg, hd, po, sa⟩
  m_init := methT_mk a0 i0 l0 c0 k0 fun _ _ _ _ _ _ us hl => match us, hl with | [_, _, _], _ => rfl
  m_can_follow := methT_mk a1 i1 l1 c1 k1 fun _ _ _ _ _ _ us hl => match us, hl with | [_, _, _], _ => rfl
  m_lengths := methT_mk a2 i2 l2 c2 k2 fun _ _ _ _ _ _ us hl => match us, hl with | [_], _ => rfl
  m_levels := methT_mk a3 i3 l3 c3 k3 fun _ _ _ _ _ _ us hl => match us, hl with | [_], _ => rfl
  mkC := ⟨mk, a0, i0, kc⟩
  na_places := n_places
  na_first := n_first
  na_second := n_second
  na_own := n_own
  na_letters := n_letters
  na_many := n_many
  na_links := n_links
structure Rest (K : PySem.W.Frag) (mg : Str → Option Value) where
  d_is_whole : DefT K mg "is_whole" s_is_whole ["value"]
  d_is_level : DefT K mg "is_level" s_is_level ["value"]
  d_is_letter : DefT K mg "is_letter" s_is_letter ["value"]
  d_are_letters : DefT K mg "are_letters" s_are_letters ["value"]
  d_is_order : DefT K mg "is_order" s_is_order ["value"]
  d_removed : DefT K mg "removed" s_removed ["order", "letter"]
  d_check_two : DefT K mg "check_two" s_check_two ["first", "second"]
  d_places_of : DefT K mg "places_of" s_places_of ["order"]
  d_least_between : DefT K mg "least_between" s_least_between ["order", "low", "high"]
  d_longest_in : DefT K mg "longest_in" s_longest_in ["pairs"]
  d_longest_of : DefT K mg "longest_of" s_longest_of ["first", "second"]
  d_levels_of : DefT K mg "levels_of" s_levels_of ["first", "second"]
  d_levels_for : DefT K mg "levels_for" s_levels_for ["first", "second"]
  d_is_integer : DefT K mg "is_integer" s_is_integer ["value"]
  d_are_right : DefT K mg "are_right" s_are_right ["first", "second", "levels"]
  d_turned_around : DefT K mg "turned_around" s_turned_around ["order"]
  d_put_after : DefT K mg "put_after" s_put_after ["order", "anchor", "strength", "letter"]
  d_put : DefT K mg "put" s_put ["order", "rule"]
  d_from_left : DefT K mg "from_left" s_from_left ["second", "low", "high"]
  d_from_right : DefT K mg "from_right" s_from_right ["second", "low", "high"]
  d_gap_rules : DefT K mg "gap_rules" s_gap_rules ["second", "low", "high"]
  d_keep : DefT K mg "keep" s_keep ["second", "letters"]
  d_rules_of : DefT K mg "rules_of" s_rules_of ["first", "second"]
  d_has_letters : DefT K mg "has_letters" s_has_letters ["value", "letters"]
  d_check_alike : DefT K mg "check_alike" s_check_alike ["value", "order", "name"]
  d_check_begin : DefT K mg "check_begin" s_check_begin ["value", "name"]
  d_is_step : DefT K mg "is_step" s_is_step ["first", "second"]
  d_way : DefT K mg "way" s_way ["first", "second"]
  d_is_row : DefT K mg "is_row" s_is_row ["first", "second", "value"]
  d_is_shortest_row : DefT K mg "is_shortest_row" s_is_shortest_row ["first", "second", "row", "levels"]
  d_law_stream : DefT K mg "_law_stream" s_law_stream ["_law_script"]
  d_law_next : DefT K mg "_law_next" s_law_next ["_law_stream_here", "_law_many"]
  d_law_is_integer : DefT K mg "_law_is_integer" s_law_is_integer ["_law_actual"]
  d_law_equal : DefT K mg "_law_equal" s_law_equal ["_law_actual", "_law_due"]
  d_law_names : DefT K mg "_law_names" s_law_names ["_law_stream_here"]
  d_law_shuffled : DefT K mg "_law_shuffled" s_law_shuffled ["_law_stream_here", "_law_names_here"]
  d_law_order : DefT K mg "_law_order" s_law_order ["_law_stream_here", "_law_names_here"]
  d_law_difference : DefT K mg "_law_difference" s_law_difference ["_law_order_here", "_law_x", "_law_y"]
  d_law_without : DefT K mg "_law_without" s_law_without ["_law_order_here", "_law_letter"]
  d_law_put : DefT K mg "_law_put" s_law_put ["_law_order_here", "_law_rule_here"]
  d_law_rule : DefT K mg "_law_rule" s_law_rule ["_law_stream_here", "_law_order_here", "_law_more"]
  d_law_far : DefT K mg "_law_far" s_law_far ["_law_first", "_law_second"]
  d_law_some_path : DefT K mg "_law_some_path" s_law_some_path ["_law_stream_here", "_law_most", "_law_long"]
  d_law_is_step : DefT K mg "_law_is_step" s_law_is_step ["_law_first", "_law_second"]
  d_law_is_row : DefT K mg "_law_is_row" s_law_is_row ["_law_first", "_law_second", "_law_value"]
  d_law_are_right : DefT K mg "_law_are_right" s_law_are_right ["_law_first", "_law_second", "_law_levels"]
  d_law_turned : DefT K mg "_law_turned" s_law_turned ["_law_stream_here", "_law_row", "_law_levels"]
  cc : ClsT K mg
  c_CHARACTERS : ∃ t, mg "CHARACTERS" = some (.str "abcdefghijklmnopqrstuvwxyz" t)
  c_DIGITS : ∃ t, mg "DIGITS" = some (.str "0123456789" t)
  c_LONGEST : ∃ t, mg "LONGEST" = some (.int 12 t)
  c_MOST : ∃ t, mg "MOST" = some (.int 12 t)
  z_isinstance : mg "isinstance" = none
  z_int : mg "int" = none
  z_bool : mg "bool" = none
  z_str : mg "str" = none
  z_tuple : mg "tuple" = none
  z_list : mg "list" = none
  z_len : mg "len" = none
  z_all : mg "all" = none
  z_any : mg "any" = none
  z_max : mg "max" = none
  z_min : mg "min" = none
  z_enumerate : mg "enumerate" = none
  z_zip : mg "zip" = none
  z_range : mg "range" = none
  z_sorted : mg "sorted" = none
  z_abs : mg "abs" = none
def Rest.top {K : PySem.W.Frag} {mg : Str → Option Value} (r : Rest K mg) (d : DefT K mg "law" s_law ["_law_script"]) : Top K mg where
  d_is_whole := r.d_is_whole
  d_is_level := r.d_is_level
  d_is_letter := r.d_is_letter
  d_are_letters := r.d_are_letters
  d_is_order := r.d_is_order
  d_removed := r.d_removed
  d_check_two := r.d_check_two
  d_places_of := r.d_places_of
  d_least_between := r.d_least_between
  d_longest_in := r.d_longest_in
  d_longest_of := r.d_longest_of
  d_levels_of := r.d_levels_of
  d_levels_for := r.d_levels_for
  d_is_integer := r.d_is_integer
  d_are_right := r.d_are_right
  d_turned_around := r.d_turned_around
  d_put_after := r.d_put_after
  d_put := r.d_put
  d_from_left := r.d_from_left
  d_from_right := r.d_from_right
  d_gap_rules := r.d_gap_rules
  d_keep := r.d_keep
  d_rules_of := r.d_rules_of
  d_has_letters := r.d_has_letters
  d_check_alike := r.d_check_alike
  d_check_begin := r.d_check_begin
  d_is_step := r.d_is_step
  d_way := r.d_way
  d_is_row := r.d_is_row
  d_is_shortest_row := r.d_is_shortest_row
  d_law_stream := r.d_law_stream
  d_law_next := r.d_law_next
  d_law_is_integer := r.d_law_is_integer
  d_law_equal := r.d_law_equal
  d_law_names := r.d_law_names
  d_law_shuffled := r.d_law_shuffled
  d_law_order := r.d_law_order
  d_law_difference := r.d_law_difference
  d_law_without := r.d_law_without
  d_law_put := r.d_law_put
  d_law_rule := r.d_law_rule
  d_law_far := r.d_law_far
  d_law_some_path := r.d_law_some_path
  d_law_is_step := r.d_law_is_step
  d_law_is_row := r.d_law_is_row
  d_law_are_right := r.d_law_are_right
  d_law_turned := r.d_law_turned
  d_law := d
  C := r.cc.C
  gC := r.cc.gC
  cl := r.cc.cl
  m_init := r.cc.m_init
  m_can_follow := r.cc.m_can_follow
  m_lengths := r.cc.m_lengths
  m_levels := r.cc.m_levels
  mkC := r.cc.mkC
  na_places := r.cc.na_places
  na_first := r.cc.na_first
  na_second := r.cc.na_second
  na_own := r.cc.na_own
  na_letters := r.cc.na_letters
  na_many := r.cc.na_many
  na_links := r.cc.na_links
  c_CHARACTERS := r.c_CHARACTERS
  c_DIGITS := r.c_DIGITS
  c_LONGEST := r.c_LONGEST
  c_MOST := r.c_MOST
  z_isinstance := r.z_isinstance
  z_int := r.z_int
  z_bool := r.z_bool
  z_str := r.z_str
  z_tuple := r.z_tuple
  z_list := r.z_list
  z_len := r.z_len
  z_all := r.z_all
  z_any := r.z_any
  z_max := r.z_max
  z_min := r.z_min
  z_enumerate := r.z_enumerate
  z_zip := r.z_zip
  z_range := r.z_range
  z_sorted := r.z_sorted
  z_abs := r.z_abs
theorem law_done {l : PySem.W.OpenLaw} {w : World} {K : PySem.W.Frag} {h : Heap} {mg : Str → Option Value} {fa f : Addr} {oc : Value} {od an : Option Addr} {osl : Array (Option Value)} {kV doc pm cdv ct : Value} (X : K.In h) (G : h.Ns mainGlobals mg) (hfa : mg "law" = some (.ref fa))
    (a : PySem.W.nsIn K mainGlobals "law" = some (some (.ref f))) (lk : K.lookup f = some ⟨oc, od, .func (PySem.W.fnOf "law" "law" (defArgs s_law) (defBody s_law) (defScope s_law) .none kV doc pm an cdv ct), osl⟩) (c : PySem.W.codeIn K cdv "law" = true) (k : PySem.W.keepIn K (.ref f) = true) (r : Rest K mg) :
    ∃ fd : FuncData, (∀ (s : Shared) (v : Value), BindsTo s fd ⟨[v], []⟩ [("_law_script", v)]) ∧ ∀ base : Heap, K.In base → base.Ns mainGlobals mg → FnOk l.prog w K mg base CX0 9 fa fd ["_law_script"] (spLaw K) := by
  have e := hfa.symm.trans (PySem.W.mg_of X G a)
  cases e
  exact ⟨PySem.W.fnOf "law" "law" (defArgs s_law) (defBody s_law) (defScope s_law) .none kV doc pm an cdv ct, fun s v => .of_eq rfl, fun base _ _ => ok_law (r.top (defT_mk X G a lk c k fun _ _ _ _ _ _ us hl => match us, hl with | [_], _ => rfl))⟩
theorem con_str {K : PySem.W.Frag} {h : Heap} {mg : Str → Option Value} {x v : Str} {t} (X : K.In h) (G : h.Ns mainGlobals mg) (a : PySem.W.nsIn K mainGlobals x = some (some (.str v t))) : ∃ t, mg x = some (.str v t) := ⟨t, PySem.W.mg_of X G a⟩
theorem con_int {K : PySem.W.Frag} {h : Heap} {mg : Str → Option Value} {x : Str} {v : Int} {t} (X : K.In h) (G : h.Ns mainGlobals mg) (a : PySem.W.nsIn K mainGlobals x = some (some (.int v t))) : ∃ t, mg x = some (.int v t) := ⟨t, PySem.W.mg_of X G a⟩
end Ga
open PySem PySem.W PyProof.Rows
set_option maxHeartbeats 0 in
theorem PySem.Challenge.cw_fewestrules_k83_whole_any_row_holds : PySem.Challenge.rw_fewestrules_k83_whole_any_row.Holds := by
  w_on; o_law; k_head; (case hw => w_witness2)
  k_fill
  refine L2.walk_of (l := PySem.Challenge.rw_fewestrules_k83_whole_any_row) (n := 63) (k := 9) (x := "_law_script") (CX := fun _ => L2.CX0) (sp := fun w => Ga.spLaw _) rfl (by decide) rfl ⟨rfl, by decide, by decide⟩ (fun w h Y => PySem.W.kIn_of Y) ?F (fun _ _ a ns _ _ hS => ⟨a, ns, rfl, hS, fun _ => rfl⟩) (fun _ _ _ _ _ h => h)
  case F =>
    intro w mg fa h KX G hmg
    refine' Ga.law_done KX G hmg ?al ?ll ?cl ?kl ?R
    (case al => k_is); (case ll => k_is); (case cl => k_is); (case kl => k_is)
    case R =>
      refine' { d_is_whole := ?d_is_whole, d_is_level := ?d_is_level, d_is_letter := ?d_is_letter, d_are_letters := ?d_are_letters, d_is_order := ?d_is_order, d_removed := ?d_removed, d_check_two := ?d_check_two, d_places_of := ?d_places_of, d_least_between := ?d_least_between, d_longest_in := ?d_longest_in, d_longest_of := ?d_longest_of, d_levels_of := ?d_levels_of, d_levels_for := ?d_levels_for, d_is_integer := ?d_is_integer, d_are_right := ?d_are_right, d_turned_around := ?d_turned_around, d_put_after := ?d_put_after, d_put := ?d_put, d_from_left := ?d_from_left, d_from_right := ?d_from_right, d_gap_rules := ?d_gap_rules, d_keep := ?d_keep, d_rules_of := ?d_rules_of, d_has_letters := ?d_has_letters, d_check_alike := ?d_check_alike, d_check_begin := ?d_check_begin, d_is_step := ?d_is_step, d_way := ?d_way, d_is_row := ?d_is_row, d_is_shortest_row := ?d_is_shortest_row, d_law_stream := ?d_law_stream, d_law_next := ?d_law_next, d_law_is_integer := ?d_law_is_integer, d_law_equal := ?d_law_equal, d_law_names := ?d_law_names, d_law_shuffled := ?d_law_shuffled, d_law_order := ?d_law_order, d_law_difference := ?d_law_difference, d_law_without := ?d_law_without, d_law_put := ?d_law_put, d_law_rule := ?d_law_rule, d_law_far := ?d_law_far, d_law_some_path := ?d_law_some_path, d_law_is_step := ?d_law_is_step, d_law_is_row := ?d_law_is_row, d_law_are_right := ?d_law_are_right, d_law_turned := ?d_law_turned, cc := ?cc, c_CHARACTERS := ?c_CHARACTERS, c_DIGITS := ?c_DIGITS, c_LONGEST := ?c_LONGEST, c_MOST := ?c_MOST, z_isinstance := ?z_isinstance, z_int := ?z_int, z_bool := ?z_bool, z_str := ?z_str, z_tuple := ?z_tuple, z_list := ?z_list, z_len := ?z_len, z_all := ?z_all, z_any := ?z_any, z_max := ?z_max, z_min := ?z_min, z_enumerate := ?z_enumerate, z_zip := ?z_zip, z_range := ?z_range, z_sorted := ?z_sorted, z_abs := ?z_abs }
      case d_is_whole => (refine' Ga.defT_mk KX G ?a ?l ?c ?k (fun _ _ _ _ _ _ us hl => match us, hl with | [_], _ => rfl)); (case a => k_is); (case l => k_is); (case c => k_is); (case k => k_is)
      case d_is_level => (refine' Ga.defT_mk KX G ?a ?l ?c ?k (fun _ _ _ _ _ _ us hl => match us, hl with | [_], _ => rfl)); (case a => k_is); (case l => k_is); (case c => k_is); (case k => k_is)
      case d_is_letter => (refine' Ga.defT_mk KX G ?a ?l ?c ?k (fun _ _ _ _ _ _ us hl => match us, hl with | [_], _ => rfl)); (case a => k_is); (case l => k_is); (case c => k_is); (case k => k_is)
      case d_are_letters => (refine' Ga.defT_mk KX G ?a ?l ?c ?k (fun _ _ _ _ _ _ us hl => match us, hl with | [_], _ => rfl)); (case a => k_is); (case l => k_is); (case c => k_is); (case k => k_is)
      case d_is_order => (refine' Ga.defT_mk KX G ?a ?l ?c ?k (fun _ _ _ _ _ _ us hl => match us, hl with | [_], _ => rfl)); (case a => k_is); (case l => k_is); (case c => k_is); (case k => k_is)
      case d_removed => (refine' Ga.defT_mk KX G ?a ?l ?c ?k (fun _ _ _ _ _ _ us hl => match us, hl with | [_, _], _ => rfl)); (case a => k_is); (case l => k_is); (case c => k_is); (case k => k_is)
      case d_check_two => (refine' Ga.defT_mk KX G ?a ?l ?c ?k (fun _ _ _ _ _ _ us hl => match us, hl with | [_, _], _ => rfl)); (case a => k_is); (case l => k_is); (case c => k_is); (case k => k_is)
      case d_places_of => (refine' Ga.defT_mk KX G ?a ?l ?c ?k (fun _ _ _ _ _ _ us hl => match us, hl with | [_], _ => rfl)); (case a => k_is); (case l => k_is); (case c => k_is); (case k => k_is)
      case d_least_between => (refine' Ga.defT_mk KX G ?a ?l ?c ?k (fun _ _ _ _ _ _ us hl => match us, hl with | [_, _, _], _ => rfl)); (case a => k_is); (case l => k_is); (case c => k_is); (case k => k_is)
      case d_longest_in => (refine' Ga.defT_mk KX G ?a ?l ?c ?k (fun _ _ _ _ _ _ us hl => match us, hl with | [_], _ => rfl)); (case a => k_is); (case l => k_is); (case c => k_is); (case k => k_is)
      case d_longest_of => (refine' Ga.defT_mk KX G ?a ?l ?c ?k (fun _ _ _ _ _ _ us hl => match us, hl with | [_, _], _ => rfl)); (case a => k_is); (case l => k_is); (case c => k_is); (case k => k_is)
      case d_levels_of => (refine' Ga.defT_mk KX G ?a ?l ?c ?k (fun _ _ _ _ _ _ us hl => match us, hl with | [_, _], _ => rfl)); (case a => k_is); (case l => k_is); (case c => k_is); (case k => k_is)
      case d_levels_for => (refine' Ga.defT_mk KX G ?a ?l ?c ?k (fun _ _ _ _ _ _ us hl => match us, hl with | [_, _], _ => rfl)); (case a => k_is); (case l => k_is); (case c => k_is); (case k => k_is)
      case d_is_integer => (refine' Ga.defT_mk KX G ?a ?l ?c ?k (fun _ _ _ _ _ _ us hl => match us, hl with | [_], _ => rfl)); (case a => k_is); (case l => k_is); (case c => k_is); (case k => k_is)
      case d_are_right => (refine' Ga.defT_mk KX G ?a ?l ?c ?k (fun _ _ _ _ _ _ us hl => match us, hl with | [_, _, _], _ => rfl)); (case a => k_is); (case l => k_is); (case c => k_is); (case k => k_is)
      case d_turned_around => (refine' Ga.defT_mk KX G ?a ?l ?c ?k (fun _ _ _ _ _ _ us hl => match us, hl with | [_], _ => rfl)); (case a => k_is); (case l => k_is); (case c => k_is); (case k => k_is)
      case d_put_after => (refine' Ga.defT_mk KX G ?a ?l ?c ?k (fun _ _ _ _ _ _ us hl => match us, hl with | [_, _, _, _], _ => rfl)); (case a => k_is); (case l => k_is); (case c => k_is); (case k => k_is)
      case d_put => (refine' Ga.defT_mk KX G ?a ?l ?c ?k (fun _ _ _ _ _ _ us hl => match us, hl with | [_, _], _ => rfl)); (case a => k_is); (case l => k_is); (case c => k_is); (case k => k_is)
      case d_from_left => (refine' Ga.defT_mk KX G ?a ?l ?c ?k (fun _ _ _ _ _ _ us hl => match us, hl with | [_, _, _], _ => rfl)); (case a => k_is); (case l => k_is); (case c => k_is); (case k => k_is)
      case d_from_right => (refine' Ga.defT_mk KX G ?a ?l ?c ?k (fun _ _ _ _ _ _ us hl => match us, hl with | [_, _, _], _ => rfl)); (case a => k_is); (case l => k_is); (case c => k_is); (case k => k_is)
      case d_gap_rules => (refine' Ga.defT_mk KX G ?a ?l ?c ?k (fun _ _ _ _ _ _ us hl => match us, hl with | [_, _, _], _ => rfl)); (case a => k_is); (case l => k_is); (case c => k_is); (case k => k_is)
      case d_keep => (refine' Ga.defT_mk KX G ?a ?l ?c ?k (fun _ _ _ _ _ _ us hl => match us, hl with | [_, _], _ => rfl)); (case a => k_is); (case l => k_is); (case c => k_is); (case k => k_is)
      case d_rules_of => (refine' Ga.defT_mk KX G ?a ?l ?c ?k (fun _ _ _ _ _ _ us hl => match us, hl with | [_, _], _ => rfl)); (case a => k_is); (case l => k_is); (case c => k_is); (case k => k_is)
      case d_has_letters => (refine' Ga.defT_mk KX G ?a ?l ?c ?k (fun _ _ _ _ _ _ us hl => match us, hl with | [_, _], _ => rfl)); (case a => k_is); (case l => k_is); (case c => k_is); (case k => k_is)
      case d_check_alike => (refine' Ga.defT_mk KX G ?a ?l ?c ?k (fun _ _ _ _ _ _ us hl => match us, hl with | [_, _, _], _ => rfl)); (case a => k_is); (case l => k_is); (case c => k_is); (case k => k_is)
      case d_check_begin => (refine' Ga.defT_mk KX G ?a ?l ?c ?k (fun _ _ _ _ _ _ us hl => match us, hl with | [_, _], _ => rfl)); (case a => k_is); (case l => k_is); (case c => k_is); (case k => k_is)
      case d_is_step => (refine' Ga.defT_mk KX G ?a ?l ?c ?k (fun _ _ _ _ _ _ us hl => match us, hl with | [_, _], _ => rfl)); (case a => k_is); (case l => k_is); (case c => k_is); (case k => k_is)
      case d_way => (refine' Ga.defT_mk KX G ?a ?l ?c ?k (fun _ _ _ _ _ _ us hl => match us, hl with | [_, _], _ => rfl)); (case a => k_is); (case l => k_is); (case c => k_is); (case k => k_is)
      case d_is_row => (refine' Ga.defT_mk KX G ?a ?l ?c ?k (fun _ _ _ _ _ _ us hl => match us, hl with | [_, _, _], _ => rfl)); (case a => k_is); (case l => k_is); (case c => k_is); (case k => k_is)
      case d_is_shortest_row => (refine' Ga.defT_mk KX G ?a ?l ?c ?k (fun _ _ _ _ _ _ us hl => match us, hl with | [_, _, _, _], _ => rfl)); (case a => k_is); (case l => k_is); (case c => k_is); (case k => k_is)
      case d_law_stream => (refine' Ga.defT_mk KX G ?a ?l ?c ?k (fun _ _ _ _ _ _ us hl => match us, hl with | [_], _ => rfl)); (case a => k_is); (case l => k_is); (case c => k_is); (case k => k_is)
      case d_law_next => (refine' Ga.defT_mk KX G ?a ?l ?c ?k (fun _ _ _ _ _ _ us hl => match us, hl with | [_, _], _ => rfl)); (case a => k_is); (case l => k_is); (case c => k_is); (case k => k_is)
      case d_law_is_integer => (refine' Ga.defT_mk KX G ?a ?l ?c ?k (fun _ _ _ _ _ _ us hl => match us, hl with | [_], _ => rfl)); (case a => k_is); (case l => k_is); (case c => k_is); (case k => k_is)
      case d_law_equal => (refine' Ga.defT_mk KX G ?a ?l ?c ?k (fun _ _ _ _ _ _ us hl => match us, hl with | [_, _], _ => rfl)); (case a => k_is); (case l => k_is); (case c => k_is); (case k => k_is)
      case d_law_names => (refine' Ga.defT_mk KX G ?a ?l ?c ?k (fun _ _ _ _ _ _ us hl => match us, hl with | [_], _ => rfl)); (case a => k_is); (case l => k_is); (case c => k_is); (case k => k_is)
      case d_law_shuffled => (refine' Ga.defT_mk KX G ?a ?l ?c ?k (fun _ _ _ _ _ _ us hl => match us, hl with | [_, _], _ => rfl)); (case a => k_is); (case l => k_is); (case c => k_is); (case k => k_is)
      case d_law_order => (refine' Ga.defT_mk KX G ?a ?l ?c ?k (fun _ _ _ _ _ _ us hl => match us, hl with | [_, _], _ => rfl)); (case a => k_is); (case l => k_is); (case c => k_is); (case k => k_is)
      case d_law_difference => (refine' Ga.defT_mk KX G ?a ?l ?c ?k (fun _ _ _ _ _ _ us hl => match us, hl with | [_, _, _], _ => rfl)); (case a => k_is); (case l => k_is); (case c => k_is); (case k => k_is)
      case d_law_without => (refine' Ga.defT_mk KX G ?a ?l ?c ?k (fun _ _ _ _ _ _ us hl => match us, hl with | [_, _], _ => rfl)); (case a => k_is); (case l => k_is); (case c => k_is); (case k => k_is)
      case d_law_put => (refine' Ga.defT_mk KX G ?a ?l ?c ?k (fun _ _ _ _ _ _ us hl => match us, hl with | [_, _], _ => rfl)); (case a => k_is); (case l => k_is); (case c => k_is); (case k => k_is)
      case d_law_rule => (refine' Ga.defT_mk KX G ?a ?l ?c ?k (fun _ _ _ _ _ _ us hl => match us, hl with | [_, _, _], _ => rfl)); (case a => k_is); (case l => k_is); (case c => k_is); (case k => k_is)
      case d_law_far => (refine' Ga.defT_mk KX G ?a ?l ?c ?k (fun _ _ _ _ _ _ us hl => match us, hl with | [_, _], _ => rfl)); (case a => k_is); (case l => k_is); (case c => k_is); (case k => k_is)
      case d_law_some_path => (refine' Ga.defT_mk KX G ?a ?l ?c ?k (fun _ _ _ _ _ _ us hl => match us, hl with | [_, _, _], _ => rfl)); (case a => k_is); (case l => k_is); (case c => k_is); (case k => k_is)
      case d_law_is_step => (refine' Ga.defT_mk KX G ?a ?l ?c ?k (fun _ _ _ _ _ _ us hl => match us, hl with | [_, _], _ => rfl)); (case a => k_is); (case l => k_is); (case c => k_is); (case k => k_is)
      case d_law_is_row => (refine' Ga.defT_mk KX G ?a ?l ?c ?k (fun _ _ _ _ _ _ us hl => match us, hl with | [_, _, _], _ => rfl)); (case a => k_is); (case l => k_is); (case c => k_is); (case k => k_is)
      case d_law_are_right => (refine' Ga.defT_mk KX G ?a ?l ?c ?k (fun _ _ _ _ _ _ us hl => match us, hl with | [_, _, _], _ => rfl)); (case a => k_is); (case l => k_is); (case c => k_is); (case k => k_is)
      case d_law_turned => (refine' Ga.defT_mk KX G ?a ?l ?c ?k (fun _ _ _ _ _ _ us hl => match us, hl with | [_, _, _], _ => rfl)); (case a => k_is); (case l => k_is); (case c => k_is); (case k => k_is)
      case cc => (refine' Ga.cls_mk KX G ?aC ?pg ?hd ?po ?sa ?mk ?kc ?a0 ?i0 ?l0 ?c0 ?k0 ?a1 ?i1 ?l1 ?c1 ?k1 ?a2 ?i2 ?l2 ?c2 ?k2 ?a3 ?i3 ?l3 ?c3 ?k3 ?n_places ?n_first ?n_second ?n_own ?n_letters ?n_many ?n_links); (case aC => k_is); (case pg => k_is); (case hd => k_is); (case po => k_is); (case sa => k_is); (case mk => k_is); (case kc => k_is); (case a0 => k_is); (case i0 => k_is); (case l0 => k_is); (case c0 => k_is); (case k0 => k_is); (case a1 => k_is); (case i1 => k_is); (case l1 => k_is); (case c1 => k_is); (case k1 => k_is); (case a2 => k_is); (case i2 => k_is); (case l2 => k_is); (case c2 => k_is); (case k2 => k_is); (case a3 => k_is); (case i3 => k_is); (case l3 => k_is); (case c3 => k_is); (case k3 => k_is); (case n_places => k_is); (case n_first => k_is); (case n_second => k_is); (case n_own => k_is); (case n_letters => k_is); (case n_many => k_is); (case n_links => k_is)
      case c_CHARACTERS => (refine' Ga.con_str KX G ?a); (case a => k_is)
      case c_DIGITS => (refine' Ga.con_str KX G ?a); (case a => k_is)
      case c_LONGEST => (refine' Ga.con_int KX G ?a); (case a => k_is)
      case c_MOST => (refine' Ga.con_int KX G ?a); (case a => k_is)
      case z_isinstance => (refine' PySem.W.mg_none_of KX G ?a); (case a => k_is)
      case z_int => (refine' PySem.W.mg_none_of KX G ?a); (case a => k_is)
      case z_bool => (refine' PySem.W.mg_none_of KX G ?a); (case a => k_is)
      case z_str => (refine' PySem.W.mg_none_of KX G ?a); (case a => k_is)
      case z_tuple => (refine' PySem.W.mg_none_of KX G ?a); (case a => k_is)
      case z_list => (refine' PySem.W.mg_none_of KX G ?a); (case a => k_is)
      case z_len => (refine' PySem.W.mg_none_of KX G ?a); (case a => k_is)
      case z_all => (refine' PySem.W.mg_none_of KX G ?a); (case a => k_is)
      case z_any => (refine' PySem.W.mg_none_of KX G ?a); (case a => k_is)
      case z_max => (refine' PySem.W.mg_none_of KX G ?a); (case a => k_is)
      case z_min => (refine' PySem.W.mg_none_of KX G ?a); (case a => k_is)
      case z_enumerate => (refine' PySem.W.mg_none_of KX G ?a); (case a => k_is)
      case z_zip => (refine' PySem.W.mg_none_of KX G ?a); (case a => k_is)
      case z_range => (refine' PySem.W.mg_none_of KX G ?a); (case a => k_is)
      case z_sorted => (refine' PySem.W.mg_none_of KX G ?a); (case a => k_is)
      case z_abs => (refine' PySem.W.mg_none_of KX G ?a); (case a => k_is)
