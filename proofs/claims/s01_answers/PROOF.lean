import PyProof.Rows.All
import Wide.All
import OpenK.AllK
import Wide.FinOn
import Open.SpecLaws
import KE.OsGo
import HandS.ForSpec
import HandS.Comp
import HandS.Dict
import HandS.Iter
import HandS.Walk
import HandS.Zip
import HandS.Deep
import HandS.Flt
import HandS.Conv
import HandS.CallLocal
import HandS.Codes
import KE.DataMinMax
import PySem.Challenge.RW_wordcounts_s01_answers
set_option Elab.async false
namespace Wc

theorem take_more {α : Type} {l : List α} {i : Nat} {x : α} (h : l[i]? = some x) : l.take (i + 1) = l.take i ++ [x] := by
  rw [List.take_add_one, h]; rfl
theorem ft {α β : Type} (f : β → α → β) (a : β) {l : List α} {i : Nat} {x : α} (h : l[i]? = some x) : (l.take (i + 1)).foldl f a = f ((l.take i).foldl f a) x := by
  rw [take_more h, List.foldl_append]; rfl
theorem ftAll {α β : Type} (f : β → α → β) (a : β) (l : List α) : (l.take l.length).foldl f a = l.foldl f a := by rw [List.take_length]

/-! ### one row of the table -/
def nxF (row : List Nat) (w : Nat) (f : List Nat) (x : Nat × Nat) : List Nat :=
  f ++ [min (min (row.getD x.2 0 + (if w = x.1 then 0 else 1)) (row.getD (x.2 + 1) 0 + 1)) (f.getD x.2 0 + 1)]
def nxT (row : List Nat) (w : Nat) (other : List Nat) (i : Nat) : List Nat := (other.zipIdx.take i).foldl (nxF row w) [row.getD 0 0 + 1]
def nxR (row : List Nat) (w : Nat) (other : List Nat) : List Nat := nxT row w other other.length
theorem zipIdx_at {α : Type} {l : List α} {i : Nat} {x : α} (h : l[i]? = some x) : l.zipIdx[i]? = some (x, i) := by
  rw [List.getElem?_zipIdx, h]; simp
theorem nxT_zero (row : List Nat) (w : Nat) (other : List Nat) : nxT row w other 0 = [row.getD 0 0 + 1] := rfl
theorem nxT_succ (row : List Nat) (w : Nat) (other : List Nat) {i : Nat} {x : Nat} (h : other[i]? = some x) : nxT row w other (i + 1) = nxF row w (nxT row w other i) (x, i) := ft _ _ (zipIdx_at h)
theorem nxT_len (row : List Nat) (w : Nat) (other : List Nat) : ∀ i, i ≤ other.length → (nxT row w other i).length = i + 1
  | 0, _ => rfl
  | i + 1, h => by
    rw [nxT_succ row w other (List.getElem?_eq_getElem (show i < other.length from h))]
    unfold nxF
    rw [List.length_append, nxT_len row w other i (by omega)]; rfl
theorem nxT_nextRow (row : List Nat) (w : Nat) (b : List Nat) (hr : row.length = b.length + 1) : ∀ i, i ≤ b.length →
    ((b.zip (row.zip (row.drop 1))).take i).foldl (fun (x : List Nat × Nat) y =>
      let v := min (min (y.2.2 + 1) (x.2 + 1)) (y.2.1 + if w = y.1 then 0 else 1)
      (v :: x.1, v)) ([row.getD 0 0 + 1], row.getD 0 0 + 1) = ((nxT row w b i).reverse, (nxT row w b i).getD i 0)
  | 0, _ => rfl
  | i + 1, h => by
    have hb : i < b.length := h
    have e1 : b[i]? = some b[i] := List.getElem?_eq_getElem hb
    have e2 : row[i]? = some row[i] := List.getElem?_eq_getElem (by omega)
    have e3 : row[i + 1]? = some row[i + 1] := List.getElem?_eq_getElem (by omega)
    have ez : (b.zip (row.zip (row.drop 1)))[i]? = some (b[i], row[i], row[i + 1]) := by
      rw [List.getElem?_zip_eq_some]
      refine ⟨e1, ?_⟩
      rw [List.getElem?_zip_eq_some]
      refine ⟨e2, ?_⟩
      rw [List.getElem?_drop, Nat.add_comm]
      exact e3
    rw [ft _ _ ez, nxT_nextRow row w b hr i (by omega), nxT_succ row w b e1]
    have hl := nxT_len row w b i (by omega)
    have g1 : row.getD i 0 = row[i] := by rw [List.getD_eq_getElem?_getD, e2]; rfl
    have g2 : row.getD (i + 1) 0 = row[i + 1] := by rw [List.getD_eq_getElem?_getD, e3]; rfl
    unfold nxF
    simp only [g1, g2]
    have ev : min (min (row[i + 1] + 1) ((nxT row w b i).getD i 0 + 1)) (row[i] + if w = b[i] then 0 else 1) = min (min (row[i] + if w = b[i] then 0 else 1) (row[i + 1] + 1)) ((nxT row w b i).getD i 0 + 1) := by
      omega
    rw [ev, List.reverse_append]
    generalize (min (min (row[i] + if w = b[i] then 0 else 1) (row[i + 1] + 1)) ((nxT row w b i).getD i 0 + 1)) = v
    have el : (nxT row w b i ++ [v]).getD (i + 1) 0 = v := by
      rw [List.getD_eq_getElem?_getD, List.getElem?_append_right (by omega), hl]; simp
    rw [el]; rfl
theorem nxR_nextRow (row : List Nat) (w : Nat) (b : List Nat) (hr : row.length = b.length + 1) : Ut10.nextRow w b row (row.getD 0 0 + 1) = nxR row w b := by
  have h := nxT_nextRow row w b hr b.length (Nat.le_refl _)
  have hz : (b.zip (row.zip (row.drop 1))).length = b.length := by
    simp only [List.length_zip, List.length_drop]; omega
  have e : (b.zip (row.zip (row.drop 1))).take b.length = b.zip (row.zip (row.drop 1)) := by
    rw [← hz, List.take_length]
  rw [e] at h
  unfold Ut10.nextRow
  rw [h]
  show (nxT row w b b.length).reverse.reverse = _
  rw [List.reverse_reverse]; rfl
theorem nxR_len (row : List Nat) (w : Nat) (b : List Nat) : (nxR row w b).length = b.length + 1 := nxT_len row w b _ (Nat.le_refl _)
theorem nxT_head (row : List Nat) (w : Nat) (other : List Nat) : ∀ i, i ≤ other.length → (nxT row w other i).getD 0 0 = row.getD 0 0 + 1
  | 0, _ => rfl
  | i + 1, h => by
    rw [nxT_succ row w other (List.getElem?_eq_getElem (show i < other.length from h))]
    have hl := nxT_len row w other i (by omega)
    have ih := nxT_head row w other i (by omega)
    unfold nxF
    rw [List.getD_eq_getElem?_getD, List.getElem?_append_left (by omega), ← List.getD_eq_getElem?_getD]
    exact ih

/-! ### the fewest changes -/
def chT (one other : List Nat) (i : Nat) : List Nat := (one.take i).foldl (fun row w => nxR row w other) (List.range (other.length + 1))
def chg (one other : List Nat) : Nat := (chT one other one.length).getD other.length 0
theorem chT_zero (one other : List Nat) : chT one other 0 = List.range (other.length + 1) := rfl
theorem chT_succ (one other : List Nat) {i : Nat} {w : Nat} (h : one[i]? = some w) : chT one other (i + 1) = nxR (chT one other i) w other := ft _ _ h
theorem chT_len (one other : List Nat) : ∀ i, i ≤ one.length → (chT one other i).length = other.length + 1
  | 0, _ => by rw [chT_zero, List.length_range]
  | i + 1, h => by
    rw [chT_succ one other (List.getElem?_eq_getElem (show i < one.length from h)), nxR_len]
theorem chT_head (one other : List Nat) : ∀ i, i ≤ one.length → (chT one other i).getD 0 0 = i
  | 0, _ => by rw [chT_zero]; simp [List.getD_eq_getElem?_getD, List.getElem?_range]
  | i + 1, h => by
    rw [chT_succ one other (List.getElem?_eq_getElem (show i < one.length from h))]
    unfold nxR
    rw [nxT_head _ _ _ _ (Nat.le_refl _), chT_head one other i (by omega)]
theorem chT_spec (one other : List Nat) : ∀ i, i ≤ one.length → (one.zipIdx.take i).foldl (fun row x => Ut10.nextRow x.1 other row (x.2 + 1)) (List.range (other.length + 1)) = chT one other i
  | 0, _ => rfl
  | i + 1, h => by
    have e := List.getElem?_eq_getElem (show i < one.length from h)
    rw [ft _ _ (zipIdx_at e), chT_spec one other i (by omega), chT_succ one other e]
    have hh := chT_head one other i (by omega)
    have := nxR_nextRow (chT one other i) one[i] other (chT_len one other i (by omega))
    rw [hh] at this
    exact this
theorem distance_chg (one other : List Nat) : Ut10.distance one other = chg one other := by
  unfold Ut10.distance
  have h := chT_spec one other one.length (Nat.le_refl _)
  have e : one.zipIdx.take one.length = one.zipIdx := by
    have hl : one.zipIdx.length = one.length := by simp
    rw [← hl, List.take_length]
  rw [e] at h
  rw [h]
  have hl := chT_len one other one.length (Nat.le_refl _)
  unfold chg
  generalize chT one other one.length = r at hl ⊢
  rw [List.getLastD_eq_getLast?, List.getLast?_eq_getElem?, hl, List.getD_eq_getElem?_getD]; rfl
/-! bounds -/
theorem nxT_bound (row : List Nat) (w : Nat) (b : List Nat) (k : Nat) (hr : row.length = b.length + 1) (hb : ∀ j, j ≤ b.length → row.getD j 0 ≤ max k j) : ∀ i, i ≤ b.length → ∀ j, j ≤ i → (nxT row w b i).getD j 0 ≤ max (k + 1) j
  | 0, _, j, hj => by
    have : j = 0 := by omega
    subst this
    have := hb 0 (by omega)
    show row.getD 0 0 + 1 ≤ _
    omega
  | i + 1, h, j, hj => by
    have hi : i < b.length := h
    rw [nxT_succ row w b (List.getElem?_eq_getElem hi)]
    have hl := nxT_len row w b i (by omega)
    unfold nxF
    by_cases hj2 : j ≤ i
    · have ih := nxT_bound row w b k hr hb i (by omega) j hj2
      rw [List.getD_eq_getElem?_getD, List.getElem?_append_left (by omega), ← List.getD_eq_getElem?_getD]
      exact ih
    · have : j = i + 1 := by omega
      subst this
      have h1 := hb i (by omega)
      rw [List.getD_eq_getElem?_getD, List.getElem?_append_right (by omega), hl]
      simp only [Nat.sub_self, List.getElem?_cons_zero, Option.getD_some]
      have h2 : (if w = b[i] then 0 else 1) ≤ 1 := by split <;> omega
      omega
theorem chT_bound (one other : List Nat) : ∀ i, i ≤ one.length → ∀ j, j ≤ other.length → (chT one other i).getD j 0 ≤ max i j
  | 0, _, j, hj => by
    rw [chT_zero]
    rw [List.getD_eq_getElem?_getD, List.getElem?_range (by omega)]
    simp
  | i + 1, h, j, hj => by
    rw [chT_succ one other (List.getElem?_eq_getElem (show i < one.length from h))]
    exact nxT_bound _ _ other i (chT_len one other i (by omega)) (chT_bound one other i (by omega)) other.length (Nat.le_refl _) j hj
theorem chg_le (one other : List Nat) : chg one other ≤ max one.length other.length := chT_bound one other one.length (Nat.le_refl _) other.length (Nat.le_refl _)

/-- how near, by the program -/
def nr (one other : List Nat) : Nat := 100 * (max one.length other.length - chg one other) / max one.length other.length
theorem nr_near {one other : List Nat} (h : 0 < one.length) : Ut10.near one other = nr one other := by
  unfold Ut10.near nr
  rw [if_neg (by omega), distance_chg]
/-- the running greatest -/
def nst (s : List Nat) (l : List (List Nat)) : Int := l.foldl (fun m x => max m (nr s x : Int)) (-1)
end Wc

set_option Elab.async false
namespace Wc
abbrev Band := Nat × Nat
/-! ### kinds -/
def bandOf (bands : List Band) (z : Int) : Nat := bands.findIdx (fun b => decide ((b.1 : Int) ≤ z)) + 1
def kd (bands : List Band) (memory ahead : List (List Nat)) (s : List Nat) : Nat := if ahead.contains s = true ∧ memory.contains s = false then 0 else bandOf bands (nst s (memory ++ ahead))
def kds (bands : List Band) (memory job : List (List Nat)) : List Nat := job.zipIdx.map fun x => kd bands memory (job.take x.2) x.1
theorem kds_len (bands : List Band) (memory job : List (List Nat)) : (kds bands memory job).length = job.length := by unfold kds; simp
theorem nst_neg (s : List Nat) : nst s [] = -1 := rfl
theorem fold_max (s : List Nat) : ∀ (l : List (List Nat)) (m : Nat), l.foldl (fun m x => max m (nr s x : Int)) (m : Int) = ((l.foldl (fun m x => max m (nr s x)) m : Nat) : Int)
  | [], _ => rfl
  | x :: l, m => by
    rw [List.foldl_cons, List.foldl_cons, ← fold_max s l]
    have e : max (m : Int) (nr s x : Int) = ((max m (nr s x) : Nat) : Int) := by omega
    rw [e]
theorem nst_pos (s : List Nat) : ∀ {l : List (List Nat)}, l ≠ [] → nst s l = ((l.foldl (fun m x => max m (nr s x)) 0 : Nat) : Int)
  | [], h => absurd rfl h
  | x :: l, _ => by
    unfold nst
    rw [List.foldl_cons, List.foldl_cons, ← fold_max s l]
    have e : max (-1 : Int) (nr s x : Int) = ((max 0 (nr s x) : Nat) : Int) := by omega
    rw [e]
theorem bandOf_le (bands : List Band) (z : Int) : bandOf bands z ≤ bands.length + 1 := by
  unfold bandOf
  have := List.findIdx_le_length (xs := bands) (p := fun b => decide ((b.1 : Int) ≤ z))
  omega
theorem bandOf_pos (bands : List Band) (z : Int) : 0 < bandOf bands z := Nat.succ_pos _
theorem bandOf_neg (bands : List Band) : bandOf bands (-1) = bands.length + 1 := by
  unfold bandOf
  rw [List.findIdx_eq_length_of_false]
  intro b _
  exact decide_eq_false (by omega)
theorem kd_le (bands : List Band) (memory ahead : List (List Nat)) (s : List Nat) : kd bands memory ahead s ≤ bands.length + 1 := by
  unfold kd
  split
  · omega
  · exact bandOf_le _ _
theorem near_fold {s : List Nat} (h : 0 < s.length) : ∀ (l : List (List Nat)) (m : Nat), l.foldl (fun m x => max m (Ut10.near s x)) m = l.foldl (fun m x => max m (nr s x)) m
  | [], _ => rfl
  | x :: l, m => by rw [List.foldl_cons, List.foldl_cons, nr_near h, near_fold h l]
theorem kindOf_kd {bands : List Band} {memory ahead : List (List Nat)} {s : List Nat} (h : 0 < s.length) : Ut10.kindOf bands memory ahead s = kd bands memory ahead s := by
  unfold Ut10.kindOf kd
  by_cases c : ahead.contains s = true ∧ memory.contains s = false
  · rw [if_pos c, if_pos c]
  · rw [if_neg c, if_neg c]
    simp only [near_fold h]
    by_cases hn : memory ++ ahead = []
    · rw [hn, nst_neg, bandOf_neg]
      simp only [List.isEmpty_nil]
      split <;> rfl
    · rw [nst_pos s hn]
      have hE : (memory ++ ahead).isEmpty = false := by
        cases q : memory ++ ahead with
        | nil => exact absurd q hn
        | cons _ _ => rfl
      generalize (memory ++ ahead).foldl (fun m x => max m (nr s x)) 0 = m
      rw [hE]
      unfold bandOf
      have ep : (fun b : Band => decide ((b.1 : Int) ≤ (m : Int))) = fun b => decide (b.1 ≤ m) := by
        funext b
        exact decide_eq_decide.mpr (by omega)
      rw [ep]
      cases hf : bands.findIdx? fun b => decide (b.1 ≤ m) with
      | none =>
        have := List.findIdx?_eq_none_iff_findIdx_eq.mp hf
        simp only [this]
      | some k =>
        have := (List.findIdx?_eq_some_iff_findIdx_eq.mp hf).2
        simp only [this]
        rfl
theorem kindsFrom_eq {bands : List Band} {memory : List (List Nat)} : ∀ (l ahead : List (List Nat)), (∀ s ∈ l, 0 < s.length) → Ut10.kindsFrom bands memory ahead l = l.zip ((l.zipIdx).map fun x => kd bands memory (ahead ++ l.take x.2) x.1)
  | [], _, _ => rfl
  | s :: l, ahead, h => by
    have ih := kindsFrom_eq (bands := bands) (memory := memory) l (ahead ++ [s]) (fun t ht => h t (List.mem_cons_of_mem _ ht))
    unfold Ut10.kindsFrom
    rw [ih, kindOf_kd (h s List.mem_cons_self), List.zipIdx_cons, List.map_cons, List.zip_cons_cons]
    have e1 : ahead ++ List.take ((s, 0) : List Nat × Nat).2 (s :: l) = ahead := by simp
    rw [e1]
    congr 2
    rw [Nat.zero_add, List.zipIdx_succ, List.map_map]
    apply List.map_congr_left
    intro x _
    show kd bands memory (ahead ++ [s] ++ l.take x.2) x.1 = kd bands memory (ahead ++ (s :: l).take (x.2 + 1)) x.1
    rw [List.take_succ_cons, List.append_assoc]; rfl
theorem kindsFrom_kds {bands : List Band} {memory l : List (List Nat)} (h : ∀ s ∈ l, 0 < s.length) : Ut10.kindsFrom bands memory [] l = l.zip (kds bands memory l) := by
  rw [kindsFrom_eq l [] h]
  rfl

/-! ### counts -/
def ctF (f : List Nat) (x : List Nat × Nat) : List Nat := f.set x.2 (f.getD x.2 0 + x.1.length)
def ctT (job : List (List Nat)) (kinds : List Nat) (many i : Nat) : List Nat := ((job.zip kinds).take i).foldl ctF (List.replicate many 0)
def ct (job : List (List Nat)) (kinds : List Nat) (many : Nat) : List Nat := (job.zip kinds).foldl ctF (List.replicate many 0)
def cts (job memory : List (List Nat)) (bands : List Band) : List Nat := ct job (kds bands memory job) (bands.length + 2)
theorem ctF_len (f : List Nat) (x : List Nat × Nat) : (ctF f x).length = f.length := by unfold ctF; simp
theorem ctL_len : ∀ (l : List (List Nat × Nat)) (f : List Nat), (l.foldl ctF f).length = f.length
  | [], _ => rfl
  | x :: l, f => by rw [List.foldl_cons, ctL_len l, ctF_len]
theorem ct_len (job : List (List Nat)) (kinds : List Nat) (many : Nat) : (ct job kinds many).length = many := by
  unfold ct; rw [ctL_len, List.length_replicate]
theorem ctT_len (job : List (List Nat)) (kinds : List Nat) (many i : Nat) : (ctT job kinds many i).length = many := by
  unfold ctT; rw [ctL_len, List.length_replicate]
def cnt (l : List (List Nat × Nat)) (k : Nat) : Nat := ((l.filter fun y => y.2 == k).map fun y => y.1.length).sum
theorem cnt_cons (x : List Nat × Nat) (l : List (List Nat × Nat)) (k : Nat) : cnt (x :: l) k = (if x.2 = k then x.1.length else 0) + cnt l k := by
  unfold cnt
  rw [List.filter_cons]
  by_cases h : x.2 = k
  · rw [if_pos (by simpa using h), if_pos h, List.map_cons, List.sum_cons]
  · rw [if_neg (by simpa using h), if_neg h, Nat.zero_add]
theorem ctL_at : ∀ (l : List (List Nat × Nat)) (f : List Nat) (k : Nat), k < f.length → (l.foldl ctF f).getD k 0 = f.getD k 0 + cnt l k
  | [], _, _, _ => rfl
  | x :: l, f, k, h => by
    rw [List.foldl_cons, ctL_at l (ctF f x) k (by rw [ctF_len]; exact h), cnt_cons]
    unfold ctF
    by_cases e : x.2 = k
    · subst e
      rw [if_pos rfl, List.getD_eq_getElem?_getD, List.getElem?_set_self h]
      simp only [Option.getD_some]
      omega
    · rw [if_neg e, List.getD_eq_getElem?_getD, List.getElem?_set_ne e, ← List.getD_eq_getElem?_getD]
      omega
theorem ct_eq (job : List (List Nat)) (kinds : List Nat) (many : Nat) : ct job kinds many = (List.range many).map fun k => cnt (job.zip kinds) k := by
  apply List.ext_getElem?
  intro k
  by_cases h : k < many
  · have h1 : k < (ct job kinds many).length := by rw [ct_len]; exact h
    have h3 := ctL_at (job.zip kinds) (List.replicate many 0) k (by rw [List.length_replicate]; exact h)
    have h4 : (List.replicate many 0).getD k 0 = 0 := by simp [List.getD_eq_getElem?_getD, List.getElem?_replicate, h]
    rw [h4, Nat.zero_add] at h3
    rw [List.getElem?_map, List.getElem?_range h]
    rw [List.getElem?_eq_getElem h1]
    have h5 : (ct job kinds many).getD k 0 = (ct job kinds many)[k] := by rw [List.getD_eq_getElem?_getD, List.getElem?_eq_getElem h1]; rfl
    rw [← h5]
    show some ((ct job kinds many).getD k 0) = some (cnt (job.zip kinds) k)
    unfold ct
    rw [h3]
  · rw [List.getElem?_eq_none (by rw [ct_len]; omega), List.getElem?_eq_none (by simp; omega)]
/-! ### weights -/
def pd (again : Nat) (bands : List Band) (kind : Nat) : Nat := if kind = 0 then again else if kind ≤ bands.length then (bands.getD (kind - 1) (0, 0)).2 else 100
def wt (counts : List Nat) (again : Nat) (bands : List Band) : Nat := (counts.zipIdx.map fun x => x.1 * pd again bands x.2).sum
theorem pays_pd (g : Ut10.St) (k : Nat) : Ut10.pays g k = pd g.again g.bands k := by
  unfold Ut10.pays pd
  split
  · rfl
  · split
    · rename_i h1 h2
      rw [List.getD_eq_getElem?_getD, List.getElem?_eq_getElem (show k - 1 < g.bands.length by omega)]; rfl
    · rename_i h1 h2
      rw [List.getElem?_eq_none (by omega)]; rfl
theorem sum_zero (n : Nat) : ((List.range n).map fun _ => 0).sum = 0 := by
  induction n with
  | zero => rfl
  | succ n ih => rw [List.range_succ, List.map_append, List.sum_append, ih]; rfl
theorem sum_add (n : Nat) (f g : Nat → Nat) : ((List.range n).map fun k => f k + g k).sum = ((List.range n).map f).sum + ((List.range n).map g).sum := by
  induction n with
  | zero => rfl
  | succ n ih => 
    rw [List.range_succ, List.map_append, List.map_append, List.map_append, List.sum_append, List.sum_append, List.sum_append, ih]
    simp only [List.map_cons, List.map_nil, List.sum_cons, List.sum_nil]
    omega
theorem sum_one (n m a : Nat) (p : Nat → Nat) (h : m < n) : ((List.range n).map fun k => (if m = k then a else 0) * p k).sum = a * p m := by
  induction n with
  | zero => omega
  | succ n ih =>
    rw [List.range_succ, List.map_append, List.sum_append]
    simp only [List.map_cons, List.map_nil, List.sum_cons, List.sum_nil, Nat.add_zero]
    by_cases e : m = n
    · subst e
      rw [if_pos rfl]
      have : ((List.range m).map fun k => (if m = k then a else 0) * p k) = (List.range m).map fun _ => 0 := by
        apply List.map_congr_left
        intro k hk
        rw [if_neg (by have := List.mem_range.mp hk; omega), Nat.zero_mul]
      rw [this, sum_zero, Nat.zero_add]
    · rw [if_neg e, ih (by omega), Nat.zero_mul, Nat.add_zero]
theorem sum_kinds (n : Nat) (p : Nat → Nat) : ∀ (l : List (List Nat × Nat)), (∀ y ∈ l, y.2 < n) → ((List.range n).map fun k => cnt l k * p k).sum = (l.map fun y => y.1.length * p y.2).sum
  | [], _ => by
    have : ((List.range n).map fun k => cnt [] k * p k) = (List.range n).map fun _ => 0 := by
      apply List.map_congr_left
      intro k _
      show 0 * p k = 0
      rw [Nat.zero_mul]
    rw [this, sum_zero]; rfl
  | y :: l, h => by
    have ih := sum_kinds n p l (fun z hz => h z (List.mem_cons_of_mem _ hz))
    have e : ((List.range n).map fun k => cnt (y :: l) k * p k) = (List.range n).map fun k => (if y.2 = k then y.1.length else 0) * p k + cnt l k * p k := by
      apply List.map_congr_left
      intro k _
      rw [cnt_cons, Nat.add_mul]
    rw [e, sum_add, ih, sum_one _ _ _ _ (h y List.mem_cons_self), List.map_cons, List.sum_cons]
theorem wt_eq (n again : Nat) (bands : List Band) (f : Nat → Nat) : wt ((List.range n).map f) again bands = ((List.range n).map fun k => f k * pd again bands k).sum := by
  unfold wt
  congr 1
  apply List.ext_getElem?
  intro k
  by_cases h : k < n
  · rw [List.getElem?_map, List.getElem?_zipIdx, List.getElem?_map, List.getElem?_map, List.getElem?_range h]
    simp
  · rw [List.getElem?_eq_none (by simp; omega), List.getElem?_eq_none (by simp; omega)]
theorem kds_lt (bands : List Band) (memory job : List (List Nat)) : ∀ k ∈ kds bands memory job, k < bands.length + 2 := by
  intro k hk
  unfold kds at hk
  obtain ⟨x, _, rfl⟩ := List.mem_map.mp hk
  have := kd_le bands memory (job.take x.2) x.1
  omega
theorem counts_cts (g : Ut10.St) (l : List Ut10.File) (h : ∀ s ∈ Ut10.allOf l, 0 < s.length) : Ut10.counts g l = cts (Ut10.allOf l) g.memory g.bands := by
  unfold Ut10.counts cts
  rw [ct_eq, kindsFrom_kds h]; rfl
theorem weight_wt (g : Ut10.St) (l : List Ut10.File) (h : ∀ s ∈ Ut10.allOf l, 0 < s.length) : Ut10.weight g l = wt (cts (Ut10.allOf l) g.memory g.bands) g.again g.bands := by
  unfold Ut10.weight cts
  rw [ct_eq, wt_eq, kindsFrom_kds h, sum_kinds]
  · congr 1
    apply List.map_congr_left
    intro y _
    rw [pays_pd]
  · intro y hy
    exact kds_lt _ _ _ _ (List.of_mem_zip hy).2
end Wc

set_option Elab.async false
namespace Wc
/-! ### all deals -/
def aD (hands : Nat) : Nat → List (List Nat)
  | 0 => [[]]
  | n + 1 => (aD hands n).flatMap fun d => (List.range hands).map fun h => d ++ [h]
theorem deals_snoc (hands : Nat) : ∀ n, Ut10.deals hands (n + 1) = (Ut10.deals hands n).flatMap fun d => (List.range hands).map fun h => d ++ [h]
  | 0 => by
    show (List.range hands).flatMap (fun h => [([] : List Nat)].map fun d => h :: d) = [([] : List Nat)].flatMap _
    simp [List.flatMap_cons]
    rw [List.map_eq_flatMap]
  | n + 1 => by
    have ih := deals_snoc hands n
    show (List.range hands).flatMap (fun h => (Ut10.deals hands (n + 1)).map fun d => h :: d) = ((List.range hands).flatMap (fun h => (Ut10.deals hands n).map fun d => h :: d)).flatMap _
    rw [List.flatMap_assoc, ih]
    congr 1
    funext h
    rw [List.map_flatMap, List.flatMap_map]
    congr 1
    funext d
    rw [List.map_map]; rfl
theorem aD_deals (hands : Nat) : ∀ n, aD hands n = Ut10.deals hands n
  | 0 => rfl
  | n + 1 => by
    rw [deals_snoc, ← aD_deals hands n]; rfl
theorem aD_mem (hands : Nat) : ∀ n, ∀ d ∈ aD hands n, d.length = n ∧ ∀ h ∈ d, h < hands
  | 0, d, hd => by
    have : d = [] := by simpa [aD] using hd
    subst this
    exact ⟨rfl, fun h hh => by cases hh⟩
  | n + 1, d, hd => by
    obtain ⟨e, he, hm⟩ := List.mem_flatMap.mp hd
    obtain ⟨h, hh, rfl⟩ := List.mem_map.mp hm
    obtain ⟨l, a⟩ := aD_mem hands n e he
    refine ⟨by rw [List.length_append, l]; rfl, fun x hx => ?_⟩
    rcases List.mem_append.mp hx with q | q
    · exact a x q
    · have : x = h := by simpa using q
      subst this
      exact List.mem_range.mp hh
theorem aD_len (hands : Nat) : ∀ n, (aD hands n).length = hands ^ n
  | 0 => rfl
  | n + 1 => by
    have : ∀ l : List (List Nat), (l.flatMap fun d => (List.range hands).map fun h => d ++ [h]).length = l.length * hands := by
      intro l
      induction l with
      | nil => simp
      | cons d l ih => rw [List.flatMap_cons, List.length_append, ih, List.length_map, List.length_range, List.length_cons, Nat.succ_mul, Nat.add_comm]
    show ((aD hands n).flatMap _).length = _
    rw [this, aD_len hands n, Nat.pow_succ]
theorem deals_head {hands : Nat} (h : 0 < hands) : ∀ n, ∃ r, Ut10.deals hands n = List.replicate n 0 :: r
  | 0 => ⟨[], rfl⟩
  | n + 1 => by
    obtain ⟨r, e⟩ := deals_head h n
    obtain ⟨k, rfl⟩ : ∃ k, hands = k + 1 := ⟨hands - 1, by omega⟩
    show ∃ r, (List.range (k + 1)).flatMap (fun h => (Ut10.deals (k + 1) n).map fun d => h :: d) = _
    rw [List.range_succ_eq_map, List.flatMap_cons, e, List.map_cons, List.replicate_succ]
    exact ⟨_, rfl⟩
/-! ### loads -/
def ldF (f : List Nat) (x : Nat × Nat) : List Nat := f.set x.1 (f.getD x.1 0 + x.2)
def ld (deal weights : List Nat) (hands : Nat) : List Nat := (deal.zip weights).foldl ldF (List.replicate hands 0)
def ldT (deal weights : List Nat) (hands i : Nat) : List Nat := ((deal.zip weights).take i).foldl ldF (List.replicate hands 0)
theorem ldL_len : ∀ (l : List (Nat × Nat)) (f : List Nat), (l.foldl ldF f).length = f.length
  | [], _ => rfl
  | x :: l, f => by
    rw [List.foldl_cons, ldL_len l]; unfold ldF; simp
theorem ld_len (deal weights : List Nat) (hands : Nat) : (ld deal weights hands).length = hands := by
  unfold ld; rw [ldL_len, List.length_replicate]
theorem ldT_len (deal weights : List Nat) (hands i : Nat) : (ldT deal weights hands i).length = hands := by
  unfold ldT; rw [ldL_len, List.length_replicate]
theorem ldL_at : ∀ (d w f : List Nat) (k : Nat), k < f.length → ((d.zip w).foldl ldF f).getD k 0 = f.getD k 0 + ((w.zip d).map fun x => if x.2 = k then x.1 else 0).sum
  | [], w, f, k, _ => by simp
  | h :: d, [], f, k, _ => by simp
  | h :: d, a :: w, f, k, hk => by
    rw [List.zip_cons_cons, List.zip_cons_cons, List.foldl_cons, ldL_at d w (ldF f (h, a)) k (by unfold ldF; simpa using hk), List.map_cons, List.sum_cons]
    unfold ldF
    by_cases e : h = k
    · subst e
      rw [if_pos rfl, List.getD_eq_getElem?_getD, List.getElem?_set_self hk]
      simp only [Option.getD_some]
      omega
    · rw [if_neg e, List.getD_eq_getElem?_getD, List.getElem?_set_ne e, ← List.getD_eq_getElem?_getD]
      omega
theorem ld_loads (deal weights : List Nat) (hands : Nat) : ld deal weights hands = Ut10.loads weights hands deal := by
  unfold Ut10.loads
  apply List.ext_getElem?
  intro k
  by_cases h : k < hands
  · have h3 := ldL_at deal weights (List.replicate hands 0) k (by rw [List.length_replicate]; exact h)
    have h4 : (List.replicate hands 0).getD k 0 = 0 := by simp [List.getD_eq_getElem?_getD, h]
    rw [h4, Nat.zero_add] at h3
    have h1 : k < (ld deal weights hands).length := by rw [ld_len]; exact h
    rw [List.getElem?_map, List.getElem?_range h, List.getElem?_eq_getElem h1]
    have h5 : (ld deal weights hands).getD k 0 = (ld deal weights hands)[k] := by rw [List.getD_eq_getElem?_getD, List.getElem?_eq_getElem h1]; rfl
    rw [← h5]
    unfold ld
    rw [h3]; rfl
  · rw [List.getElem?_eq_none (by rw [ld_len]; omega), List.getElem?_eq_none (by simp; omega)]
/-! ### most, fewest -/
theorem foldl_max_le : ∀ (l : List Nat) (a : Nat), a ≤ l.foldl max a ∧ ∀ y ∈ l, y ≤ l.foldl max a
  | [], a => ⟨Nat.le_refl _, fun y h => by cases h⟩
  | x :: l, a => by
    obtain ⟨h1, h2⟩ := foldl_max_le l (max a x)
    rw [List.foldl_cons]
    refine ⟨by omega, fun y hy => ?_⟩
    rcases List.mem_cons.mp hy with e | e
    · subst e; omega
    · exact h2 y e
theorem foldl_max_mem : ∀ (l : List Nat) (a : Nat), l.foldl max a = a ∨ l.foldl max a ∈ l
  | [], a => .inl rfl
  | x :: l, a => by
    rw [List.foldl_cons]
    rcases foldl_max_mem l (max a x) with e | e
    · by_cases h : x ≤ a
      · left; rw [e]; omega
      · right; rw [e]; exact List.mem_cons.mpr (.inl (by omega))
    · right; exact List.mem_cons_of_mem _ e
theorem most_is {l : List Nat} {m : Nat} (hm : m ∈ l) (h : ∀ y ∈ l, y ≤ m) : Ut10.most l = m := by
  unfold Ut10.most
  have h1 := (foldl_max_le l 0).2 m hm
  rcases foldl_max_mem l 0 with e | e
  · omega
  · have := h _ e; omega
theorem foldl_min_le : ∀ (l : List Nat) (a : Nat), l.foldl min a ≤ a ∧ ∀ y ∈ l, l.foldl min a ≤ y
  | [], a => ⟨Nat.le_refl _, fun y h => by cases h⟩
  | x :: l, a => by
    obtain ⟨h1, h2⟩ := foldl_min_le l (min a x)
    rw [List.foldl_cons]
    refine ⟨by omega, fun y hy => ?_⟩
    rcases List.mem_cons.mp hy with e | e
    · subst e; omega
    · exact h2 y e
theorem foldl_min_mem : ∀ (l : List Nat) (a : Nat), l.foldl min a = a ∨ l.foldl min a ∈ l
  | [], a => .inl rfl
  | x :: l, a => by
    rw [List.foldl_cons]
    rcases foldl_min_mem l (min a x) with e | e
    · by_cases h : a ≤ x
      · left; rw [e]; omega
      · right; rw [e]; exact List.mem_cons.mpr (.inl (by omega))
    · right; exact List.mem_cons_of_mem _ e
theorem fewest_is {l : List Nat} {m : Nat} (hm : m ∈ l) (h : ∀ y ∈ l, m ≤ y) : Ut10.fewest l = m := by
  cases l with
  | nil => cases hm
  | cons x r =>
    show r.foldl min x = m
    obtain ⟨h1, h2⟩ := foldl_min_le r x
    have h3 : r.foldl min x ≤ m := by
      rcases List.mem_cons.mp hm with e | e
      · subst e; exact h1
      · exact h2 m e
    rcases foldl_min_mem r x with e | e
    · have := h x List.mem_cons_self; omega
    · have := h _ (List.mem_cons_of_mem _ e); omega
/-! ### the best deal -/
def bt (one other : List Nat) : Bool := if Ut10.most one ≠ Ut10.most other then decide (Ut10.most one < Ut10.most other) else decide (Ut10.fewest other < Ut10.fewest one)
theorem bt_better (w : List Nat) (hands : Nat) (d e : List Nat) : bt (ld d w hands) (ld e w hands) = Ut10.better w hands d e := by
  unfold bt Ut10.better
  rw [ld_loads, ld_loads]
  generalize Ut10.most (Ut10.loads w hands d) = a
  generalize Ut10.most (Ut10.loads w hands e) = b
  by_cases h : a = b
  · subst h
    simp
  · simp [h]
def bdF (w : List Nat) (hands : Nat) (b x : List Nat) : List Nat := if bt (ld x w hands) (ld b w hands) = true then x else b
def bd (w : List Nat) (hands : Nat) : List Nat := (aD hands w.length).foldl (bdF w hands) (List.replicate w.length 0)
def bdT (w : List Nat) (hands i : Nat) : List Nat := ((aD hands w.length).take i).foldl (bdF w hands) (List.replicate w.length 0)
theorem bt_self (a : List Nat) : bt a a = false := by
  unfold bt; simp
theorem bd_deal {w : List Nat} {hands : Nat} (h : 0 < hands) : bd w hands = Ut10.deal w hands := by
  unfold bd Ut10.deal
  rw [aD_deals]
  obtain ⟨r, e⟩ := deals_head h w.length
  rw [e]
  show (List.replicate w.length 0 :: r).foldl (bdF w hands) (List.replicate w.length 0) = r.foldl _ (List.replicate w.length 0)
  have e0 : bdF w hands (List.replicate w.length 0) (List.replicate w.length 0) = List.replicate w.length 0 := by
    unfold bdF; rw [bt_self]; rfl
  rw [List.foldl_cons, e0]
  congr 1
  funext b x
  unfold bdF
  rw [bt_better]
theorem bdT_ok {w : List Nat} {hands : Nat} (h : 0 < hands) : ∀ i, i ≤ (aD hands w.length).length → (bdT w hands i).length = w.length ∧ ∀ k ∈ bdT w hands i, k < hands
  | 0, _ => by
    refine ⟨by unfold bdT; simp, fun k hk => ?_⟩
    have : k = 0 := by
      unfold bdT at hk
      exact (List.mem_replicate.mp hk).2
    omega
  | i + 1, hi => by
    have ih := bdT_ok (w := w) h i (by omega)
    have e := List.getElem?_eq_getElem (show i < (aD hands w.length).length from hi)
    unfold bdT
    rw [ft _ _ e]
    show (bdF w hands (bdT w hands i) _).length = _ ∧ ∀ k ∈ bdF w hands (bdT w hands i) _, k < hands
    unfold bdF
    split
    · exact aD_mem hands w.length _ (List.getElem_mem _)
    · exact ih
theorem bd_ok {w : List Nat} {hands : Nat} (h : 0 < hands) : (bd w hands).length = w.length ∧ ∀ k ∈ bd w hands, k < hands := by
  have := bdT_ok (w := w) h _ (Nat.le_refl _)
  unfold bdT at this
  rw [List.take_length] at this
  exact this
end Wc

set_option Elab.async false
namespace Wc
abbrev Sent := List Nat
/-! ### done's memory -/
def dnF (m : List Sent) (s : Sent) : List Sent := if m.contains s = true then m else m ++ [s]
def dnT (m ss : List Sent) (i : Nat) : List Sent := (ss.take i).foldl dnF m
theorem dnF_has {m : List Sent} {a x : Sent} (h : m.contains a = true) : (dnF m x).contains a = true := by
  unfold dnF
  split
  · exact h
  · simp only [List.contains_iff_mem] at h ⊢
    exact List.mem_append_left _ h
theorem dn_skip (a : Sent) : ∀ (ss m : List Sent), m.contains a = true → ss.foldl dnF m = (ss.filter fun b => !b == a).foldl dnF m
  | [], _, _ => rfl
  | x :: ss, m, h => by
    rw [List.foldl_cons, List.filter_cons]
    by_cases e : x = a
    · subst e
      rw [if_neg (by simp)]
      have : dnF m x = m := by unfold dnF; rw [if_pos h]
      rw [this]
      exact dn_skip x ss m h
    · rw [if_pos (by simpa using e), List.foldl_cons]
      exact dn_skip a ss _ (dnF_has h)
theorem dn_eq : ∀ (n : Nat) (ss m : List Sent), ss.length ≤ n → ss.foldl dnF m = m ++ (ss.eraseDups.filter fun s => !m.contains s)
  | 0, ss, m, h => by
    have : ss = [] := List.length_eq_zero_iff.mp (by omega)
    subst this
    simp
  | n + 1, [], m, h => by simp
  | n + 1, a :: as, m, h => by
    have hl : (as.filter fun b => !b == a).length ≤ n := by
      have := List.length_filter_le (fun b => !b == a) as
      simp only [List.length_cons] at h
      omega
    rw [List.foldl_cons, List.eraseDups_cons]
    by_cases c : m.contains a = true
    · have e1 : dnF m a = m := by unfold dnF; rw [if_pos c]
      rw [e1, dn_skip a as m c, dn_eq n _ m hl, List.filter_cons, if_neg (by simpa using c)]
    · have e1 : dnF m a = m ++ [a] := by unfold dnF; rw [if_neg c]
      have c2 : (m ++ [a]).contains a = true := by simp
      have c3 : (!m.contains a) = true := by simpa using c
      rw [e1, dn_skip a as _ c2, dn_eq n _ _ hl, List.filter_cons, if_pos c3, List.append_assoc]
      congr 1
      show a :: _ = a :: _
      congr 1
      apply List.filter_congr
      intro x hx
      have hx2 := List.mem_eraseDups.mp hx
      have hx3 : x ≠ a := by
        have := (List.mem_filter.mp hx2).2
        simpa using this
      simp [hx3]
theorem dn_spec (m ss : List Sent) : dnT m ss ss.length = m ++ (ss.eraseDups.filter fun s => !m.contains s) := by
  unfold dnT
  rw [List.take_length]
  exact dn_eq ss.length ss m (Nat.le_refl _)
theorem dnT_succ (m ss : List Sent) {i : Nat} {s : Sent} (h : ss[i]? = some s) : dnT m ss (i + 1) = dnF (dnT m ss i) s := ft _ _ h
theorem dnT_len (m ss : List Sent) : ∀ i, i ≤ ss.length → (dnT m ss i).length ≤ m.length + i
  | 0, _ => Nat.le_refl _
  | i + 1, h => by
    rw [dnT_succ m ss (List.getElem?_eq_getElem (show i < ss.length from h))]
    have ih := dnT_len m ss i (by omega)
    unfold dnF
    split
    · omega
    · rw [List.length_append]; simp only [List.length_cons, List.length_nil]; omega
/-! ### numbers none told twice -/
theorem eraseDups_le : ∀ (n : Nat) (l : List Nat), l.length ≤ n → l.eraseDups.length ≤ l.length
  | 0, l, h => by
    have : l = [] := List.length_eq_zero_iff.mp (by omega)
    subst this; simp
  | n + 1, [], h => by simp
  | n + 1, a :: as, h => by
    have hl := List.length_filter_le (fun b => !b == a) as
    simp only [List.length_cons] at h
    have := eraseDups_le n (as.filter fun b => !b == a) (by omega)
    rw [List.eraseDups_cons]
    simp only [List.length_cons]
    omega
theorem eraseDups_nodup : ∀ (n : Nat) (l : List Nat), l.length ≤ n → (l.eraseDups.length = l.length ↔ l.Nodup)
  | 0, l, h => by
    have : l = [] := List.length_eq_zero_iff.mp (by omega)
    subst this; simp
  | n + 1, [], h => by simp
  | n + 1, a :: as, h => by
    have hl := List.length_filter_le (fun b => !b == a) as
    simp only [List.length_cons] at h
    have h1 := eraseDups_le n (as.filter fun b => !b == a) (by omega)
    rw [List.eraseDups_cons, List.nodup_cons]
    simp only [List.length_cons]
    constructor
    · intro e
      have e2 : (as.filter fun b => !b == a).length = as.length := by omega
      have e3 : as.filter (fun b => !b == a) = as := List.filter_eq_self.mpr (by
        have := List.length_filter_eq_length_iff.mp e2
        exact this)
      refine ⟨fun hm => ?_, ?_⟩
      · have := List.length_filter_eq_length_iff.mp e2 a hm
        simp at this
      · rw [e3] at e
        exact (eraseDups_nodup n as (by omega)).mp (by omega)
    · rintro ⟨ha, hn⟩
      have e3 : as.filter (fun b => !b == a) = as := List.filter_eq_self.mpr (by
        intro b hb
        have : b ≠ a := fun e => ha (by rw [← e]; exact hb)
        simpa using this)
      rw [e3]
      have := (eraseDups_nodup n as (by omega)).mpr hn
      omega
theorem dups_iff (l : List Nat) : l.eraseDups.length = l.length ↔ l.Nodup := eraseDups_nodup l.length l (Nat.le_refl _)
/-! ### files -/
def nums (g : Ut10.St) : List Nat := g.files.map (·.number)
def has (g : Ut10.St) (n : Nat) : Bool := (nums g).contains n
theorem fileOf_some {g : Ut10.St} {n : Nat} (h : has g n = true) : ∃ f, Ut10.fileOf g n = some f ∧ f ∈ g.files ∧ f.number = n ∧ (g.files.filter fun f => f.number == n).head? = some f := by
  unfold has nums at h
  rw [List.contains_iff_mem] at h
  obtain ⟨f, hf, e⟩ := List.mem_map.mp h
  cases q : Ut10.fileOf g n with
  | none =>
    unfold Ut10.fileOf at q
    have := List.find?_eq_none.mp q f hf
    simp [e] at this
  | some f' =>
    unfold Ut10.fileOf at q
    refine ⟨f', rfl, List.mem_of_find?_eq_some q, ?_, ?_⟩
    · have := List.find?_some q
      simpa using this
    · rw [List.head?_filter]; exact q
theorem fileOf_none {g : Ut10.St} {n : Nat} (h : has g n = false) : Ut10.fileOf g n = none := by
  unfold Ut10.fileOf
  rw [List.find?_eq_none]
  intro f hf e
  have : has g n = true := by
    unfold has nums
    rw [List.contains_iff_mem]
    exact List.mem_map.mpr ⟨f, hf, by simpa using e⟩
  rw [h] at this
  cases this
def sOf (g : Ut10.St) (n : Nat) : List Sent := match Ut10.fileOf g n with
  | some f => f.sents
  | none => []
def jobL (g : Ut10.St) (l : List Nat) : List Nat := if l = [] then nums g else l
def arf (g : Ut10.St) (l : List Nat) : Bool := decide l.Nodup && l.all (has g)
def jobT (g : Ut10.St) (l : List Nat) (i : Nat) : List Sent := ((jobL g l).take i).flatMap (sOf g)
def jobS (g : Ut10.St) (l : List Nat) : List Sent := (jobL g l).flatMap (sOf g)
theorem mapM_some {g : Ut10.St} : ∀ {l : List Nat}, l.all (has g) = true → ∃ x, l.mapM (Ut10.fileOf g) = some x ∧ Ut10.allOf x = l.flatMap (sOf g) ∧ ∀ f ∈ x, f ∈ g.files
  | [], _ => ⟨[], rfl, rfl, fun f h => by cases h⟩
  | n :: l, h => by
    rw [List.all_cons, Bool.and_eq_true] at h
    obtain ⟨f, e, hf, _⟩ := fileOf_some h.1
    obtain ⟨x, e1, e2, e3⟩ := mapM_some h.2
    refine ⟨f :: x, ?_, ?_, ?_⟩
    · rw [List.mapM_cons, e, e1]; rfl
    · show f.sents ++ Ut10.allOf x = _
      rw [e2, List.flatMap_cons]
      unfold sOf
      rw [e]
    · intro y hy
      rcases List.mem_cons.mp hy with q | q
      · subst q; exact hf
      · exact e3 y q
theorem mapM_none {g : Ut10.St} : ∀ {l : List Nat}, l.all (has g) = false → l.mapM (Ut10.fileOf g) = none
  | [], h => by cases h
  | n :: l, h => by
    rw [List.mapM_cons]
    cases c : has g n with
    | false => rw [fileOf_none c]; rfl
    | true =>
      rw [List.all_cons, c, Bool.true_and] at h
      obtain ⟨f, e, _⟩ := fileOf_some c
      rw [e, mapM_none h]; rfl
theorem jobS_nums (g : Ut10.St) (hn : (nums g).Nodup) : (nums g).flatMap (sOf g) = Ut10.allOf g.files := by
  have key : ∀ (l pre : List Ut10.File), g.files = pre ++ l → (l.map (·.number)).flatMap (sOf g) = Ut10.allOf l := by
    intro l
    induction l with
    | nil => intro _ _; rfl
    | cons f l ih =>
      intro pre e
      rw [List.map_cons, List.flatMap_cons, ih (pre ++ [f]) (by rw [e]; simp)]
      show sOf g f.number ++ Ut10.allOf l = f.sents ++ Ut10.allOf l
      congr 1
      have : Ut10.fileOf g f.number = some f := by
        unfold Ut10.fileOf
        rw [e, List.find?_append]
        have h0 : pre.find? (fun x => x.number == f.number) = none := by
          rw [List.find?_eq_none]
          intro y hy c
          unfold nums at hn
          rw [e, List.map_append, List.nodup_append] at hn
          exact hn.2.2 y.number (List.mem_map.mpr ⟨y, hy, rfl⟩) f.number (List.mem_map.mpr ⟨f, List.mem_cons_self, rfl⟩) (by simpa using c)
        rw [h0]
        simp
      unfold sOf
      rw [this]
  exact key g.files [] rfl
theorem job_some {g : Ut10.St} {l : List Nat} (hn : (nums g).Nodup) (h : arf g l = true) : ∃ x, Ut10.job g l = some x ∧ Ut10.allOf x = jobS g l ∧ ∀ f ∈ x, f ∈ g.files := by
  unfold arf at h
  rw [Bool.and_eq_true, decide_eq_true_eq] at h
  unfold Ut10.job jobS jobL
  by_cases e : l = []
  · rw [if_pos e, if_pos e]
    exact ⟨_, rfl, (jobS_nums g hn).symm, fun f hf => hf⟩
  · rw [if_neg e, if_neg e, if_neg (by rw [(dups_iff l).mpr h.1]; simp)]
    exact mapM_some h.2
theorem job_none {g : Ut10.St} {l : List Nat} (h : arf g l = false) : Ut10.job g l = none := by
  unfold Ut10.job
  unfold arf at h
  by_cases e : l = []
  · subst e; simp at h
  · rw [if_neg e]
    by_cases c : l.Nodup
    · rw [decide_eq_true c, Bool.true_and] at h
      rw [if_neg (by rw [(dups_iff l).mpr c]; simp)]
      exact mapM_none h
    · rw [if_pos (fun q => c ((dups_iff l).mp q))]
/-! ### bands -/
def bgd (bands : List Band) (i : Nat) : Bool := decide ((bands.getD i (0, 0)).1 ≤ 100) && (decide ((bands.getD i (0, 0)).2 ≤ 100) && (decide (i = 0) || decide ((bands.getD i (0, 0)).1 < (bands.getD (i - 1) (0, 0)).1)))
def arb (bands : List Band) : Bool := decide (bands.length ≤ 4) && (List.range bands.length).all (bgd bands)
theorem falling_iff : ∀ l : List Band, Ut10.falling l = true ↔ ∀ i, i + 1 < l.length → (l.getD (i + 1) (0, 0)).1 < (l.getD i (0, 0)).1
  | [] => by simp [Ut10.falling]
  | [a] => by simp [Ut10.falling]
  | a :: b :: l => by
    have ih := falling_iff (b :: l)
    unfold Ut10.falling
    rw [Bool.and_eq_true, decide_eq_true_eq, ih]
    constructor
    · rintro ⟨h1, h2⟩ i hi
      cases i with
      | zero => exact h1
      | succ i => exact h2 i (by simpa using hi)
    · intro h
      exact ⟨h 0 (by simp), fun i hi => h (i + 1) (by simpa using hi)⟩
theorem arb_iff (l : List Band) : arb l = true ↔ ¬ (4 < l.length ∨ (l.all fun b => decide (b.1 ≤ 100) && decide (b.2 ≤ 100)) = false ∨ Ut10.falling l = false) := by
  have e0 : ∀ b : Bool, b = false ↔ ¬ b = true := by intro b; cases b <;> simp
  have e1 : (List.range l.length).all (bgd l) = true ↔ (l.all fun b => decide (b.1 ≤ 100) && decide (b.2 ≤ 100)) = true ∧ Ut10.falling l = true := by
    rw [falling_iff, List.all_eq_true, List.all_eq_true]
    constructor
    · intro h
      refine ⟨fun b hb => ?_, fun i hi => ?_⟩
      · obtain ⟨i, hi, rfl⟩ := List.getElem_of_mem hb
        have := h i (List.mem_range.mpr hi)
        unfold bgd at this
        have e : l.getD i (0, 0) = l[i] := by rw [List.getD_eq_getElem?_getD, List.getElem?_eq_getElem hi]; rfl
        rw [e] at this
        simp only [Bool.and_eq_true, decide_eq_true_eq] at this ⊢
        exact ⟨this.1, this.2.1⟩
      · have := h (i + 1) (List.mem_range.mpr hi)
        unfold bgd at this
        simp only [Bool.and_eq_true, Bool.or_eq_true, decide_eq_true_eq, Nat.add_sub_cancel] at this
        rcases this.2.2 with q | q
        · omega
        · exact q
    · rintro ⟨h1, h2⟩ i hi
      have hi := List.mem_range.mp hi
      have e : l.getD i (0, 0) = l[i] := by rw [List.getD_eq_getElem?_getD, List.getElem?_eq_getElem hi]; rfl
      have := h1 l[i] (List.getElem_mem hi)
      unfold bgd
      simp only [Bool.and_eq_true, Bool.or_eq_true, decide_eq_true_eq] at this ⊢
      rw [← e] at this
      refine ⟨this.1, this.2, ?_⟩
      cases i with
      | zero => exact .inl rfl
      | succ i => exact .inr (h2 i hi)
  unfold arb
  rw [Bool.and_eq_true, decide_eq_true_eq, e1, e0, e0]
  constructor
  · rintro ⟨h1, h2, h3⟩ (q | q | q)
    · omega
    · exact q h2
    · exact q h3
  · intro h
    refine ⟨?_, ?_, ?_⟩
    · exact Nat.le_of_not_lt fun q => h (.inl q)
    · exact Classical.byContradiction fun q => h (.inr (.inl q))
    · exact Classical.byContradiction fun q => h (.inr (.inr q))
/-! ### what holds of a house -/
structure Good (g : Ut10.St) : Prop where
  fl : g.files.length ≤ 6
  nd : (nums g).Nodup
  lt : ∀ f ∈ g.files, f.number < g.given
  ss : ∀ f ∈ g.files, f.sents.length ≤ 8 ∧ ∀ s ∈ f.sents, Ut10.sentOk s = true
  ml : g.memory.length ≤ 20
  ms : ∀ s ∈ g.memory, Ut10.sentOk s = true
  bl : g.bands.length ≤ 4
theorem good_init : Good Ut10.init := ⟨by decide, by decide, by decide, by decide, by decide, by decide, by decide⟩
theorem good_gone {g : Ut10.St} (G : Good g) (n : Nat) : Good { g with files := g.files.filter fun f => f.number != n } := by
  refine ⟨?_, ?_, ?_, ?_, G.ml, G.ms, G.bl⟩
  · exact Nat.le_trans (List.length_filter_le _ _) G.fl
  · unfold nums
    exact (List.filter_sublist.map _).nodup G.nd
  · intro f hf
    exact G.lt f (List.mem_filter.mp hf).1
  · intro f hf
    exact G.ss f (List.mem_filter.mp hf).1
theorem good_file {g : Ut10.St} (G : Good g) {l : List Sent} (h1 : l.length ≤ 8) (h2 : ∀ s ∈ l, Ut10.sentOk s = true) (h3 : g.files.length < 6) : Good { g with files := g.files ++ [⟨g.given, l⟩], given := g.given + 1 } := by
  refine ⟨?_, ?_, ?_, ?_, G.ml, G.ms, G.bl⟩
  · show (g.files ++ [(⟨g.given, l⟩ : Ut10.File)]).length ≤ 6
    rw [List.length_append]; simp only [List.length_cons, List.length_nil]; omega
  · show ((g.files ++ [(⟨g.given, l⟩ : Ut10.File)]).map (·.number)).Nodup
    rw [List.map_append, List.nodup_append]
    refine ⟨G.nd, by simp, fun a ha b hb => ?_⟩
    obtain ⟨f, hf, e⟩ := List.mem_map.mp ha
    have := G.lt f hf
    have e2 : b = g.given := by simpa using hb
    omega
  · intro f hf
    show f.number < g.given + 1
    rcases List.mem_append.mp (show f ∈ g.files ++ [(⟨g.given, l⟩ : Ut10.File)] from hf) with q | q
    · have := G.lt f q; omega
    · have : f = ⟨g.given, l⟩ := by simpa using q
      subst this
      exact Nat.lt_succ_self _
  · intro f hf
    rcases List.mem_append.mp (show f ∈ g.files ++ [(⟨g.given, l⟩ : Ut10.File)] from hf) with q | q
    · exact G.ss f q
    · have : f = ⟨g.given, l⟩ := by simpa using q
      subst this
      exact ⟨h1, h2⟩
theorem good_memory {g : Ut10.St} (G : Good g) {l : List Sent} (h1 : l.length ≤ 20) (h2 : ∀ s ∈ l, Ut10.sentOk s = true) : Good { g with memory := l } := ⟨G.fl, G.nd, G.lt, G.ss, h1, h2, G.bl⟩
theorem good_rates {g : Ut10.St} (G : Good g) {l : List Band} (h1 : l.length ≤ 4) (a : Nat) : Good { g with again := a, bands := l } := ⟨G.fl, G.nd, G.lt, G.ss, G.ml, G.ms, h1⟩
theorem sentOk_iff (s : Sent) : Ut10.sentOk s = true ↔ 1 ≤ s.length ∧ s.length ≤ 10 ∧ ∀ w ∈ s, w ≤ 999 := by
  unfold Ut10.sentOk
  simp [Bool.and_eq_true]
theorem good_job {g : Ut10.St} (G : Good g) (n : Nat) : (sOf g n).length ≤ 8 ∧ ∀ s ∈ sOf g n, Ut10.sentOk s = true := by
  unfold sOf
  cases e : Ut10.fileOf g n with
  | none => exact ⟨Nat.zero_le _, fun s h => by cases h⟩
  | some f => exact G.ss f (List.mem_of_find?_eq_some e)
theorem jobT_ok {g : Ut10.St} (G : Good g) (l : List Nat) : ∀ i, (jobT g l i).length ≤ 8 * i ∧ ∀ s ∈ jobT g l i, Ut10.sentOk s = true := by
  intro i
  unfold jobT
  have key : ∀ (m : List Nat), (m.flatMap (sOf g)).length ≤ 8 * m.length ∧ ∀ s ∈ m.flatMap (sOf g), Ut10.sentOk s = true := by
    intro m
    induction m with
    | nil => exact ⟨by simp, fun s h => by simp at h⟩
    | cons n m ih =>
      rw [List.flatMap_cons]
      have h1 := good_job G n
      refine ⟨by rw [List.length_append, List.length_cons]; omega, fun s hs => ?_⟩
      rcases List.mem_append.mp hs with q | q
      · exact h1.2 s q
      · exact ih.2 s q
  have h1 := key ((jobL g l).take i)
  refine ⟨?_, h1.2⟩
  have := List.length_take_le i (jobL g l)
  omega
theorem jobS_T (g : Ut10.St) (l : List Nat) : jobT g l (jobL g l).length = jobS g l := by
  unfold jobT jobS
  rw [List.take_length]
theorem jobT_succ (g : Ut10.St) (l : List Nat) {i n : Nat} (h : (jobL g l)[i]? = some n) : jobT g l (i + 1) = jobT g l i ++ sOf g n := by
  unfold jobT
  rw [take_more h, List.flatMap_append]
  simp [List.flatMap_cons]
end Wc

set_option Elab.async false
namespace Wc
/-! ### the specification's step, call by call -/
section
variable {g : Ut10.St}
theorem step_file_bad {l : List Sent} (h : 8 < l.length ∨ l.all Ut10.sentOk = false) : Ut10.step g (.file l) = (g, [-1]) := by
  simp only [Ut10.step]; rw [if_pos h]
theorem step_file_full {l : List Sent} (h : ¬ (8 < l.length ∨ l.all Ut10.sentOk = false)) (h2 : 6 ≤ g.files.length) : Ut10.step g (.file l) = (g, [-5]) := by
  simp only [Ut10.step]; rw [if_neg h, if_pos h2]
theorem step_file_ok {l : List Sent} (h : ¬ (8 < l.length ∨ l.all Ut10.sentOk = false)) (h2 : ¬ 6 ≤ g.files.length) :
    Ut10.step g (.file l) = ({ g with files := g.files ++ [⟨g.given, l⟩], given := g.given + 1 }, Ut10.ints [g.given, (l.map fun s => s.length).sum]) := by
  simp only [Ut10.step]; rw [if_neg h, if_neg h2]
theorem step_gone_no {n : Nat} (h : has g n = false) : Ut10.step g (.gone n) = (g, [-2]) := by
  simp only [Ut10.step]; rw [fileOf_none h]; rfl
theorem step_gone_ok {n : Nat} (h : has g n = true) : Ut10.step g (.gone n) = ({ g with files := g.files.filter fun f => f.number != n }, Ut10.ints [(g.files.filter fun f => f.number != n).length]) := by
  obtain ⟨f, e, _⟩ := fileOf_some h
  simp only [Ut10.step]; rw [e]; rfl
theorem step_memory_bad {l : List Sent} (h : 20 < l.length ∨ l.all Ut10.sentOk = false) : Ut10.step g (.memory l) = (g, [-1]) := by
  simp only [Ut10.step]; rw [if_pos h]
theorem step_memory_ok {l : List Sent} (h : ¬ (20 < l.length ∨ l.all Ut10.sentOk = false)) : Ut10.step g (.memory l) = ({ g with memory := l }, Ut10.ints [l.length]) := by
  simp only [Ut10.step]; rw [if_neg h]
theorem step_done_no {n : Nat} (h : has g n = false) : Ut10.step g (.done n) = (g, [-2]) := by
  simp only [Ut10.step]; rw [fileOf_none h]
/-- the memory behind done -/
def dm (g : Ut10.St) (n : Nat) : List Sent := dnT g.memory (sOf g n) (sOf g n).length
theorem dm_eq {n : Nat} {f : Ut10.File} (e : Ut10.fileOf g n = some f) : dm g n = g.memory ++ (f.sents.eraseDups.filter fun s => !g.memory.contains s) := by
  unfold dm sOf
  rw [e]
  exact dn_spec _ _
theorem step_done_full {n : Nat} (h : has g n = true) (h2 : 20 < (dm g n).length) : Ut10.step g (.done n) = (g, [-5]) := by
  obtain ⟨f, e, _⟩ := fileOf_some h
  rw [dm_eq e] at h2
  simp only [Ut10.step]; rw [e]; simp only; rw [if_pos h2]
theorem step_done_ok {n : Nat} (h : has g n = true) (h2 : ¬ 20 < (dm g n).length) :
    Ut10.step g (.done n) = ({ g with files := g.files.filter fun f => f.number != n, memory := dm g n }, Ut10.ints [(g.files.filter fun f => f.number != n).length, (dm g n).length]) := by
  obtain ⟨f, e, _⟩ := fileOf_some h
  rw [dm_eq e] at h2 ⊢
  simp only [Ut10.step]; rw [e]; simp only; rw [if_neg h2]
theorem step_rates_bad {a : Nat} {l : List Band} (h : 100 < a ∨ arb l = false) : Ut10.step g (.rates a l) = (g, [-1]) := by
  simp only [Ut10.step]
  rw [if_pos]
  rcases h with h | h
  · exact .inl h
  · right
    have := arb_iff l
    rw [h] at this
    exact Classical.byContradiction fun q => absurd (this.mpr q) Bool.false_ne_true
theorem step_rates_ok {a : Nat} {l : List Band} (h : ¬ 100 < a) (h2 : arb l = true) : Ut10.step g (.rates a l) = ({ g with again := a, bands := l }, [0]) := by
  simp only [Ut10.step]
  rw [if_neg]
  rintro (q | q)
  · exact h q
  · exact (arb_iff l).mp h2 q
theorem sent_pos {s : Sent} (h : Ut10.sentOk s = true) : 0 < s.length ∧ s.length ≤ 1000 := by
  have := (sentOk_iff s).mp h
  omega
theorem jobS_ok (G : Good g) (l : List Nat) : (jobS g l).length ≤ 8 * (jobL g l).length ∧ ∀ s ∈ jobS g l, Ut10.sentOk s = true := by
  rw [← jobS_T]
  exact jobT_ok G l _
theorem step_count_no {l : List Nat} (h : arf g l = false) : Ut10.step g (.count l) = (g, [-2]) := by
  simp only [Ut10.step]; rw [job_none h]
theorem step_count_ok (G : Good g) {l : List Nat} (h : arf g l = true) :
    Ut10.step g (.count l) = (g, Ut10.ints (wt (cts (jobS g l) g.memory g.bands) g.again g.bands :: cts (jobS g l) g.memory g.bands)) := by
  obtain ⟨x, e1, e2, e3⟩ := job_some G.nd h
  have hp : ∀ s ∈ Ut10.allOf x, 0 < s.length := fun s hs => (sent_pos ((jobS_ok G l).2 s (by rw [← e2]; exact hs))).1
  simp only [Ut10.step]
  rw [e1]
  simp only
  rw [weight_wt g x hp, counts_cts g x hp, e2]
theorem step_kinds_no {l : List Nat} (h : arf g l = false) : Ut10.step g (.kinds l) = (g, [-2]) := by
  simp only [Ut10.step]; rw [job_none h]
theorem step_kinds_ok (G : Good g) {l : List Nat} (h : arf g l = true) :
    Ut10.step g (.kinds l) = (g, Ut10.ints ((kds g.bands g.memory (jobS g l)).length :: kds g.bands g.memory (jobS g l))) := by
  obtain ⟨x, e1, e2, e3⟩ := job_some G.nd h
  have hp : ∀ s ∈ Ut10.allOf x, 0 < s.length := fun s hs => (sent_pos ((jobS_ok G l).2 s (by rw [← e2]; exact hs))).1
  simp only [Ut10.step]
  rw [e1]
  simp only
  rw [kindsFrom_kds hp, e2]
  have hl : (jobS g l).length = (kds g.bands g.memory (jobS g l)).length := (kds_len _ _ _).symm
  have e4 : ((jobS g l).zip (kds g.bands g.memory (jobS g l))).map (fun y => y.2) = kds g.bands g.memory (jobS g l) := List.map_snd_zip (by omega)
  rw [e4, List.length_zip, ← hl, Nat.min_self]
theorem own_wt (G : Good g) {f : Ut10.File} (hf : f ∈ g.files) : Ut10.own g f = wt (cts f.sents g.memory g.bands) g.again g.bands := by
  have e : Ut10.allOf [f] = f.sents := by simp [Ut10.allOf]
  unfold Ut10.own
  rw [weight_wt g [f] (fun s hs => (sent_pos ((G.ss f hf).2 s (by rw [← e]; exact hs))).1), e]
def ws (g : Ut10.St) : List Nat := g.files.map fun f => wt (cts f.sents g.memory g.bands) g.again g.bands
theorem step_part_bad {h : Nat} (c : ¬ (1 ≤ h ∧ h ≤ 4)) : Ut10.step g (.part h) = (g, [-1]) := by
  simp only [Ut10.step]
  rw [if_pos (by omega)]
theorem step_part_ok (G : Good g) {h : Nat} (c : 1 ≤ h ∧ h ≤ 4) :
    Ut10.step g (.part h) = (g, Ut10.ints ([Ut10.most (ld (bd (ws g) h) (ws g) h), Ut10.fewest (ld (bd (ws g) h) (ws g) h)] ++ bd (ws g) h)) := by
  simp only [Ut10.step]
  rw [if_neg (by omega)]
  have e : g.files.map (Ut10.own g) = ws g := by
    unfold ws
    apply List.map_congr_left
    intro f hf
    exact own_wt G hf
  rw [e, ← bd_deal (w := ws g) (hands := h) (by omega), ← ld_loads]
theorem step_near_bad {x y : Sent} (h : Ut10.sentOk x = false ∨ Ut10.sentOk y = false) : Ut10.step g (.near x y) = (g, [-1]) := by
  simp only [Ut10.step]; rw [if_pos h]
theorem step_near_ok {x y : Sent} (h1 : Ut10.sentOk x = true) (h2 : Ut10.sentOk y = true) : Ut10.step g (.near x y) = (g, Ut10.ints [nr x y]) := by
  simp only [Ut10.step]
  rw [if_neg (by rw [h1, h2]; simp), nr_near (sent_pos h1).1]
def shT (g : Ut10.St) (i : Nat) : List Nat := [g.files.length, g.memory.length] ++ (g.files.take i).flatMap fun f => [f.number, f.sents.length]
theorem step_shows : Ut10.step g .shows = (g, Ut10.ints (shT g g.files.length)) := by
  simp only [Ut10.step, shT]
  rw [List.take_length]
theorem shT_succ {i : Nat} {f : Ut10.File} (h : g.files[i]? = some f) : shT g (i + 1) = shT g i ++ [f.number, f.sents.length] := by
  unfold shT
  rw [take_more h, List.flatMap_append]
  simp [List.flatMap_cons]
theorem shT_len : ∀ i, i ≤ g.files.length → (shT g i).length = 2 + 2 * i
  | 0, _ => by simp [shT]
  | i + 1, h => by
    rw [shT_succ (List.getElem?_eq_getElem (show i < g.files.length from h)), List.length_append, shT_len i (by omega)]
    simp only [List.length_cons, List.length_nil]; omega
/-! ### what holds goes on -/
theorem dnF_ok {m : List Sent} {s : Sent} (h : ∀ x ∈ m, Ut10.sentOk x = true) (hs : Ut10.sentOk s = true) : ∀ x ∈ dnF m s, Ut10.sentOk x = true := by
  unfold dnF
  split
  · exact h
  · intro x hx
    rcases List.mem_append.mp hx with q | q
    · exact h x q
    · have : x = s := by simpa using q
      rw [this]; exact hs
theorem dnT_ok {m ss : List Sent} (h : ∀ x ∈ m, Ut10.sentOk x = true) (hs : ∀ x ∈ ss, Ut10.sentOk x = true) : ∀ i, i ≤ ss.length → ∀ x ∈ dnT m ss i, Ut10.sentOk x = true
  | 0, _ => h
  | i + 1, hi => by
    have e := List.getElem?_eq_getElem (show i < ss.length from hi)
    rw [dnT_succ m ss e]
    exact dnF_ok (dnT_ok h hs i (by omega)) (hs _ (List.getElem_mem _))
theorem good_step (G : Good g) (c : Ut10.Call) : Good (Ut10.step g c).1 := by
  cases c with
  | file l =>
    by_cases h : 8 < l.length ∨ l.all Ut10.sentOk = false
    · rw [step_file_bad h]; exact G
    · by_cases h2 : 6 ≤ g.files.length
      · rw [step_file_full h h2]; exact G
      · rw [step_file_ok h h2]
        refine good_file G (by omega) (fun s hs => ?_) (by omega)
        have : l.all Ut10.sentOk = true := by
          cases q : l.all Ut10.sentOk with
          | true => rfl
          | false => exact absurd (.inr q) h
        exact List.all_eq_true.mp this s hs
  | gone n =>
    cases h : has g n with
    | false => rw [step_gone_no h]; exact G
    | true => rw [step_gone_ok h]; exact good_gone G n
  | memory l =>
    by_cases h : 20 < l.length ∨ l.all Ut10.sentOk = false
    · rw [step_memory_bad h]; exact G
    · rw [step_memory_ok h]
      refine good_memory G (by omega) (fun s hs => ?_)
      have : l.all Ut10.sentOk = true := by
        cases q : l.all Ut10.sentOk with
        | true => rfl
        | false => exact absurd (.inr q) h
      exact List.all_eq_true.mp this s hs
  | done n =>
    cases h : has g n with
    | false => rw [step_done_no h]; exact G
    | true =>
      by_cases h2 : 20 < (dm g n).length
      · rw [step_done_full h h2]; exact G
      · rw [step_done_ok h h2]
        have g2 := good_memory (g := { g with files := g.files.filter fun f => f.number != n }) (good_gone G n) (l := dm g n) (by omega) (dnT_ok G.ms (good_job G n).2 _ (Nat.le_refl _))
        exact g2
  | rates a l =>
    by_cases h : 100 < a ∨ arb l = false
    · rw [step_rates_bad h]; exact G
    · have h1 : ¬ 100 < a := fun q => h (.inl q)
      have h2 : arb l = true := by
        cases q : arb l with
        | true => rfl
        | false => exact absurd (.inr q) h
      rw [step_rates_ok h1 h2]
      refine good_rates G ?_ a
      unfold arb at h2
      rw [Bool.and_eq_true, decide_eq_true_eq] at h2
      exact h2.1
  | count l => exact G
  | kinds l => exact G
  | part h => exact G
  | near a b => exact G
  | shows => exact G
end
theorem cts_le {job memory : List Sent} {bs : List Band} (h : ∀ x ∈ job, x.length ≤ 1000) : ∀ n ∈ cts job memory bs, n ≤ 1000 * job.length := by
  unfold cts
  rw [ct_eq]
  intro n hn
  obtain ⟨k, _, rfl⟩ := List.mem_map.mp hn
  have key : ∀ (l : List Sent) (m : List Nat), (∀ x ∈ l, x.length ≤ 1000) → cnt (l.zip m) k ≤ 1000 * l.length := by
    intro l
    induction l with
    | nil => intro m _; simp [cnt]
    | cons x l ih =>
      intro m hx
      cases m with
      | nil => simp [cnt]
      | cons y m =>
        rw [List.zip_cons_cons, cnt_cons]
        have h1 := ih m (fun z hz => hx z (List.mem_cons_of_mem _ hz))
        have h2 := hx x List.mem_cons_self
        rw [List.length_cons]
        have h3 : (if ((x, y) : Sent × Nat).2 = k then ((x, y) : Sent × Nat).1.length else 0) ≤ 1000 := by
          split
          · exact h2
          · omega
        omega
  exact key job _ h
theorem cts_len (job memory : List Sent) (bs : List Band) : (cts job memory bs).length = bs.length + 2 := ct_len _ _ _
end Wc

set_option Elab.async false
namespace Wc
/-! ### how calls lie in one list of numbers -/
def enc (ss : List Sent) : List Nat := ss.flatMap fun s => s.length :: s
def encB (bs : List Band) : List Nat := bs.flatMap fun b => [b.1, b.2]
def encC : Ut10.Call → List Nat
  | .file ss => 0 :: (enc ss).length :: enc ss
  | .gone n => [1, n]
  | .memory ss => 2 :: (enc ss).length :: enc ss
  | .done n => [3, n]
  | .rates a bs => 4 :: a :: (encB bs).length :: encB bs
  | .count l => 5 :: l.length :: l
  | .kinds l => 6 :: l.length :: l
  | .part h => [7, h]
  | .near x y => 8 :: (enc [x, y]).length :: enc [x, y]
  | .shows => [9]
/-- what else is asked of a call: the job's list is short -/
def fits : Ut10.Call → Prop
  | .count l => l.length ≤ 1000
  | .kinds l => l.length ≤ 1000
  | _ => True
/-- the answers of calls, one behind another -/
def out : Ut10.St → List Ut10.Call → List Int
  | _, [] => []
  | g, c :: cs => ((Ut10.step g c).2.length : Int) :: ((Ut10.step g c).2 ++ out (Ut10.step g c).1 cs)
theorem enc_cons (s : Sent) (ss : List Sent) : enc (s :: ss) = s.length :: (s ++ enc ss) := by
  unfold enc
  rw [List.flatMap_cons, List.cons_append]
theorem sentIn_eq {l : List Nat} {s t : List Nat} (h : Ut10Neutral.sentIn l = some (s, t)) : l = s.length :: (s ++ t) := by
  cases l with
  | nil => cases h
  | cons n l =>
    have h2 : (if l.length < n then none else some (l.take n, l.drop n)) = some (s, t) := h
    by_cases hn : l.length < n
    · rw [if_pos hn] at h2
      cases h2
    · rw [if_neg hn] at h2
      have h3 := Option.some.inj h2
      have e1 : l.take n = s := (Prod.mk.inj h3).1
      have e2 : l.drop n = t := (Prod.mk.inj h3).2
      rw [← e1, ← e2, List.take_append_drop, List.length_take, Nat.min_eq_left (by omega)]
theorem sentsIn_eq : ∀ (f : Nat) (l : List Nat) (ss : List Sent), Ut10Neutral.sentsIn f l = some ss → l = enc ss
  | f, [], ss, h => by
    have e : ss = [] := by
      cases f <;> (unfold Ut10Neutral.sentsIn at h; cases h; rfl)
    rw [e]; rfl
  | 0, n :: l, ss, h => by unfold Ut10Neutral.sentsIn at h; cases h
  | f + 1, n :: l, ss, h => by
    unfold Ut10Neutral.sentsIn at h
    cases e : Ut10Neutral.sentIn (n :: l) with
    | none => rw [e] at h; cases h
    | some x =>
      obtain ⟨s, t⟩ := x
      rw [e] at h
      have h2 : (Ut10Neutral.sentsIn f t).map (fun y => s :: y) = some ss := h
      cases e2 : Ut10Neutral.sentsIn f t with
      | none => rw [e2] at h2; cases h2
      | some r =>
        rw [e2] at h2
        cases h2
        rw [enc_cons, ← sentsIn_eq f t r e2]
        exact sentIn_eq e
theorem pairsIn_eq : ∀ (l : List Nat) (bs : List Band), Ut10Neutral.pairsIn l = some bs → l = encB bs
  | [], bs, h => by unfold Ut10Neutral.pairsIn at h; cases h; rfl
  | [a], bs, h => by unfold Ut10Neutral.pairsIn at h; cases h
  | a :: b :: l, bs, h => by
    unfold Ut10Neutral.pairsIn at h
    cases e : Ut10Neutral.pairsIn l with
    | none => rw [e] at h; cases h
    | some r =>
      rw [e] at h
      cases h
      rw [pairsIn_eq l r e]
      rfl
/-! ### the numbers as they are handed in: whole numbers, none below 0 -/
def zs (l : List Nat) : List Int := l.map fun (n : Nat) => (n : Int)
theorem zs_nat (l : List Nat) : (zs l).map Int.toNat = l := by
  unfold zs
  rw [List.map_map]
  have : (Int.toNat ∘ fun (n : Nat) => (n : Int)) = id := by funext n; simp
  rw [this, List.map_id]
theorem zs_app (l m : List Nat) : zs (l ++ m) = zs l ++ zs m := by unfold zs; rw [List.map_append]
theorem zs_len (l : List Nat) : (zs l).length = l.length := by unfold zs; rw [List.length_map]
theorem zs_take (l : List Nat) (n : Nat) : (zs l).take n = zs (l.take n) := by unfold zs; rw [List.map_take]
theorem zs_drop (l : List Nat) (n : Nat) : (zs l).drop n = zs (l.drop n) := by unfold zs; rw [List.map_drop]
/-- a row of numbers that lies in whole numbers -/
theorem row_eq {l : List Nat} {x : List Int} {t : List Int} (h : PyFlat.row (zs l) = some (x, t)) : ∃ y r, x = zs y ∧ t = zs r ∧ l = y.length :: (y ++ r) := by
  cases l with
  | nil => cases h
  | cons n l =>
    have e : zs (n :: l) = (n : Int) :: zs l := rfl
    rw [e] at h
    have e2 : ((n : Nat) : Int).toNat = n := by omega
    have h2 : (if 0 ≤ (n : Int) ∧ (n : Int).toNat ≤ (zs l).length then some ((zs l).take (n : Int).toNat, (zs l).drop (n : Int).toNat) else none) = some (x, t) := h
    rw [e2, zs_len] at h2
    by_cases hn : 0 ≤ (n : Int) ∧ n ≤ l.length
    · rw [if_pos hn] at h2
      have h3 := Prod.mk.inj (Option.some.inj h2)
      refine ⟨l.take n, l.drop n, by rw [← h3.1, zs_take], by rw [← h3.2, zs_drop], ?_⟩
      rw [List.take_append_drop, List.length_take, Nat.min_eq_left hn.2]
    · rw [if_neg hn] at h2
      cases h2
theorem rows1_eq {l : List Nat} {xs : List (List Int)} {t : List Int} (h : PyFlat.rows 1 (zs l) = some (xs, t)) : ∃ y r, xs = [zs y] ∧ t = zs r ∧ l = y.length :: (y ++ r) := by
  unfold PyFlat.rows at h
  cases e : PyFlat.row (zs l) with
  | none => rw [e] at h; cases h
  | some x =>
    obtain ⟨x, s⟩ := x
    rw [e] at h
    have h2 : (some ([x], s) : Option (List (List Int) × List Int)) = some (xs, t) := h
    cases h2
    obtain ⟨y, r, rfl, rfl, e3⟩ := row_eq e
    exact ⟨y, r, rfl, rfl, e3⟩
theorem nat_all (l : List Int) (h : (l.all Ut10Neutral.nat) = true) : l.all Ut10Neutral.nat = false ↔ False := by rw [h]; simp
/-- one call: what PyFlat reads, as the document has it, is a call of the specification -/
theorem call_eq {l : List Nat} {c : List (List Int)} {t : List Int} {k : Ut10.Call} (h : PyFlat.call PyUt10.shape (zs l) = some (c, t)) (hb : PyInside.call PyUt10.bound c = true) (hk : Ut10Neutral.callOf ((PyUt10.whole c).headD []) = some k) :
    ∃ r, t = zs r ∧ l = encC k ++ r ∧ fits k := by
  cases l with
  | nil => cases h
  | cons p l =>
    have e : zs (p :: l) = (p : Int) :: zs l := rfl
    rw [e] at h
    have h : (match PyUt10.shape (p : Int) with
      | none => none
      | some (n, k) => if (zs l).length < n then none else match PyFlat.rows k ((zs l).drop n) with
        | none => none
        | some (xs, t) => some (((p : Int) :: (zs l).take n) :: xs, t)) = some (c, t) := h
    have key : ∀ (n m : Nat), PyUt10.shape (p : Int) = some (n, m) → ∃ xs, ¬ (zs l).length < n ∧ PyFlat.rows m ((zs l).drop n) = some (xs, t) ∧ c = ((p : Int) :: (zs l).take n) :: xs := by
      intro n m hs
      rw [hs] at h
      have h : (if (zs l).length < n then none else match PyFlat.rows m ((zs l).drop n) with
        | none => none
        | some (xs, t) => some (((p : Int) :: (zs l).take n) :: xs, t)) = some (c, t) := h
      by_cases hn : (zs l).length < n
      · rw [if_pos hn] at h
        cases h
      · rw [if_neg hn] at h
        cases e2 : PyFlat.rows m ((zs l).drop n) with
        | none => rw [e2] at h; cases h
        | some z =>
          obtain ⟨xs, t2⟩ := z
          rw [e2] at h
          cases h
          exact ⟨xs, hn, rfl, rfl⟩
    have toIn : ∀ (q : List Nat), Ut10Neutral.callOf (zs q) = some k → Ut10Neutral.callIn q = some k := by
      intro q hq
      unfold Ut10Neutral.callOf at hq
      split at hq
      · cases hq
      · rw [zs_nat] at hq
        exact hq
    -- a call with one row and no number
    have one : ∀ (y : List Nat) (xs : List (List Int)), PyFlat.rows 1 (zs l) = some (xs, t) → ∃ y r, xs = [zs y] ∧ t = zs r ∧ l = y.length :: (y ++ r) := fun _ xs hr => rows1_eq hr
    have num : ∀ {xs : List (List Int)}, ¬ (zs l).length < 1 → PyFlat.rows 0 ((zs l).drop 1) = some (xs, t) → ∃ x r, l = x :: r ∧ t = zs r ∧ xs = [] := by
      intro xs h1 h2
      cases l with
      | nil => exact absurd (by show (0 : Nat) < 1; omega) h1
      | cons x r =>
        have e3 : (zs (x :: r)).drop 1 = zs r := rfl
        rw [e3] at h2
        unfold PyFlat.rows at h2
        cases h2
        exact ⟨x, r, rfl, rfl, rfl⟩
    by_cases p0 : p = 0
    · subst p0
      obtain ⟨xs, _, hr, rfl⟩ := key 0 1 rfl
      obtain ⟨y, r, rfl, rfl, el⟩ := rows1_eq hr
      have hk2 : (Ut10Neutral.sentsIn (y.length + 1) y).map Ut10.Call.file = some k := toIn (0 :: y) hk
      cases e5 : Ut10Neutral.sentsIn (y.length + 1) y with
      | none => rw [e5] at hk2; cases hk2
      | some ss =>
        rw [e5] at hk2
        cases hk2
        have e6 := sentsIn_eq _ _ _ e5
        exact ⟨r, rfl, by rw [el, e6]; rfl, trivial⟩
    by_cases p1 : p = 1
    · subst p1
      obtain ⟨xs, h1, hr, rfl⟩ := key 1 0 rfl
      obtain ⟨x, r, rfl, rfl, rfl⟩ := num h1 hr
      have hk2 := toIn [1, x] hk
      unfold Ut10Neutral.callIn at hk2
      cases hk2
      exact ⟨r, rfl, rfl, trivial⟩
    by_cases p2 : p = 2
    · subst p2
      obtain ⟨xs, _, hr, rfl⟩ := key 0 1 rfl
      obtain ⟨y, r, rfl, rfl, el⟩ := rows1_eq hr
      have hk2 : (Ut10Neutral.sentsIn (y.length + 1) y).map Ut10.Call.memory = some k := toIn (2 :: y) hk
      cases e5 : Ut10Neutral.sentsIn (y.length + 1) y with
      | none => rw [e5] at hk2; cases hk2
      | some ss =>
        rw [e5] at hk2
        cases hk2
        have e6 := sentsIn_eq _ _ _ e5
        exact ⟨r, rfl, by rw [el, e6]; rfl, trivial⟩
    by_cases p3 : p = 3
    · subst p3
      obtain ⟨xs, h1, hr, rfl⟩ := key 1 0 rfl
      obtain ⟨x, r, rfl, rfl, rfl⟩ := num h1 hr
      have hk2 := toIn [3, x] hk
      unfold Ut10Neutral.callIn at hk2
      cases hk2
      exact ⟨r, rfl, rfl, trivial⟩
    by_cases p4 : p = 4
    · subst p4
      obtain ⟨xs, h1, hr, rfl⟩ := key 1 1 rfl
      cases l with
      | nil => exact absurd (by show (0 : Nat) < 1; omega) h1
      | cons x l =>
        have e3 : (zs (x :: l)).drop 1 = zs l := rfl
        rw [e3] at hr
        obtain ⟨y, r, rfl, rfl, el⟩ := rows1_eq hr
        have hk2 : (Ut10Neutral.pairsIn y).map (Ut10.Call.rates x) = some k := toIn (4 :: x :: y) hk
        cases e5 : Ut10Neutral.pairsIn y with
        | none => rw [e5] at hk2; cases hk2
        | some bs =>
          rw [e5] at hk2
          cases hk2
          have e6 := pairsIn_eq _ _ e5
          exact ⟨r, rfl, by rw [el, e6]; rfl, trivial⟩
    by_cases p5 : p = 5
    · subst p5
      obtain ⟨xs, _, hr, rfl⟩ := key 0 1 rfl
      obtain ⟨y, r, rfl, rfl, el⟩ := rows1_eq hr
      have hk2 := toIn (5 :: y) hk
      unfold Ut10Neutral.callIn at hk2
      cases hk2
      have hb2 : (decide (0 ≤ (zs y).length) && decide ((zs y).length ≤ 10) && (zs y).all (PyInside.within 0 4294967295) && true) = true := hb
      simp only [Bool.and_eq_true, decide_eq_true_eq] at hb2
      have h9 := hb2.1.1.2
      rw [zs_len] at h9
      exact ⟨r, rfl, by rw [el]; rfl, by show y.length ≤ 1000; omega⟩
    by_cases p6 : p = 6
    · subst p6
      obtain ⟨xs, _, hr, rfl⟩ := key 0 1 rfl
      obtain ⟨y, r, rfl, rfl, el⟩ := rows1_eq hr
      have hk2 := toIn (6 :: y) hk
      unfold Ut10Neutral.callIn at hk2
      cases hk2
      have hb2 : (decide (0 ≤ (zs y).length) && decide ((zs y).length ≤ 10) && (zs y).all (PyInside.within 0 4294967295) && true) = true := hb
      simp only [Bool.and_eq_true, decide_eq_true_eq] at hb2
      have h9 := hb2.1.1.2
      rw [zs_len] at h9
      exact ⟨r, rfl, by rw [el]; rfl, by show y.length ≤ 1000; omega⟩
    by_cases p7 : p = 7
    · subst p7
      obtain ⟨xs, h1, hr, rfl⟩ := key 1 0 rfl
      obtain ⟨x, r, rfl, rfl, rfl⟩ := num h1 hr
      have hk2 := toIn [7, x] hk
      unfold Ut10Neutral.callIn at hk2
      cases hk2
      exact ⟨r, rfl, rfl, trivial⟩
    by_cases p8 : p = 8
    · subst p8
      obtain ⟨xs, _, hr, rfl⟩ := key 0 1 rfl
      obtain ⟨y, r, rfl, rfl, el⟩ := rows1_eq hr
      have hk2 : ((Ut10Neutral.sentIn y).bind fun x => (Ut10Neutral.sentIn x.2).bind fun z => if z.2 = [] then some (Ut10.Call.near x.1 z.1) else none) = some k := toIn (8 :: y) hk
      cases e5 : Ut10Neutral.sentIn y with
      | none => rw [e5] at hk2; cases hk2
      | some z =>
        obtain ⟨s1, t1⟩ := z
        rw [e5] at hk2
        have hk3 : ((Ut10Neutral.sentIn t1).bind fun y => if y.2 = [] then some (Ut10.Call.near s1 y.1) else none) = some k := hk2
        cases e6 : Ut10Neutral.sentIn t1 with
        | none => rw [e6] at hk3; cases hk3
        | some z2 =>
          obtain ⟨s2, t2⟩ := z2
          rw [e6] at hk3
          have hk4 : (if t2 = [] then some (Ut10.Call.near s1 s2) else none) = some k := hk3
          split at hk4
          · rename_i ht
            cases hk4
            subst ht
            have e7 := sentIn_eq e5
            have e8 := sentIn_eq e6
            have e9 : y = enc [s1, s2] := by
              rw [e7, e8, enc_cons, enc_cons]
              rfl
            exact ⟨r, rfl, by rw [el, e9]; rfl, trivial⟩
          · cases hk4
    by_cases p9 : p = 9
    · subst p9
      obtain ⟨xs, _, hr, rfl⟩ := key 0 0 rfl
      have e3 : (zs l).drop 0 = zs l := rfl
      rw [e3] at hr
      unfold PyFlat.rows at hr
      cases hr
      have hk2 := toIn [9] hk
      unfold Ut10Neutral.callIn at hk2
      cases hk2
      exact ⟨l, rfl, rfl, trivial⟩
    · exfalso
      have hs : PyUt10.shape (p : Int) = none := by
        unfold PyUt10.shape
        rw [if_neg (by omega), if_neg (by omega), if_neg (by omega), if_neg (by omega), if_neg (by omega), if_neg (by omega), if_neg (by omega), if_neg (by omega), if_neg (by omega), if_neg (by omega)]
      rw [hs] at h
      cases h
/-- all calls -/
theorem calls_eq : ∀ (f : Nat) (l : List Nat) (raw : List (List (List Int))), PyFlat.calls PyUt10.shape f (zs l) = some raw → PyInside.calls PyUt10.bound raw = true → (raw.map PyUt10.whole).all (fun c => (Ut10Neutral.callOf (c.headD [])).isSome) = true →
    ∃ cs : List Ut10.Call, l = cs.flatMap encC ∧ (∀ c ∈ cs, fits c) ∧ ∀ g, PyFlat.told (PyFlat.played (fun s c => Ut10Neutral.step s (c.headD [])) g (raw.map PyUt10.whole)) = out g cs
  | f, [], raw, h, _, _ => by
    have e : raw = [] := by
      have e2 : zs [] = [] := rfl
      rw [e2] at h
      cases f <;> (unfold PyFlat.calls at h; cases h; rfl)
    subst e
    exact ⟨[], rfl, (fun c hc => by cases hc), fun _ => rfl⟩
  | 0, p :: l, raw, h, _, _ => by
    have e2 : zs (p :: l) = (p : Int) :: zs l := rfl
    rw [e2] at h
    unfold PyFlat.calls at h
    cases h
  | f + 1, p :: l, raw, h, hb, hk => by
    have e2 : zs (p :: l) = (p : Int) :: zs l := rfl
    rw [e2] at h
    unfold PyFlat.calls at h
    rw [← e2] at h
    cases e : PyFlat.call PyUt10.shape (zs (p :: l)) with
    | none => rw [e] at h; cases h
    | some z =>
      obtain ⟨c, t⟩ := z
      rw [e] at h
      simp only at h
      cases e3 : PyFlat.calls PyUt10.shape f t with
      | none => rw [e3] at h; cases h
      | some cs =>
        rw [e3] at h
        cases h
        have hb1 : (PyInside.call PyUt10.bound c && PyInside.calls PyUt10.bound cs) = true := hb
        rw [Bool.and_eq_true] at hb1
        rw [List.map_cons, List.all_cons, Bool.and_eq_true] at hk
        obtain ⟨k, ek⟩ := Option.isSome_iff_exists.mp hk.1
        obtain ⟨r, rfl, el, hf⟩ := call_eq e hb1.1 ek
        obtain ⟨ks, e4, e5, e6⟩ := calls_eq f r cs e3 hb1.2 hk.2
        refine ⟨k :: ks, ?_, fun x hx => ?_, fun g => ?_⟩
        · rw [el, e4, List.flatMap_cons]
        · rcases List.mem_cons.mp hx with q | q
          · rw [q]; exact hf
          · exact e5 x q
        · have es : Ut10Neutral.step g ((PyUt10.whole c).headD []) = Ut10.step g k := by
            unfold Ut10Neutral.step
            rw [ek]
          rw [List.map_cons]
          unfold PyFlat.played
          unfold out
          have e7 := e6 (Ut10.step g k).1
          show PyFlat.told ((Ut10Neutral.step g ((PyUt10.whole c).headD [])).2 :: PyFlat.played (fun s c => Ut10Neutral.step s (c.headD [])) (Ut10Neutral.step g ((PyUt10.whole c).headD [])).1 (cs.map PyUt10.whole)) = _
          rw [es, ← e7]
          rfl
/-- what is asked of a request, as calls -/
theorem asked_calls {ms : List Nat} (h : PyUt10.answers_asked (zs ms) = true) : ∃ cs : List Ut10.Call, ms = cs.flatMap encC ∧ (∀ c ∈ cs, fits c) ∧ PyUt10.answers (zs ms) = out Ut10.init cs ∧ (out Ut10.init cs).length ≤ 10000000 := by
  unfold PyUt10.answers_asked at h
  cases e : PyFlat.calls PyUt10.shape (zs ms).length (zs ms) with
  | none => rw [e] at h; cases h
  | some raw =>
    rw [e] at h
    simp only [Bool.and_eq_true] at h
    obtain ⟨⟨⟨⟨_, _⟩, h2⟩, h3⟩, h4⟩ := h
    unfold Ut10Neutral.asked at h3
    rw [Bool.and_eq_true] at h3
    have h5 : (raw.map PyUt10.whole).all (fun c => (Ut10Neutral.callOf (c.headD [])).isSome) = true := by
      have h6 := h3.1
      rw [List.all_map] at h6
      exact h6
    obtain ⟨cs, e1, e2, e3⟩ := calls_eq _ _ _ e h2 h5
    have e4 : PyUt10.answers (zs ms) = out Ut10.init cs := by
      unfold PyUt10.answers PyUt10.calls
      rw [e]
      exact e3 Ut10.init
    refine ⟨cs, e1, e2, e4, ?_⟩
    unfold PyFlat.short at h4
    rw [e4] at h4
    exact of_decide_eq_true h4
end Wc

set_option Elab.async false
set_option linter.all false
set_option maxRecDepth 100000
set_option maxHeartbeats 2000000
namespace Wc
open PySem PySem.Spec PyProof.Rows L2
/-! ### the text by places -/
def top (i : Nat) : Stmt := PySem.Challenge.pw_wordcounts_s01_answers.main.body.getD i (.Pass ⟨0, 0, 0, 0⟩)
abbrev sAllDeals : Stmt := top 1
abbrev sLoads : Stmt := top 2
abbrev sIsBetter : Stmt := top 3
abbrev sBestDeal : Stmt := top 4
abbrev sNextRow : Stmt := top 7
abbrev sChanges : Stmt := top 8
abbrev sNear : Stmt := top 9
abbrev sNearest : Stmt := top 11
abbrev sBandOf : Stmt := top 14
abbrev sKindOf : Stmt := top 15
abbrev sKindsOf : Stmt := top 16
abbrev sPaid : Stmt := top 17
abbrev sCounted : Stmt := top 18
abbrev sWeight : Stmt := top 19
abbrev sCountsOf : Stmt := top 20
abbrev sIsSentence : Stmt := top 32
abbrev sAreSentences : Stmt := top 33
abbrev sAreBands : Stmt := top 34
abbrev sWordsIn : Stmt := top 35
abbrev sHInit : Stmt := inClass (top 36) 0
abbrev sFileOf : Stmt := inClass (top 36) 1
abbrev sFileNumbers : Stmt := inClass (top 36) 2
abbrev sAddFile : Stmt := inClass (top 36) 3
abbrev sGone : Stmt := inClass (top 36) 4
abbrev sSetMemory : Stmt := inClass (top 36) 5
abbrev sDone : Stmt := inClass (top 36) 6
abbrev sRates : Stmt := inClass (top 36) 7
abbrev sAreFiles : Stmt := inClass (top 36) 8
abbrev sJob : Stmt := inClass (top 36) 9
abbrev sCount : Stmt := inClass (top 36) 10
abbrev sKinds : Stmt := inClass (top 36) 11
abbrev sPart : Stmt := inClass (top 36) 12
abbrev sHNear : Stmt := inClass (top 36) 13
abbrev sShows : Stmt := inClass (top 36) 14
abbrev sRInit : Stmt := inClass (top 38) 0
abbrev sIsLeft : Stmt := inClass (top 38) 1
abbrev sTaken : Stmt := inClass (top 38) 2
abbrev sRow : Stmt := inClass (top 38) 3
abbrev sSentences : Stmt := inClass (top 38) 4
abbrev sPairs : Stmt := inClass (top 38) 5
abbrev sDo (i : Nat) : Stmt := top (40 + i)
abbrev sAnswers : Stmt := top 51

/-! ### values and data -/
def nv (n : Nat) : V := .int (n : Int)
def nvs (l : List Nat) : List V := l.map nv
theorem nvs_len (l : List Nat) : (nvs l).length = l.length := by unfold nvs; rw [List.length_map]
theorem nvs_get {l : List Nat} {i n : Nat} (h : l[i]? = some n) : (nvs l)[i]? = some (nv n) := by unfold nvs; rw [List.getElem?_map, h]; rfl
theorem nvs_get' {l : List Nat} {i : Nat} {v : V} (h : (nvs l)[i]? = some v) : ∃ n, l[i]? = some n ∧ v = nv n := by
  unfold nvs at h
  rw [List.getElem?_map] at h
  cases e : l[i]? with
  | none => rw [e] at h; cases h
  | some n => rw [e] at h; exact ⟨n, rfl, (Option.some.inj h).symm⟩
theorem nvs_app (l m : List Nat) : nvs (l ++ m) = nvs l ++ nvs m := by unfold nvs; rw [List.map_append]
theorem nvs_ints (l : List Nat) : nvs l = (l.map fun (n : Nat) => (n : Int)).map V.int := by
  unfold nvs
  rw [List.map_map]; rfl
theorem nvs_at {l : List Nat} {i : Nat} (h : i < l.length) : atI (nvs l) (i : Int) = some (nv (l.getD i 0)) := by
  refine atI_nat (nvs_get ?_)
  rw [List.getD_eq_getElem?_getD, List.getElem?_eq_getElem h]; rfl
theorem nvs_set (l : List Nat) (i n : Nat) : (nvs l).set i (nv n) = nvs (l.set i n) := by
  unfold nvs
  rw [List.map_set]
theorem nvs_rep (k n : Nat) : nvs (List.replicate k n) = List.replicate k (nv n) := by unfold nvs; rw [List.map_replicate]
theorem ixN_nat {n i : Nat} (h : i < n) : ixN n (i : Int) = some i := by
  unfold ixN
  rw [if_pos (Int.natCast_nonneg i), if_pos (by omega)]; rfl

def AllV {α : Type} (R : V → α → Prop) (vs : List V) (xs : List α) : Prop := vs.length = xs.length ∧ ∀ (i : Nat) (v : V) (x : α), vs[i]? = some v → xs[i]? = some x → R v x
section
variable {α : Type} {R S : V → α → Prop} {vs ws : List V} {xs ys : List α}
theorem AllV.nil : AllV R [] [] := ⟨rfl, fun i v x h => by simp at h⟩
theorem AllV.snoc {v : V} {x : α} (h : AllV R vs xs) (r : R v x) : AllV R (vs ++ [v]) (xs ++ [x]) := by
  refine ⟨by rw [List.length_append, List.length_append, h.1]; rfl, fun i w y h1 h2 => ?_⟩
  by_cases hi : i < vs.length
  · rw [List.getElem?_append_left hi] at h1
    rw [List.getElem?_append_left (by rw [← h.1]; exact hi)] at h2
    exact h.2 i w y h1 h2
  · rw [List.getElem?_append_right (by omega)] at h1
    rw [List.getElem?_append_right (by have := h.1; omega), ← h.1] at h2
    cases e : i - vs.length with
    | zero =>
      rw [e] at h1 h2
      cases h1; cases h2
      exact r
    | succ j => rw [e] at h1; simp at h1
theorem AllV.app (h : AllV R vs xs) (k : AllV R ws ys) : AllV R (vs ++ ws) (xs ++ ys) := by
  refine ⟨by rw [List.length_append, List.length_append, h.1, k.1], fun i w y h1 h2 => ?_⟩
  by_cases hi : i < vs.length
  · rw [List.getElem?_append_left hi] at h1
    rw [List.getElem?_append_left (by rw [← h.1]; exact hi)] at h2
    exact h.2 i w y h1 h2
  · rw [List.getElem?_append_right (by omega)] at h1
    rw [List.getElem?_append_right (by have := h.1; omega), ← h.1] at h2
    exact k.2 _ w y h1 h2
theorem AllV.imp (h : AllV R vs xs) (k : ∀ v x, R v x → S v x) : AllV S vs xs := ⟨h.1, fun i v x h1 h2 => k v x (h.2 i v x h1 h2)⟩
theorem AllV.get (h : AllV R vs xs) {i : Nat} {x : α} (e : xs[i]? = some x) : ∃ v, vs[i]? = some v ∧ R v x := by
  have hi := (List.getElem?_eq_some_iff.mp e).1
  have h1 := List.getElem?_eq_getElem (show i < vs.length by rw [h.1]; exact hi)
  exact ⟨_, h1, h.2 i _ x h1 e⟩
theorem AllV.getV (h : AllV R vs xs) {i : Nat} {v : V} (e : vs[i]? = some v) : ∃ x, xs[i]? = some x ∧ R v x := by
  have hi := (List.getElem?_eq_some_iff.mp e).1
  have h1 := List.getElem?_eq_getElem (show i < xs.length by rw [← h.1]; exact hi)
  exact ⟨_, h1, h.2 i v _ e h1⟩
theorem AllV.take (h : AllV R vs xs) (n : Nat) : AllV R (vs.take n) (xs.take n) := by
  refine ⟨by rw [List.length_take, List.length_take, h.1], fun i v x h1 h2 => ?_⟩
  rw [List.getElem?_take] at h1 h2
  by_cases hi : i < n
  · rw [if_pos hi] at h1 h2
    exact h.2 i v x h1 h2
  · rw [if_neg hi] at h1
    cases h1
theorem AllV.cons {v : V} {x : α} (r : R v x) (h : AllV R vs xs) : AllV R (v :: vs) (x :: xs) := AllV.app (vs := [v]) (xs := [x]) (AllV.snoc AllV.nil r) h
theorem AllV.uncons {v : V} (h : AllV R (v :: vs) xs) : ∃ x ys, xs = x :: ys ∧ R v x ∧ AllV R vs ys := by
  cases xs with
  | nil => have := h.1; simp at this
  | cons x ys => exact ⟨x, ys, rfl, h.2 0 v x rfl rfl, by have := h.1; simpa using this, fun i w y h1 h2 => h.2 (i + 1) w y (by simpa using h1) (by simpa using h2)⟩
end
/-- a sentence -/
def SentV (D : Hp) (v : V) (s : Sent) : Prop := ∃ a, v = .ref a ∧ D a = some (.lst (nvs s))
/-- sentences -/
def SentsA (D : Hp) (a : Addr) (ss : List Sent) : Prop := ∃ vs, D a = some (.lst vs) ∧ AllV (SentV D) vs ss
/-- a band: a new pair or one of the text's -/
def BandV (K : PySem.W.Frag) (D : Hp) (v : V) (b : Band) : Prop := ∃ t, v = .ref t ∧ SqT K D t [nv b.1, nv b.2]
def BandsA (K : PySem.W.Frag) (D : Hp) (a : Addr) (bs : List Band) : Prop := ∃ vs, D a = some (.lst vs) ∧ AllV (BandV K D) vs bs
theorem SentV.same {D H : Hp} (e : Same D H) {v : V} {s : Sent} (h : SentV D v s) : SentV H v s := let ⟨a, h1, h2⟩ := h; ⟨a, h1, e _ _ h2⟩
theorem SentsA.same {D H : Hp} (e : Same D H) {a : Addr} {ss : List Sent} (h : SentsA D a ss) : SentsA H a ss := let ⟨vs, h1, h2⟩ := h; ⟨vs, e _ _ h1, h2.imp fun _ _ q => q.same e⟩
theorem same_tup {K : PySem.W.Frag} {H H' : Hp} {a : Addr} {xs : List V} (e : Same H H') (h : SqT K H a xs) : SqT K H' a xs := by
  rcases h with (h | ⟨o, h⟩) | h
  · exact .inl (.inl (e _ _ h))
  · exact .inl (.inr ⟨o, e _ _ h⟩)
  · exact .inr h
theorem BandV.same {K : PySem.W.Frag} {D H : Hp} (e : Same D H) {v : V} {b : Band} (h : BandV K D v b) : BandV K H v b := let ⟨a, h1, h2⟩ := h; ⟨a, h1, same_tup e h2⟩
theorem BandsA.same {K : PySem.W.Frag} {D H : Hp} (e : Same D H) {a : Addr} {bs : List Band} (h : BandsA K D a bs) : BandsA K H a bs := let ⟨vs, h1, h2⟩ := h; ⟨vs, e _ _ h1, h2.imp fun _ _ q => q.same e⟩
/-- a new object leaves all as it was -/
theorem same_new {H : Hp} {p : Addr} {o : HO} (h : H p = none) : Same H (upd H p o) := fun b u e => by
  rw [upd_ne (ne_of_none e h)]
  exact e
theorem same_newT {H H' : Hp} {p : Addr} {o : HO} (s : Same H H') (h : H' p = none) : Same H (upd H' p o) := s.trans (same_new h)
/-- a store to what is new to H -/
theorem same_own {H H' : Hp} {p : Addr} {o : HO} (s : Same H H') (h : H p = none) : Same H (upd H' p o) := fun b u e => by
  rw [upd_ne (ne_of_none e h)]
  exact s b u e
theorem le_line {n : Nat} (h : n ≤ 100000) : n ≤ sizeLine := Nat.le_trans h (by decide)
theorem lt_line {n : Nat} (h : n ≤ 100000) : n < sizeLine := Nat.lt_of_le_of_lt h (by decide)
theorem sq_of {K : PySem.W.Frag} {H : Hp} {a : Addr} {xs : List V} (h : H a = some (.lst xs)) : SqL K H a xs := SqL.of h
/-- names of the module that hold no thing of its own: the built-in ones -/
structure Txt (mg : Str → Option Value) : Prop where
  len : mg "len" = none
  max : mg "max" = none
  min : mg "min" = none
  sum : mg "sum" = none
  all : mg "all" = none
  int : mg "int" = none
  list : mg "list" = none
  set : mg "set" = none
  range : mg "range" = none
  enumerate : mg "enumerate" = none
  zip : mg "zip" = none
/-- a constant of the module -/
def Num (mg : Str → Option Value) (x : Str) (n : Nat) : Prop := ∃ u, mg x = some u ∧ RelV (nv n) u
abbrev Cal (P : Program) (w : World) (K : PySem.W.Frag) (mg : Str → Option Value) (base : Heap) (k : Nat) (x : Str) (sp : Sp) : Prop := C8.Cal P w K mg base k x sp []
abbrev Met (P : Program) (w : World) (K : PySem.W.Frag) (mg : Str → Option Value) (base : Heap) (k : Nat) (C : Addr) (m : Str) (sp : Sp) : Prop := C8.Met P w K mg base k C m sp []
theorem cal_mk {P : Program} {w : World} {K : PySem.W.Frag} {mg : Str → Option Value} {base : Heap} {k : Nat} {x : Str} {sp : Sp} {st : Stmt} {f : Addr} {fd : FuncData} {ps : List Str} (F : Fun K x x st f fd) (hm : mg x = some (.ref f)) (b : Binds K fd ps [])
    (G : FnOk P w K mg base CX0 k f fd ps sp) : Cal P w K mg base k x sp := ⟨f, fd, ps, [], G, hm, F.kp, b, .nil⟩
theorem met_mk {P : Program} {w : World} {K : PySem.W.Frag} {mg : Str → Option Value} {base : Heap} {k : Nat} {x : Str} {sp : Sp} {C f : Addr} {fd : FuncData} {ps : List Str} (c : Cls K C) (m : Meth K C x f) (b : Binds K fd ps [])
    (G : FnOk P w K mg base CX0 k f fd ps sp) : Met P w K mg base k C x sp := ⟨f, fd, ps, [], c, m, G, b, .nil⟩
/-! if whose test is known -/
theorem ifT {c : Bool} {A B : Prop} (hc : c = true) (h : A) : if c = true then A else B := by
  rw [if_pos hc]
  exact h
theorem ifF {c : Bool} {A B : Prop} (hc : c = false) (h : B) : if c = true then A else B := by
  rw [hc, if_neg Bool.false_ne_true]
  exact h
end Wc

set_option Elab.async false
set_option linter.all false
set_option maxRecDepth 100000
set_option maxHeartbeats 2000000
namespace Wc
open PySem PySem.Spec PyProof.Rows L2
section
variable {P : Program} {w : World} {K : PySem.W.Frag} {mg : Str → Option Value} {base : Heap}
/-! ### next_row -/
def spNextRow : Sp := fun vs H Q _ => ∃ (a b : Addr) (row : List Nat) (x : Nat) (other : List Nat), vs = [.ref a, nv x, .ref b] ∧ H a = some (.lst (nvs row)) ∧ H b = some (.lst (nvs other)) ∧ row.length = other.length + 1 ∧ other.length ≤ 1000 ∧
  ∀ H' p, Same H H' → H p = none → H' p = some (.lst (nvs (nxR row x other))) → Q (.ref p) H'
theorem scNextRow : FnScope ["row", "word", "other", "found", "at", "here", "exchanged"] ["row", "word", "other"] (defScope sNextRow) := ⟨rfl, rfl, rfl, by decide +kernel, rfl, by decide +kernel, by decide +kernel⟩
theorem min2_int (i j : Int) : nuMin2 (.int i) (.int j) = some (.int (if j < i then j else i)) := by
  show some (if decide (j < i) = true then V.int j else V.int i) = _
  by_cases h : j < i
  · rw [decide_eq_true h, if_pos rfl, if_pos h]
  · rw [decide_eq_false h, if_neg Bool.false_ne_true, if_neg h]
theorem min3_nat (a b c : Nat) : nuMin3 (nv a) (nv b) (nv c) = some (nv (min (min a b) c)) := by
  unfold nuMin3 nv
  rw [min2_int]
  show nuMin2 (.int (if (b : Int) < a then (b : Int) else a)) (.int c) = _
  rw [min2_int]
  refine congrArg (fun z => some (V.int z)) ?_
  split <;> split <;> omega
theorem min3_int (i j k : Int) : nuMin3 (.int i) (.int j) (.int k) = some (.int (min (min i j) k)) := by
  unfold nuMin3
  rw [min2_int]
  show nuMin2 (.int (if j < i then j else i)) (.int k) = _
  rw [min2_int]
  refine congrArg (fun z => some (V.int z)) ?_
  split <;> split <;> omega
theorem ok_nextRow {f : Addr} {fd : FuncData} (F : Fun K "next_row" "next_row" sNextRow f fd) (T : Txt mg) : FnOk P w K mg base CX0 1 f fd ["row", "word", "other"] spNextRow := by
  refine F.ok scNextRow (fun vs H Q E h => ?_) (fun cdv A outer s H vs Q E hr h => ?_)
  · obtain ⟨a, b, row, x, other, rfl, _⟩ := h
    rfl
  · obtain ⟨a, b, row, x, other, rfl, ha, hb, hl, hs, k⟩ := h
    refine ⟨_, pss_cons (ps_set (i := 3) scNextRow.nd rfl (Or.inl rfl) (pe_lst (pa_cons (pe_op op_add (pe_ix ix_list (pv 0) pe_int (fun _ _ => rfl)) pe_int) pa_nil)))
      (pss_cons (ps_for PassesOwn.never rfl (pi_enum (by rfl) T.enumerate (pa_cons (pv 2) pa_nil)) (pg_tup rfl (pgs_cons (pg_name (i := 4) scNextRow.nd rfl (Or.inl rfl)) (pgs_cons (pg_name (i := 5) scNextRow.nd rfl (Or.inl rfl)) pgs_nil)))
        (pss_cons (ps_set (i := 6) scNextRow.nd rfl (Or.inl rfl) (pe_op op_add (pe_ix ix_list (pv 0) (pv 4) (fun _ _ => rfl)) (pe_callTy call_int1 (by rfl) T.int (by decide +kernel) (pa_cons (pe_cmpR op_ne (pv 1) (pv 5) (nomark _)) pa_nil))))
          (pss_one (ps_expr (pe_bm PySem.F.plainAttrs_list PySem.F.slot_list_append PySem.F.type_list_append mt_append (pv 3) (pa_cons
            (pe_callB (call_min3Nu rfl) (by rfl) T.min (by decide +kernel) (pa_cons (pv 6) (pa_cons (pe_op op_add (pe_ix ix_list (pv 0) (pe_op op_add (pv 4) pe_int) (fun _ _ => rfl)) pe_int) (pa_cons (pe_op op_add (pe_ix ix_list (pv 3) (pv 4) (fun _ _ => rfl)) pe_int) pa_nil)))) pa_nil))))))
      (pss_one (ps_ret (pv 3)))), ?_⟩
    refine ⟨_, rfl, a, nvs row, 0, nv (row.getD 0 0), rfl, rfl, SqL.of ha, nvs_at (i := 0) (by omega), _, 1, rfl, rfl, (by show 1 ≤ sizeLine; decide), fun l hl0 => ?_⟩
    refine ⟨_, rfl, b, nvs other, rfl, SqL.of (same_new hl0 _ _ hb), for_it (walk_enum (xs := nvs other)) (fun i σ H' => ∃ u v z : Option V, σ = [some (.ref a), some (nv x), some (.ref b), some (.ref l), u, v, z] ∧ Same H H' ∧ H' l = some (.lst (nvs (nxT row x other i))))
      ⟨none, none, none, rfl, same_new hl0, upd_same⟩ (fun i σ H' _ ⟨_, _, _, _, s1, _⟩ => SqL.of (s1 _ _ hb)) ?_ ?_⟩
    · rintro i y σ H1 H2 hi ⟨u, v, z, rfl, s1, h1⟩ ⟨t, p, q, rfl, ht, rfl, e1, e2⟩
      cases e1
      obtain ⟨c, hc, rfl⟩ := nvs_get' e2
      rw [nvs_len] at hi
      have hxl := nxT_len row x other i (by omega)
      have nlt : l ≠ t := ne_of_none h1 ht
      have s2 : Same H (upd H1 t (.tup [.int (i : Nat), nv c])) := same_newT s1 ht
      refine ⟨t, _, rfl, SqT.of upd_same, rfl, _, _, rfl, _, _, rfl, rfl, ?_⟩
      refine ⟨_, rfl, _, rfl, a, nvs row, (i : Nat), nv (row.getD i 0), rfl, rfl, SqL.of (s2 _ _ ha), nvs_at (by omega), _, rfl, _, rfl, rfl, .inr ⟨_, rfl, _, _, rfl, rfl, ?_⟩⟩
      have hfi : (nvs (nxT row x other i)).length = i + 1 := by rw [nvs_len]; exact hxl
      refine ⟨_, rfl, .inl ⟨rfl, _, SqL.of ((same_new ht) _ _ h1)⟩, _, rfl, ?_⟩
      refine ⟨_, rfl, _, rfl, _, _, rfl, rfl, a, nvs row, ((i + 1 : Nat) : Int), nv (row.getD (i + 1) 0), rfl, rfl, SqL.of (s2 _ _ ha), nvs_at (by omega), _, _, rfl, rfl, ?_⟩
      refine ⟨_, rfl, _, rfl, l, _, (i : Nat), nv ((nxT row x other i).getD i 0), rfl, rfl, SqL.of ((same_new ht) _ _ h1), nvs_at (by omega), _, _, rfl, rfl, ?_⟩
      refine ⟨_, _, _, _, rfl, min3_int _ _ _, l, _, _, rfl, rfl, (same_new ht) _ _ h1, by rw [hfi]; exact lt_line (by omega), ?_⟩
      refine ⟨_, _, _, rfl, same_own s2 hl0, ?_⟩
      rw [upd_same, nxT_succ row x other hc]
      unfold nxF
      rw [nvs_app]
      refine congrArg (fun z => some (HO.lst (nvs (nxT row x other i) ++ z))) ?_
      refine congrArg (fun z => [V.int z]) ?_
      by_cases ec : x = c
      · have e0 : (!decide (nv x = nv c)) = false := by rw [ec]; simp
        rw [e0, if_pos ec]
        simp only [Bool.false_eq_true, if_false]
        omega
      · have e0 : (!decide (nv x = nv c)) = true := by
          rw [decide_eq_false (fun q => ec (by unfold nv at q; have := V.int.inj q; omega))]; rfl
        rw [e0, if_neg ec]
        simp only [if_true]
        omega
    · rintro σ H1 ⟨u, v, z, rfl, s1, h1⟩
      refine ⟨_, rfl, k _ l s1 hl0 ?_⟩
      rw [h1, nvs_len]
      rfl
end
end Wc

set_option Elab.async false
set_option linter.all false
set_option maxRecDepth 100000
set_option maxHeartbeats 2000000
namespace Wc
open PySem PySem.Spec PyProof.Rows L2
section
variable {P : Program} {w : World} {K : PySem.W.Frag} {mg : Str → Option Value} {base : Heap}
/-! ### changes -/
def spChanges : Sp := fun vs H Q _ => ∃ (a b : Addr) (one other : List Nat), vs = [.ref a, .ref b] ∧ H a = some (.lst (nvs one)) ∧ H b = some (.lst (nvs other)) ∧ other.length ≤ 1000 ∧
  ∀ H', Same H H' → Q (nv (chg one other)) H'
theorem scChanges : FnScope ["one", "other", "row", "word"] ["one", "other"] (defScope sChanges) := ⟨rfl, rfl, rfl, by decide +kernel, rfl, by decide +kernel, by decide +kernel⟩
theorem rgV_nat (n : Nat) : rgV 0 (n : Int) = nvs (List.range n) := by
  unfold rgV nvs
  have e : ((n : Int) - 0).toNat = n := by omega
  rw [e]
  apply List.map_congr_left
  intro i _
  show V.int (0 + (i : Int)) = V.int (i : Int)
  rw [Int.zero_add]
theorem ok_changes {f : Addr} {fd : FuncData} (F : Fun K "changes" "changes" sChanges f fd) (T : Txt mg) (CN : Cal P w K mg base 1 "next_row" spNextRow) : FnOk P w K mg base CX0 2 f fd ["one", "other"] spChanges := by
  refine F.ok scChanges (fun vs H Q E h => ?_) (fun cdv A outer s H vs Q E hr h => ?_)
  · obtain ⟨a, b, one, other, rfl, _⟩ := h
    rfl
  · obtain ⟨a, b, one, other, rfl, ha, hb, hs, k⟩ := h
    refine ⟨_, pss_cons (ps_set (i := 2) scChanges.nd rfl (Or.inl rfl) (pe_listRg rfl (by rfl) T.list (prg_1 (by rfl) T.range (pe_op op_add (pe_callB call_len_seq (by rfl) T.len PySem.boot_len (pa_cons (pv 1) pa_nil)) pe_int))))
      (pss_cons (ps_for PassesOwn.never rfl (pi_list (pv 0)) (pg_name (i := 3) scChanges.nd rfl (Or.inl rfl))
        (pss_one (ps_set (i := 2) scChanges.nd rfl (Or.inl rfl) (C8.pe_c CN hr (by decide) (by rfl) (pa_cons (pv 2) (pa_cons (pv 3) (pa_cons (pv 1) pa_nil)))))))
      (pss_one (ps_ret (pe_ix ix_list (pv 2) (pe_un un_neg pe_int) (fun _ _ => rfl))))), ?_⟩
    refine ⟨_, rfl, b, _, rfl, .inl (SqL.of hb), _, _, rfl, rfl, _, rfl, ?_, fun l hl0 => ?_⟩
    · rw [nvs_len]
      exact RgOk.of_le (by omega) (by omega) (by omega) (by omega)
    refine ⟨_, rfl, a, rfl, ⟨_, SqL.of (same_new hl0 _ _ ha)⟩, for_list (K := K) (a := a) (xs := nvs one) (fun i σ H' => ∃ (r : Addr) (u : Option V), σ = [some (.ref a), some (.ref b), some (.ref r), u] ∧ Same H H' ∧ H' r = some (.lst (nvs (chT one other i))))
      ⟨l, none, rfl, same_new hl0, ?_⟩ (fun i σ H' _ ⟨_, _, _, s1, _⟩ => SqL.of (s1 _ _ ha)) ?_ ?_⟩
    · rw [upd_same, nvs_len]
      exact congrArg (fun z => some (HO.lst z)) (rgV_nat (other.length + 1))
    · rintro i x σ H1 hx ⟨r, u, rfl, s1, h1⟩
      obtain ⟨n, hn, rfl⟩ := nvs_get' hx
      have hi := (List.getElem?_eq_some_iff.mp hn).1
      refine ⟨_, rfl, _, rfl, _, rfl, r, b, chT one other i, n, other, rfl, h1, s1 _ _ hb, chT_len one other i (by omega), hs, fun H2 p s2 hp h2 => ?_⟩
      refine ⟨p, _, rfl, s1.trans s2, ?_⟩
      rw [h2, chT_succ one other hn]
    · rintro σ H1 ⟨r, u, rfl, s1, h1⟩
      rw [nvs_len] at h1
      have hl := chT_len one other one.length (Nat.le_refl _)
      refine ⟨_, rfl, _, rfl, r, _, _, nv (chg one other), rfl, rfl, SqL.of h1, ?_, k _ s1⟩
      obtain ⟨z, e⟩ : ∃ z, chT one other one.length = z ++ [chg one other] := by
        refine ⟨(chT one other one.length).take other.length, ?_⟩
        have e1 : (chT one other one.length)[other.length]? = some (chg one other) := by
          unfold chg
          rw [List.getD_eq_getElem?_getD, List.getElem?_eq_getElem (by omega)]; rfl
        rw [← take_more e1, ← hl, List.take_length]
      rw [e, nvs_app]
      exact atI_last _ _
/-! ### near -/
def spNear : Sp := fun vs H Q _ => ∃ (a b : Addr) (one other : List Nat), vs = [.ref a, .ref b] ∧ H a = some (.lst (nvs one)) ∧ H b = some (.lst (nvs other)) ∧ other.length ≤ 1000 ∧ 0 < one.length ∧ one.length ≤ 1000 ∧
  ∀ H', Same H H' → Q (nv (nr one other)) H'
theorem scNear : FnScope ["one", "other", "longer"] ["one", "other"] (defScope sNear) := ⟨rfl, rfl, rfl, by decide +kernel, rfl, by decide +kernel, by decide +kernel⟩
theorem ok_near {f : Addr} {fd : FuncData} (F : Fun K "near" "near" sNear f fd) (T : Txt mg) (NH : Num mg "HUNDRED" 100) (CC : Cal P w K mg base 2 "changes" spChanges) : FnOk P w K mg base CX0 3 f fd ["one", "other"] spNear := by
  refine F.ok scNear (fun vs H Q E h => ?_) (fun cdv A outer s H vs Q E hr h => ?_)
  · obtain ⟨a, b, one, other, rfl, _⟩ := h
    rfl
  · obtain ⟨a, b, one, other, rfl, ha, hb, hs, h0, h1, k⟩ := h
    refine ⟨_, pss_cons (ps_set (i := 2) scNear.nd rfl (Or.inl rfl) (pe_callB (call_max2 rfl) (by rfl) T.max (by decide +kernel) (pa_cons (pe_callB call_len_seq (by rfl) T.len PySem.boot_len (pa_cons (pv 0) pa_nil)) (pa_cons (pe_callB call_len_seq (by rfl) T.len PySem.boot_len (pa_cons (pv 1) pa_nil)) pa_nil))))
      (pss_one (ps_ret (pe_op op_fdivN (pe_op op_mul (C8.pe_gc (by rfl) NH) (pe_op op_sub (pv 2) (C8.pe_c CC hr (by decide) (by rfl) (pa_cons (pv 0) (pa_cons (pv 1) pa_nil))))) (pv 2)))), ?_⟩
    refine ⟨_, rfl, a, _, rfl, .inl (SqL.of ha), _, rfl, b, _, rfl, .inl (SqL.of hb), _, _, rfl, ?_⟩
    have el : (if ((nvs other).length : Int) > ((nvs one).length : Int) then ((nvs other).length : Int) else ((nvs one).length : Int)) = ((max one.length other.length : Nat) : Int) := by
      rw [nvs_len, nvs_len]
      split <;> omega
    rw [el]
    have hle := chg_le one other
    refine ⟨_, rfl, _, rfl, _, rfl, a, b, one, other, rfl, ha, hb, hs, fun H1 s1 => ?_⟩
    refine ⟨_, _, rfl, rfl, _, _, rfl, rfl, .inl ⟨by decide, by decide⟩, _, rfl, _, _, rfl, rfl, ⟨?_, ?_⟩, ?_⟩
    · omega
    · omega
    · have e : (((100 : Nat) : Int) * (((max one.length other.length : Nat) : Int) - ((chg one other : Nat) : Int))).fdiv ((max one.length other.length : Nat) : Int) = ((nr one other : Nat) : Int) := by
        unfold nr
        rw [Int.fdiv_eq_ediv_of_nonneg _ (by omega)]
        rw [Int.natCast_ediv, Int.natCast_mul, Int.natCast_sub hle]
      show Q (V.int _) H1
      rw [e]
      exact k _ s1
/-! ### nearest -/
def spNearest : Sp := fun vs H Q _ => ∃ (a b : Addr) (s : Sent) (l : List Sent), vs = [.ref a, .ref b] ∧ H a = some (.lst (nvs s)) ∧ SentsA H b l ∧ 0 < s.length ∧ s.length ≤ 1000 ∧ (∀ x ∈ l, x.length ≤ 1000) ∧
  ∀ H', Same H H' → Q (.int (nst s l)) H'
theorem scNearest : FnScope ["sentence", "others", "found", "other"] ["sentence", "others"] (defScope sNearest) := ⟨rfl, rfl, rfl, by decide +kernel, rfl, by decide +kernel, by decide +kernel⟩
theorem ok_nearest {f : Addr} {fd : FuncData} (F : Fun K "nearest" "nearest" sNearest f fd) (T : Txt mg) (CN : Cal P w K mg base 3 "near_nearness" spNear) : FnOk P w K mg base CX0 4 f fd ["sentence", "others"] spNearest := by
  refine F.ok scNearest (fun vs H Q E h => ?_) (fun cdv A outer s H vs Q E hr h => ?_)
  · obtain ⟨a, b, s, l, rfl, _⟩ := h
    rfl
  · obtain ⟨a, b, s, l, rfl, ha, ⟨vl, hb, al⟩, h0, h1, h2, k⟩ := h
    refine ⟨_, pss_cons (ps_set (i := 2) scNearest.nd rfl (Or.inl rfl) (pe_un un_neg pe_int))
      (pss_cons (ps_for PassesOwn.never rfl (pi_list (pv 1)) (pg_name (i := 3) scNearest.nd rfl (Or.inl rfl))
        (pss_one (ps_set (i := 2) scNearest.nd rfl (Or.inl rfl) (pe_callB (call_max2 rfl) (by rfl) T.max (by decide +kernel) (pa_cons (pv 2) (pa_cons (C8.pe_c CN hr (by decide) (by rfl) (pa_cons (pv 0) (pa_cons (pv 3) pa_nil))) pa_nil))))))
      (pss_one (ps_ret (pv 2)))), ?_⟩
    refine ⟨_, rfl, _, rfl, b, rfl, ⟨_, SqL.of hb⟩, for_list (K := K) (a := b) (xs := vl) (fun i σ H' => ∃ (u : Option V), σ = [some (.ref a), some (.ref b), some (.int (nst s (l.take i))), u] ∧ Same H H')
      ⟨none, rfl, Same.refl _⟩ (fun i σ H' _ ⟨_, _, s1⟩ => SqL.of (s1 _ _ hb)) ?_ ?_⟩
    · rintro i x σ H1 hx ⟨u, rfl, s1⟩
      obtain ⟨t, ht, c, rfl, hc⟩ := al.getV hx
      have htl := h2 t (List.mem_of_getElem? ht)
      refine ⟨_, rfl, _, rfl, _, rfl, a, c, s, t, rfl, s1 _ _ ha, s1 _ _ hc, htl, h0, h1, fun H2 s2 => ?_⟩
      refine ⟨_, _, rfl, some (.ref c), ?_, s1.trans s2⟩
      have e : nst s (l.take (i + 1)) = max (nst s (l.take i)) (nr s t : Int) := ft _ _ ht
      rw [e]
      have e2 : (if ((nr s t : Nat) : Int) > nst s (l.take i) then ((nr s t : Nat) : Int) else nst s (l.take i)) = max (nst s (l.take i)) (nr s t : Int) := by
        split <;> omega
      rw [e2]
      rfl
    · rintro σ H1 ⟨u, rfl, s1⟩
      rw [al.1, List.take_length]
      exact ⟨_, rfl, k _ s1⟩
end
end Wc

set_option Elab.async false
set_option linter.all false
set_option maxRecDepth 100000
set_option maxHeartbeats 2000000
namespace Wc
open PySem PySem.Spec PyProof.Rows L2
/-! ### sentences as data, for in and not in -/
def sD (s : Sent) : PyData := .list (s.map fun (n : Nat) => PyData.int (n : Int))
theorem dp_nvs {K : PySem.W.Frag} {H : Hp} : ∀ s : List Nat, DpAll K H (nvs s) (s.map fun (n : Nat) => PyData.int (n : Int))
  | [] => .nil
  | n :: s => .cons (.int n) (dp_nvs s)
theorem dp_sent {K : PySem.W.Frag} {H : Hp} {a : Addr} {s : Sent} (h : H a = some (.lst (nvs s))) : Dp K H (.ref a) (sD s) := .lst (SqL.of h) (dp_nvs s)
theorem dp_all {K : PySem.W.Frag} {H : Hp} : ∀ {vs : List V} {ss : List Sent}, AllV (SentV H) vs ss → DpAll K H vs (ss.map sD)
  | [], ss, h => by
    have : ss = [] := List.length_eq_zero_iff.mp h.1.symm
    subst this
    exact .nil
  | v :: vs, ss, h => by
    obtain ⟨x, ys, rfl, ⟨a, rfl, ha⟩, h2⟩ := h.uncons
    exact .cons (dp_sent ha) (dp_all h2)
theorem dp_sents {K : PySem.W.Frag} {H : Hp} {a : Addr} {ss : List Sent} (h : SentsA H a ss) : Dp K H (.ref a) (.list (ss.map sD)) := by
  obtain ⟨vs, h1, h2⟩ := h
  exact .lst (SqL.of h1) (dp_all h2)
theorem iD_lay : ∀ s : List Nat, PyData.canLayAll0 (s.map fun (n : Nat) => PyData.int (n : Int)) = true
  | [] => by simp [PyData.canLayAll0]
  | n :: s => by simp [PyData.canLayAll0, PyData.canLay0, iD_lay s]
theorem iD_depth : ∀ s : List Nat, PyData.depthAll (s.map fun (n : Nat) => PyData.int (n : Int)) ≤ 1
  | [] => by simp [PyData.depthAll]
  | n :: s => by
    have h := iD_depth s
    simp only [List.map_cons, PyData.depthAll, PyData.depth]
    omega
theorem sD_lay (s : Sent) : (sD s).canLay0 = true := by
  show PyData.canLay0 (.list _) = true
  simp only [PyData.canLay0]
  exact iD_lay s
theorem sD_depth (s : Sent) : (sD s).depth ≤ 2 := by
  have h := iD_depth s
  show PyData.depth (.list _) ≤ 2
  simp only [PyData.depth]
  omega
theorem sDs_lay : ∀ ss : List Sent, PyData.canLayAll0 (ss.map sD) = true
  | [] => by simp [PyData.canLayAll0]
  | s :: ss => by simp [PyData.canLayAll0, sD_lay s, sDs_lay ss]
theorem sDs_depth : ∀ ss : List Sent, PyData.depthAll (ss.map sD) ≤ 2
  | [] => by simp [PyData.depthAll]
  | s :: ss => by
    have h1 := sDs_depth ss
    have h2 := sD_depth s
    simp only [List.map_cons, PyData.depthAll]
    omega
theorem sD_shaped (s : Sent) : SeqAt.shaped (sD s) = true := by
  have h := sD_depth s
  show ((sD s).canLay0 && decide ((sD s).depth ≤ 64)) = true
  rw [Bool.and_eq_true]
  exact ⟨sD_lay s, decide_eq_true (by omega)⟩
theorem sDs_shaped (ss : List Sent) : SeqAt.shaped (.list (ss.map sD)) = true := by
  have h1 := sDs_depth ss
  have h2 : PyData.depth (.list (ss.map sD)) ≤ 64 := by
    simp only [PyData.depth]
    omega
  show (PyData.canLay0 (.list (ss.map sD)) && decide (PyData.depth (.list (ss.map sD)) ≤ 64)) = true
  rw [Bool.and_eq_true]
  exact ⟨by simp only [PyData.canLay0]; exact sDs_lay ss, decide_eq_true h2⟩
theorem iD_eqv : ∀ a b : List Nat, PyData.eqvAll (a.map fun (n : Nat) => PyData.int (n : Int)) (b.map fun (n : Nat) => PyData.int (n : Int)) = decide (a = b)
  | [], [] => by simp [PyData.eqvAll]
  | [], y :: b => by simp [PyData.eqvAll]
  | x :: a, [] => by simp [PyData.eqvAll]
  | x :: a, y :: b => by
    have ih := iD_eqv a b
    simp only [List.map_cons, PyData.eqvAll, PyData.eqv, ih]
    by_cases e : x = y
    · subst e
      by_cases e2 : a = b
      · subst e2; simp
      · simp [e2]
    · have q : ((x : Int) == (y : Int)) = false := beq_eq_false_iff_ne.mpr (by omega)
      rw [q, Bool.false_and]
      exact (decide_eq_false (fun z => e (List.cons.inj z).1)).symm
theorem sD_eqv (a b : Sent) : PyData.eqv (sD a) (sD b) = decide (a = b) := by
  show PyData.eqv (.list _) (.list _) = _
  rw [PyData.eqv]
  exact iD_eqv a b
theorem any_sD (s : Sent) : ∀ ss : List Sent, ((ss.map sD).any fun z => PyData.eqv z (sD s)) = ss.contains s
  | [] => rfl
  | x :: ss => by
    rw [List.map_cons, List.any_cons, any_sD s ss, sD_eqv, List.contains_cons]
    congr 1
    by_cases e : x = s
    · subst e; simp
    · have : (s == x) = false := beq_eq_false_iff_ne.mpr (fun q => e q.symm)
      rw [decide_eq_false e, this]
theorem room65 {k : Nat} {A : Around} (r : Room k A) : A.units + 65 < cLine := by
  have := r.un
  omega
section
variable {P : Program} {w : World} {K : PySem.W.Frag} {mg : Str → Option Value} {base : Heap}
/-! ### band_of -/
def spBandOf (K : PySem.W.Frag) : Sp := fun vs H Q _ => ∃ (a : Addr) (bs : List Band) (z : Int), vs = [.ref a, .int z] ∧ BandsA K H a bs ∧ ∀ H', Same H H' → Q (nv (bandOf bs z)) H'
theorem scBandOf : FnScope ["bands", "how_near", "at", "band"] ["bands", "how_near"] (defScope sBandOf) := ⟨rfl, rfl, rfl, by decide +kernel, rfl, by decide +kernel, by decide +kernel⟩
theorem ok_bandOf {f : Addr} {fd : FuncData} (F : Fun K "band_of" "band_of" sBandOf f fd) (T : Txt mg) : FnOk P w K mg base CX0 1 f fd ["bands", "how_near"] (spBandOf K) := by
  refine F.ok scBandOf (fun vs H Q E h => ?_) (fun cdv A outer s H vs Q E hr h => ?_)
  · obtain ⟨a, bs, z, rfl, _⟩ := h
    rfl
  · obtain ⟨a, bs, z, rfl, ⟨vl, ha, al⟩, k⟩ := h
    refine ⟨_, pss_cons (ps_for PassesOwn.never rfl (pi_enum (by rfl) T.enumerate (pa_cons (pv 0) pa_nil)) (pg_tup rfl (pgs_cons (pg_name (i := 2) scBandOf.nd rfl (Or.inl rfl)) (pgs_cons (pg_name (i := 3) scBandOf.nd rfl (Or.inl rfl)) pgs_nil)))
        (pss_one (ps_if (pt_cmpR op_le (pe_ix ix_tup (pv 3) pe_int (fun _ _ => rfl)) (pv 1) (nomark _)) (pss_one (ps_ret (pe_op op_add (pv 2) pe_int))) pss_nil)))
      (pss_one (ps_ret (pe_op op_add (pe_callB call_len_seq (by rfl) T.len PySem.boot_len (pa_cons (pv 0) pa_nil)) pe_int))), ?_⟩
    refine ⟨_, rfl, a, vl, rfl, SqL.of ha, for_it (walk_enum (xs := vl)) (fun i σ H' => ∃ u v : Option V, σ = [some (.ref a), some (.int z), u, v] ∧ Same H H' ∧ ∀ j b, j < i → bs[j]? = some b → ¬ (b.1 : Int) ≤ z)
      ⟨none, none, rfl, Same.refl _, fun j b hj => absurd hj (Nat.not_lt_zero j)⟩ (fun i σ H' _ ⟨_, _, _, s1, _⟩ => SqL.of (s1 _ _ ha)) ?_ ?_⟩
    · rintro i y σ H1 H2 hi ⟨u, v, rfl, s1, no⟩ ⟨t, p, q, rfl, ht, rfl, e1, e2⟩
      cases e1
      obtain ⟨b, hb, tb, rfl, htb⟩ := al.getV e2
      have s2 : Same H (upd H1 t (.tup [.int (i : Nat), .ref tb])) := same_newT s1 ht
      refine ⟨t, _, rfl, SqT.of upd_same, rfl, _, _, rfl, _, _, rfl, rfl, ?_⟩
      refine ⟨_, rfl, tb, _, 0, nv b.1, rfl, rfl, same_tup s2 htb, atI_nat (j := 0) rfl, _, rfl, _, _, rfl, rfl, _, rfl, ?_⟩
      have hl := (List.getElem?_eq_some_iff.mp hb)
      obtain ⟨hlt, heq⟩ := hl
      by_cases c : (b.1 : Int) ≤ z
      · refine ifT (decide_eq_true c) ?_
        refine ⟨_, rfl, _, _, rfl, rfl, ?_⟩
        have e : bandOf bs z = i + 1 := by
          unfold bandOf
          rw [(List.findIdx_eq hlt).mpr ⟨by rw [heq]; exact decide_eq_true c, fun j hj => decide_eq_false (no j _ hj (List.getElem?_eq_getElem _))⟩]
        have := k _ s2
        rw [e] at this
        exact this
      · refine ifF (decide_eq_false c) ?_
        refine ⟨_, _, rfl, s2, fun j b' hj hb' => ?_⟩
        by_cases e : j = i
        · subst e
          rw [hb] at hb'
          cases hb'
          exact c
        · exact no j b' (by omega) hb'
    · rintro σ H1 ⟨u, v, rfl, s1, no⟩
      refine ⟨_, rfl, a, vl, rfl, .inl (SqL.of (s1 _ _ ha)), _, _, rfl, rfl, ?_⟩
      have e : bandOf bs z = bs.length + 1 := by
        unfold bandOf
        rw [List.findIdx_eq_length_of_false]
        intro b hb
        obtain ⟨j, hj⟩ := List.mem_iff_getElem?.mp hb
        exact decide_eq_false (no j b (by rw [al.1]; exact (List.getElem?_eq_some_iff.mp hj).1) hj)
      have := k _ s1
      rw [e, ← al.1] at this
      exact this
/-! ### kind_of -/
def spKindOf (K : PySem.W.Frag) : Sp := fun vs H Q _ => ∃ (a b c d : Addr) (s : Sent) (ahead memory : List Sent) (bs : List Band), vs = [.ref a, .ref b, .ref c, .ref d] ∧ H a = some (.lst (nvs s)) ∧ SentsA H b ahead ∧ SentsA H c memory ∧ BandsA K H d bs ∧
  0 < s.length ∧ s.length ≤ 1000 ∧ (∀ x ∈ ahead, x.length ≤ 1000) ∧ (∀ x ∈ memory, x.length ≤ 1000) ∧ memory.length + ahead.length ≤ 100000 ∧ ∀ H', Same H H' → Q (nv (kd bs memory ahead s)) H'
theorem scKindOf : FnScope ["sentence", "ahead", "memory", "bands"] ["sentence", "ahead", "memory", "bands"] (defScope sKindOf) := ⟨rfl, rfl, rfl, by decide +kernel, rfl, by decide +kernel, by decide +kernel⟩
theorem ok_kindOf {f : Addr} {fd : FuncData} (F : Fun K "kind_of" "kind_of" sKindOf f fd) (T : Txt mg) (NR : Num mg "REPEATED" 0) (CB : Cal P w K mg base 1 "band_of" (spBandOf K)) (CN : Cal P w K mg base 4 "nearest" spNearest) :
    FnOk P w K mg base CX0 5 f fd ["sentence", "ahead", "memory", "bands"] (spKindOf K) := by
  refine F.ok scKindOf (fun vs H Q E h => ?_) (fun cdv A outer s H vs Q E hr h => ?_)
  · obtain ⟨a, b, c, d, s, ahead, memory, bs, rfl, _⟩ := h
    rfl
  · obtain ⟨a, b, c, d, s, ahead, memory, bs, rfl, ha, hb, hc, hd, h0, h1, h2, h3, h4, k⟩ := h
    have hu := room65 hr
    refine ⟨_, pss_cons (ps_if (PW.pt (pw_and (pt_cmpR (op_inD hu) (pv 0) (pv 1) (by rfl)) (pw_and1 (pt_cmpR (op_notInD hu) (pv 0) (pv 2) (by rfl))))) (pss_one (ps_ret (C8.pe_gc (by rfl) NR))) pss_nil)
      (pss_one (ps_ret (C8.pe_c CB hr (by decide) (by rfl) (pa_cons (pv 3) (pa_cons (C8.pe_c CN hr (by decide) (by rfl) (pa_cons (pv 0) (pa_cons (pe_op op_cat (pv 2) (pv 1)) pa_nil))) pa_nil))))), ?_⟩
    have rest : ¬ (ahead.contains s = true ∧ memory.contains s = false) → (tRet (tCall (spBandOf K) [] C8.E0 (tCons (tVar 3) (tCons (tCall spNearest [] C8.E0 (tCons (tVar 0) (tCons (tOp rCat (tVar 2) (tVar 1)) tNil))) tNil))))
        { nx := fun _ H' => Q .non H', rt := Q } (start ["sentence", "ahead", "memory", "bands"] [.ref a, .ref b, .ref c, .ref d]) H := by
      intro hno
      obtain ⟨vb, hb1, hb2⟩ := hb
      obtain ⟨vc, hc1, hc2⟩ := hc
      refine ⟨_, rfl, _, rfl, _, rfl, _, rfl, c, b, vc, vb, rfl, rfl, hc1, hb1, by rw [hb2.1, hc2.1]; exact le_line h4, fun p hp => ?_⟩
      have s1 : Same H (upd H p (.lst (vc ++ vb))) := same_new hp
      refine ⟨a, p, s, memory ++ ahead, rfl, s1 _ _ ha, ⟨_, upd_same, (hc2.imp fun _ _ q => q.same s1).app (hb2.imp fun _ _ q => q.same s1)⟩, h0, h1, fun x hx => ?_, fun H2 s2 => ?_⟩
      · rcases List.mem_append.mp hx with q | q
        · exact h3 x q
        · exact h2 x q
      · refine ⟨d, bs, _, rfl, hd.same (s1.trans s2), fun H3 s3 => ?_⟩
        have e : kd bs memory ahead s = bandOf bs (nst s (memory ++ ahead)) := if_neg hno
        have := k _ ((s1.trans s2).trans s3)
        rw [e] at this
        exact this
    refine ⟨_, rfl, _, rfl, sD s, ahead.map sD, dp_sent ha, dp_sents hb, sD_shaped s, sDs_shaped ahead, _, rfl, ?_⟩
    rw [any_sD]
    cases c1 : ahead.contains s with
    | false => exact iteF (iteF (rest fun q => by rw [c1] at q; exact absurd q.1 Bool.false_ne_true))
    | true =>
      refine iteT ⟨_, rfl, _, rfl, sD s, memory.map sD, dp_sent ha, dp_sents hc, sD_shaped s, sDs_shaped memory, _, rfl, ?_⟩
      rw [any_sD]
      cases c2 : memory.contains s with
      | true => exact iteF (rest fun q => by rw [c2] at q; exact absurd q.2 (fun z => Bool.noConfusion z))
      | false =>
        refine iteT ?_
        have e : kd bs memory ahead s = 0 := if_pos ⟨c1, c2⟩
        have := k _ (Same.refl H)
        rw [e] at this
        exact this
end
end Wc

set_option Elab.async false
set_option linter.all false
set_option maxRecDepth 100000
set_option maxHeartbeats 2000000
namespace Wc
open PySem PySem.Spec PyProof.Rows L2
theorem yes_then {σ : L2.St} {H : Hp} {A B : Hp → Prop} (h : A H) : tYes σ H (fun b H3 => if b = true then A H3 else B H3) := by
  show if true = true then A H else B H
  rw [if_pos rfl]
  exact h
theorem cut_to {xs : List V} {i : Nat} (h : i ≤ xs.length) : cutV xs none (some (i : Int)) = xs.take i := by
  unfold cutV
  rw [HT.sIx_none, HT.sIx_nat, List.drop_zero, Nat.min_eq_left h]; rfl
theorem kds_take {bs : List Band} {memory job : List Sent} {i : Nat} {s : Sent} (h : job[i]? = some s) : (kds bs memory job).take (i + 1) = (kds bs memory job).take i ++ [kd bs memory (job.take i) s] := by
  refine take_more ?_
  unfold kds
  rw [List.getElem?_map, zipIdx_at h]; rfl
theorem sum_int : ∀ l : List Nat, (l.map fun (n : Nat) => (n : Int)).sum = ((l.sum : Nat) : Int)
  | [] => rfl
  | n :: l => by
    rw [List.map_cons, List.sum_cons, List.sum_cons, sum_int l, Int.natCast_add]
theorem flat_rep (k : Nat) (v : V) : (List.replicate k [v]).flatten = List.replicate k v := by
  induction k with
  | zero => rfl
  | succ k ih => rw [List.replicate_succ, List.flatten_cons, ih, List.replicate_succ]; rfl
section
variable {P : Program} {w : World} {K : PySem.W.Frag} {mg : Str → Option Value} {base : Heap}
/-! ### kinds_of -/
/-- what a job asks of the sentences -/
def JobOk (memory job : List Sent) : Prop := (∀ x ∈ job, 0 < x.length ∧ x.length ≤ 1000) ∧ (∀ x ∈ memory, x.length ≤ 1000) ∧ memory.length + job.length ≤ 10000
def spKindsOf (K : PySem.W.Frag) : Sp := fun vs H Q _ => ∃ (a b c : Addr) (job memory : List Sent) (bs : List Band), vs = [.ref a, .ref b, .ref c] ∧ SentsA H a job ∧ SentsA H b memory ∧ BandsA K H c bs ∧ JobOk memory job ∧
  ∀ H' p, Same H H' → H p = none → H' p = some (.lst (nvs (kds bs memory job))) → Q (.ref p) H'
theorem scKindsOf : FnScope ["job", "memory", "bands", "at", "sentence"] ["job", "memory", "bands"] (defScope sKindsOf) := ⟨rfl, rfl, rfl, by decide +kernel, rfl, by decide +kernel, by decide +kernel⟩
theorem ok_kindsOf {f : Addr} {fd : FuncData} (F : Fun K "kinds_of" "kinds_of" sKindsOf f fd) (T : Txt mg) (CK : Cal P w K mg base 5 "kind_of" (spKindOf K)) : FnOk P w K mg base CX0 6 f fd ["job", "memory", "bands"] (spKindsOf K) := by
  refine F.ok scKindsOf (fun vs H Q E h => ?_) (fun cdv A outer s H vs Q E hr h => ?_)
  · obtain ⟨a, b, c, job, memory, bs, rfl, _⟩ := h
    rfl
  · obtain ⟨a, b, c, job, memory, bs, rfl, ⟨va, ha, al⟩, hb, hc, ⟨j1, j2, j3⟩, k⟩ := h
    refine ⟨_, pss_one (ps_ret (pe_lc (own := [("at", 3), ("sentence", 4)]) (g := gTup K 2 (gCons (gName 3) (gCons (gName 4) gNil))) (tt := tYes) (te := tCall (spKindOf K) [] C8.E0 (tCons (tVar 4) (tCons (tSl (rSlL K) (tVar 0) tNoPart (tPart (tVar 3))) (tCons (tVar 1) (tCons (tVar 2) tNil))))) rfl scKindsOf.nd (pi_enum (by rfl) T.enumerate (pa_cons (pv 0) pa_nil)) (blkOk_by (N := ["job", "memory", "bands", "at", "sentence"]) (sc := defScope sKindsOf) (by decide +kernel))
      (fun _ _ _ _ _ => pg_tup rfl (pgs_cons (pg_name (i := 3) scKindsOf.nd rfl (Or.inl rfl)) (pgs_cons (pg_name (i := 4) scKindsOf.nd rfl (Or.inl rfl)) pgs_nil))) (fun _ _ _ _ _ => pts_nil)
      (fun _ _ _ _ _ => C8.pe_c CK hr (by decide) (by rfl) (pa_cons (pv 4) (pa_cons (pe_slice sl_list (pv 0) po_none (po_some (pv 3))) (pa_cons (pv 1) (pa_cons (pv 2) pa_nil))))))), ?_⟩
    refine ⟨_, rfl, a, va, rfl, SqL.of ha, fun D hD => lc_it (walk_enum (xs := va)) (fun i H' => Same H H' ∧ H' D = some (.lst (nvs ((kds bs memory job).take i)))) ⟨same_new hD, upd_same⟩ (fun i H' _ ⟨s1, _⟩ => SqL.of (s1 _ _ ha)) ?_ ?_⟩
    · rintro i y H1 H2 hi ⟨s1, h1⟩ ⟨t, p, q, rfl, ht, rfl, e1, e2⟩
      cases e1
      obtain ⟨x, hx, c1, rfl, hc1⟩ := al.getV e2
      have s2 : Same H (upd H1 t (.tup [.int (i : Nat), .ref c1])) := same_newT s1 ht
      have hjob := j1 x (List.mem_of_getElem? hx)
      refine ⟨t, _, rfl, SqT.of upd_same, rfl, _, _, rfl, _, _, rfl, rfl, rfl, ?_⟩
      refine yes_then ⟨_, rfl, _, rfl, _, rfl, _, rfl, a, va, rfl, SqL.of (s2 _ _ ha), fun p hp => ?_⟩
      have s3 := same_newT (o := .lst (cutV va none (some (i : Int)))) s2 hp
      have cut : cutV va none (some (i : Int)) = va.take i := cut_to (by omega)
      refine ⟨_, rfl, _, rfl, c1, p, b, c, x, job.take i, memory, bs, rfl, s3 _ _ hc1, ⟨_, upd_same, ?_⟩, hb.same s3, hc.same s3, hjob.1, hjob.2, fun x hx => (j1 x (List.mem_of_mem_take hx)).2, j2, ?_, fun H3 s4 => ?_⟩
      · refine AllV.imp (R := SentV H) ?_ fun _ _ q => q.same s3
        rw [cut]
        exact al.take i
      · have := List.length_take_le' i job
        omega
      · have hD3 : H3 D = some (.lst (nvs ((kds bs memory job).take i))) := s4 _ _ (same_new hp _ _ (same_new ht _ _ h1))
        refine ⟨_, hD3, ?_, same_own (s3.trans s4) hD, ?_⟩
        · rw [nvs_len]
          have := List.length_take_le' i (kds bs memory job)
          have := kds_len bs memory job
          have := al.1
          exact lt_line (by omega)
        · rw [upd_same, kds_take hx, nvs_app]
          rfl
    · rintro H1 ⟨s1, h1⟩
      rw [al.1, ← kds_len bs memory job, List.take_length] at h1
      exact k _ D s1 hD h1
/-! ### paid -/
def spPaid (K : PySem.W.Frag) : Sp := fun vs H Q _ => ∃ (a : Addr) (n again : Nat) (bs : List Band), vs = [nv n, nv again, .ref a] ∧ BandsA K H a bs ∧ ∀ H', Same H H' → Q (nv (pd again bs n)) H'
theorem scPaid : FnScope ["kind", "again", "bands"] ["kind", "again", "bands"] (defScope sPaid) := ⟨rfl, rfl, rfl, by decide +kernel, rfl, by decide +kernel, by decide +kernel⟩
theorem nv_eq (a b : Nat) : decide (nv a = nv b) = decide (a = b) := by
  refine decide_eq_decide.mpr ⟨fun q => ?_, fun q => by rw [q]⟩
  have := V.int.inj q
  omega
theorem ok_paid {f : Addr} {fd : FuncData} (F : Fun K "paid" "paid" sPaid f fd) (T : Txt mg) (NR : Num mg "REPEATED" 0) (NH : Num mg "HUNDRED" 100) : FnOk P w K mg base CX0 1 f fd ["kind", "again", "bands"] (spPaid K) := by
  refine F.ok scPaid (fun vs H Q E h => ?_) (fun cdv A outer s H vs Q E hr h => ?_)
  · obtain ⟨a, n, again, bs, rfl, _⟩ := h
    rfl
  · obtain ⟨a, n, again, bs, rfl, ⟨va, ha, al⟩, k⟩ := h
    refine ⟨_, pss_cons (ps_if (pt_cmpR op_eq (pv 0) (C8.pe_gc (by rfl) NR) (nomark _)) (pss_one (ps_ret (pv 1))) pss_nil)
      (pss_cons (ps_if (pt_cmpR op_le (pv 0) (pe_callB call_len_seq (by rfl) T.len PySem.boot_len (pa_cons (pv 2) pa_nil)) (nomark _)) (pss_one (ps_ret (pe_ix ix_tup (pe_ix ix_list (pv 2) (pe_op op_sub (pv 0) pe_int) (fun _ _ => rfl)) pe_int (fun _ _ => rfl)))) pss_nil)
      (pss_one (ps_ret (C8.pe_gc (by rfl) NH)))), ?_⟩
    have k0 := k _ (Same.refl H)
    unfold pd at k0
    refine ⟨_, rfl, rfl, _, rfl, ?_⟩
    rw [nv_eq]
    by_cases c0 : n = 0
    · rw [if_pos c0] at k0
      exact ifT (decide_eq_true c0) ⟨_, rfl, k0⟩
    · rw [if_neg c0] at k0
      refine ifF (decide_eq_false c0) ⟨_, rfl, _, rfl, a, va, rfl, .inl (SqL.of ha), _, _, rfl, rfl, _, rfl, ?_⟩
      rw [al.1]
      by_cases c1 : n ≤ bs.length
      · rw [if_pos c1] at k0
        refine ifT (decide_eq_true (by omega)) ?_
        have e : bs[n - 1]? = some (bs.getD (n - 1) (0, 0)) := by rw [List.getD_eq_getElem?_getD, List.getElem?_eq_getElem (by omega)]; rfl
        obtain ⟨v, hv, tb, rfl, htb⟩ := al.get e
        refine ⟨_, rfl, _, rfl, _, _, rfl, rfl, a, va, _, .ref tb, rfl, rfl, SqL.of ha, at_of (j := n - 1) (by omega) hv, ?_⟩
        exact ⟨tb, _, 1, _, rfl, rfl, htb, atI_nat (j := 1) rfl, k0⟩
      · rw [if_neg c1] at k0
        exact ifF (decide_eq_false (by omega)) k0
/-! ### counted -/
def spCounted : Sp := fun vs H Q _ => ∃ (a b : Addr) (job : List Sent) (kinds : List Nat) (many : Nat), vs = [.ref a, .ref b, nv many] ∧ SentsA H a job ∧ H b = some (.lst (nvs kinds)) ∧ kinds.length = job.length ∧ (∀ k ∈ kinds, k < many) ∧ many ≤ 1000 ∧
  ∀ H' p, Same H H' → H p = none → H' p = some (.lst (nvs (ct job kinds many))) → Q (.ref p) H'
theorem scCounted : FnScope ["job", "kinds", "many", "found", "sentence", "kind"] ["job", "kinds", "many"] (defScope sCounted) := ⟨rfl, rfl, rfl, by decide +kernel, rfl, by decide +kernel, by decide +kernel⟩
theorem zip_at {α β : Type} {l : List α} {m : List β} {i : Nat} {x : α} {y : β} (h1 : l[i]? = some x) (h2 : m[i]? = some y) : (l.zip m)[i]? = some (x, y) := by
  rw [List.getElem?_zip_eq_some]
  exact ⟨h1, h2⟩
theorem ok_counted {f : Addr} {fd : FuncData} (F : Fun K "counted" "counted" sCounted f fd) (T : Txt mg) : FnOk P w K mg base CX0 1 f fd ["job", "kinds", "many"] spCounted := by
  refine F.ok scCounted (fun vs H Q E h => ?_) (fun cdv A outer s H vs Q E hr h => ?_)
  · obtain ⟨a, b, job, kinds, many, rfl, _⟩ := h
    rfl
  · obtain ⟨a, b, job, kinds, many, rfl, ⟨va, ha, al⟩, hb, hl, hk, hm, k⟩ := h
    refine ⟨_, pss_cons (ps_set (i := 3) scCounted.nd rfl (Or.inl rfl) (pe_op op_rep (pe_lst (pa_cons pe_int pa_nil)) (pv 2)))
      (pss_cons (ps_for PassesOwn.never rfl (pi_zip (by rfl) T.zip (pa_cons (pv 0) (pa_cons (pv 1) pa_nil))) (pg_tup rfl (pgs_cons (pg_name (i := 4) scCounted.nd rfl (Or.inl rfl)) (pgs_cons (pg_name (i := 5) scCounted.nd rfl (Or.inl rfl)) pgs_nil)))
        (pss_one (ps_asg (pe_op op_add (pe_ix ix_list (pv 3) (pv 5) (fun _ _ => rfl)) (pe_callB call_len_seq (by rfl) T.len PySem.boot_len (pa_cons (pv 4) pa_nil))) (pg_sub (pv 3) (pv 5) set_list))))
      (pss_one (ps_ret (pv 3)))), ?_⟩
    refine ⟨(by show 1 ≤ sizeLine; decide), fun l0 hl0 => ⟨_, rfl, l0, _, _, rfl, rfl, upd_same, by omega, by omega, ?_, fun l hl1 => ?_⟩⟩
    · have e : ((many : Nat) : Int).toNat = many := by omega
      rw [e]
      show 1 * many ≤ _
      exact le_line (by omega)
    have hlH : H l = none := (same_new hl0).free hl1
    have s0 : Same H (upd (upd H l0 (.lst [.int 0])) l (.lst (List.replicate ((many : Nat) : Int).toNat [V.int 0]).flatten)) := same_newT (same_new hl0) hl1
    refine ⟨_, rfl, _, rfl, a, b, va, nvs kinds, rfl, SqL.of (s0 _ _ ha), SqL.of (s0 _ _ hb), for_it (walk_zip (xs := va) (ys := nvs kinds) (n := job.length) (by rw [al.1, nvs_len, hl, Nat.min_self]))
      (fun i σ H' => ∃ u v : Option V, σ = [some (.ref a), some (.ref b), some (nv many), some (.ref l), u, v] ∧ Same H H' ∧ H' l = some (.lst (nvs (ctT job kinds many i)))) ⟨none, none, rfl, s0, ?_⟩ (fun i σ H' _ ⟨_, _, _, s1, _⟩ => ⟨SqL.of (s1 _ _ ha), SqL.of (s1 _ _ hb)⟩) ?_ ?_⟩
    · rw [upd_same, flat_rep]
      have e : ((many : Nat) : Int).toNat = many := by omega
      rw [e]
      show _ = some (HO.lst (nvs (List.replicate many 0)))
      rw [nvs_rep]
      rfl
    · rintro i y σ H1 H2 hi ⟨u, v, rfl, s1, h1⟩ ⟨t, p, q, rfl, ht, rfl, e1, e2⟩
      obtain ⟨x, hx, c1, rfl, hc1⟩ := al.getV e1
      obtain ⟨n, hn, rfl⟩ := nvs_get' e2
      have s2 : Same H (upd H1 t (.tup [.ref c1, nv n])) := same_newT s1 ht
      have h2 := same_new (o := .tup [.ref c1, nv n]) ht _ _ h1
      have hnm := hk n (List.mem_of_getElem? hn)
      have hcl := ctT_len job kinds many i
      refine ⟨t, _, rfl, SqT.of upd_same, rfl, _, _, rfl, _, _, rfl, rfl, ?_⟩
      refine ⟨_, rfl, _, rfl, l, _, (n : Int), nv ((ctT job kinds many i).getD n 0), rfl, rfl, SqL.of h2, nvs_at (by omega), _, rfl, c1, _, rfl, .inl (SqL.of (s2 _ _ hc1)), _, _, rfl, rfl, ?_⟩
      refine ⟨_, rfl, _, rfl, l, _, (n : Int), n, rfl, rfl, h2, ixN_nat (by rw [nvs_len]; omega), _, _, rfl, same_own s2 hlH, ?_⟩
      rw [upd_same]
      have e : ctT job kinds many (i + 1) = ctF (ctT job kinds many i) (x, n) := ft _ _ (zip_at hx hn)
      rw [e, nvs_len]
      unfold ctF
      rw [← nvs_set]
      rfl
    · rintro σ H1 ⟨u, v, rfl, s1, h1⟩
      refine ⟨_, rfl, k _ l s1 hlH ?_⟩
      rw [h1]
      have e : ctT job kinds many job.length = ct job kinds many := by
        unfold ctT ct
        have : (job.zip kinds).length = job.length := by rw [List.length_zip, hl, Nat.min_self]
        rw [← this, List.take_length]
      rw [e]
end
end Wc

set_option Elab.async false
set_option linter.all false
set_option maxRecDepth 100000
set_option maxHeartbeats 2000000
namespace Wc
open PySem PySem.Spec PyProof.Rows L2
section
variable {P : Program} {w : World} {K : PySem.W.Frag} {mg : Str → Option Value} {base : Heap}
/-! ### weight -/
def spWeight (K : PySem.W.Frag) : Sp := fun vs H Q _ => ∃ (a c : Addr) (counts : List Nat) (again : Nat) (bs : List Band), vs = [.ref a, nv again, .ref c] ∧ H a = some (.lst (nvs counts)) ∧ BandsA K H c bs ∧ (∀ n ∈ counts, n ≤ 1000000000) ∧ counts.length ≤ 1000 ∧
  ∀ H', Same H H' → Q (nv (wt counts again bs)) H'
theorem scWeight : FnScope ["counts", "again", "bands", "kind", "many"] ["counts", "again", "bands"] (defScope sWeight) := ⟨rfl, rfl, rfl, by decide +kernel, rfl, by decide +kernel, by decide +kernel⟩
theorem ok_weight {f : Addr} {fd : FuncData} (F : Fun K "weight" "weight" sWeight f fd) (T : Txt mg) (CP : Cal P w K mg base 1 "paid" (spPaid K)) : FnOk P w K mg base CX0 2 f fd ["counts", "again", "bands"] (spWeight K) := by
  refine F.ok scWeight (fun vs H Q E h => ?_) (fun cdv A outer s H vs Q E hr h => ?_)
  · obtain ⟨a, c, counts, again, bs, rfl, _⟩ := h
    rfl
  · obtain ⟨a, c, counts, again, bs, rfl, ha, hc, hb, hl, k⟩ := h
    refine ⟨_, pss_one (ps_ret (pe_callB (cr_sum rfl) (by rfl) T.sum (by decide +kernel) (pa_cons (pe_lc (own := [("kind", 3), ("many", 4)]) (g := gTup K 2 (gCons (gName 3) (gCons (gName 4) gNil))) (tt := tYes)
      (te := tOp (rI CMul fun i j => .int (i * j)) (tVar 4) (tCall (spPaid K) [] C8.E0 (tCons (tVar 3) (tCons (tVar 1) (tCons (tVar 2) tNil))))) rfl scWeight.nd (pi_enum (by rfl) T.enumerate (pa_cons (pv 0) pa_nil))
      (blkOk_by (N := ["counts", "again", "bands", "kind", "many"]) (sc := defScope sWeight) (by decide +kernel))
      (fun _ _ _ _ _ => pg_tup rfl (pgs_cons (pg_name (i := 3) scWeight.nd rfl (Or.inl rfl)) (pgs_cons (pg_name (i := 4) scWeight.nd rfl (Or.inl rfl)) pgs_nil))) (fun _ _ _ _ _ => pts_nil)
      (fun _ _ _ _ _ => pe_op op_mul (pv 4) (C8.pe_c CP hr (by decide) (by rfl) (pa_cons (pv 3) (pa_cons (pv 1) (pa_cons (pv 2) pa_nil)))))) pa_nil))), ?_⟩
    refine ⟨_, rfl, a, nvs counts, rfl, SqL.of ha, fun D hD => lc_it (walk_enum (xs := nvs counts)) (fun i H' => Same H H' ∧ H' D = some (.lst (nvs ((counts.zipIdx.map fun x => x.1 * pd again bs x.2).take i)))) ⟨same_new hD, upd_same⟩ (fun i H' _ ⟨s1, _⟩ => SqL.of (s1 _ _ ha)) ?_ ?_⟩
    · rintro i y H1 H2 hi ⟨s1, h1⟩ ⟨t, p, q, rfl, ht, rfl, e1, e2⟩
      cases e1
      obtain ⟨n, hn, rfl⟩ := nvs_get' e2
      have s2 : Same H (upd H1 t (.tup [.int (i : Nat), nv n])) := same_newT s1 ht
      have hnb := hb n (List.mem_of_getElem? hn)
      rw [nvs_len] at hi
      refine ⟨t, _, rfl, SqT.of upd_same, rfl, _, _, rfl, _, _, rfl, rfl, rfl, ?_⟩
      refine yes_then ⟨_, rfl, _, rfl, _, rfl, _, rfl, c, i, again, bs, rfl, hc.same s2, fun H3 s3 => ?_⟩
      have hD3 := s3 _ _ (same_new (o := .tup [.int (i : Nat), nv n]) ht _ _ h1)
      refine ⟨_, _, rfl, rfl, .inl ⟨by omega, by omega⟩, _, hD3, ?_, same_own (s2.trans s3) hD, ?_⟩
      · rw [nvs_len]
        have := List.length_take_le i (counts.zipIdx.map fun x => x.1 * pd again bs x.2)
        exact lt_line (by omega)
      · rw [upd_same]
        have e : (counts.zipIdx.map fun x => x.1 * pd again bs x.2)[i]? = some (n * pd again bs i) := by
          rw [List.getElem?_map, zipIdx_at hn]; rfl
        rw [take_more e, nvs_app]
        refine congrArg (fun z => some (HO.lst (nvs (List.take i (counts.zipIdx.map fun x => x.1 * pd again bs x.2)) ++ [V.int z]))) ?_
        show (n : Int) * ((pd again bs i : Nat) : Int) = ((n * pd again bs i : Nat) : Int)
        rw [Int.natCast_mul]
    · rintro H1 ⟨s1, h1⟩
      have e : (nvs counts).length = (counts.zipIdx.map fun x => x.1 * pd again bs x.2).length := by rw [nvs_len]; simp
      rw [e, List.take_length, nvs_ints] at h1
      refine ⟨D, _, rfl, SqL.of h1, ?_⟩
      rw [sum_int]
      exact k _ s1
/-! ### counts_of -/
def spCountsOf (K : PySem.W.Frag) : Sp := fun vs H Q _ => ∃ (a b c : Addr) (job memory : List Sent) (bs : List Band), vs = [.ref a, .ref b, .ref c] ∧ SentsA H a job ∧ SentsA H b memory ∧ BandsA K H c bs ∧ JobOk memory job ∧ bs.length ≤ 100 ∧
  ∀ H' p, Same H H' → H p = none → H' p = some (.lst (nvs (cts job memory bs))) → Q (.ref p) H'
theorem scCountsOf : FnScope ["job", "memory", "bands"] ["job", "memory", "bands"] (defScope sCountsOf) := ⟨rfl, rfl, rfl, by decide +kernel, rfl, by decide +kernel, by decide +kernel⟩
theorem ok_countsOf {f : Addr} {fd : FuncData} (F : Fun K "counts_of" "counts_of" sCountsOf f fd) (T : Txt mg) (CC : Cal P w K mg base 1 "counted" spCounted) (CK : Cal P w K mg base 6 "kinds_of" (spKindsOf K)) :
    FnOk P w K mg base CX0 7 f fd ["job", "memory", "bands"] (spCountsOf K) := by
  refine F.ok scCountsOf (fun vs H Q E h => ?_) (fun cdv A outer s H vs Q E hr h => ?_)
  · obtain ⟨a, b, c, job, memory, bs, rfl, _⟩ := h
    rfl
  · obtain ⟨a, b, c, job, memory, bs, rfl, ha, hb, hc, hj, hl, k⟩ := h
    refine ⟨_, pss_one (ps_ret (C8.pe_c CC hr (by decide) (by rfl) (pa_cons (pv 0) (pa_cons (C8.pe_c CK hr (by decide) (by rfl) (pa_cons (pv 0) (pa_cons (pv 1) (pa_cons (pv 2) pa_nil))))
      (pa_cons (pe_op op_add (pe_callB call_len_seq (by rfl) T.len PySem.boot_len (pa_cons (pv 2) pa_nil)) pe_int) pa_nil))))), ?_⟩
    refine ⟨_, rfl, _, rfl, _, rfl, _, rfl, a, b, c, job, memory, bs, rfl, ha, hb, hc, hj, fun H1 p s1 hp h1 => ?_⟩
    obtain ⟨vc, hc1, hc2⟩ := hc
    refine ⟨_, rfl, c, vc, rfl, .inl (SqL.of (s1 _ _ hc1)), _, _, rfl, rfl, a, p, job, kds bs memory job, bs.length + 2, ?_, ha.same s1, h1, kds_len _ _ _, kds_lt _ _ _, by omega, fun H2 q s2 hq h2 => k _ q (s1.trans s2) (s1.free hq) h2⟩
    rw [hc2.1]
    rfl
/-! ### all_deals -/
/-- all but what stands at l -/
def rem (H : Hp) (l : Addr) : Hp := fun b => if b = l then none else H b
theorem rem_le (H : Hp) (l : Addr) : Same (rem H l) H := fun b o e => by
  unfold rem at e
  split at e
  · cases e
  · exact e
theorem rem_same {H H' : Hp} {l : Addr} (s : Same H H') : Same (rem H l) (rem H' l) := fun b o e => by
  unfold rem at e ⊢
  split at e
  · cases e
  · rename_i hb
    rw [if_neg hb]
    exact s b o e
theorem rem_upd {H : Hp} {l : Addr} {o : HO} : rem (upd H l o) l = rem H l := by
  funext b
  unfold rem upd
  split
  · rfl
  · rfl
theorem rem_at {H : Hp} {l b : Addr} {o : HO} (h : b ≠ l) (e : H b = some o) : rem H l b = some o := by
  unfold rem
  rw [if_neg h]
  exact e
def ext (h : Nat) (d : List Nat) : List (List Nat) := (List.range h).map fun x => d ++ [x]
def pT (h : Nat) (L : List (List Nat)) (i : Nat) : List (List Nat) := (L.take i).flatMap (ext h)
theorem pT_succ (h : Nat) {L : List (List Nat)} {i : Nat} {d : List Nat} (e : L[i]? = some d) : pT h L (i + 1) = pT h L i ++ ext h d := by
  unfold pT
  rw [take_more e, List.flatMap_append]
  simp [List.flatMap_cons]
theorem ext_take (h : Nat) (d : List Nat) {j : Nat} (hj : j < h) : (ext h d).take (j + 1) = (ext h d).take j ++ [d ++ [j]] := by
  refine take_more ?_
  unfold ext
  rw [List.getElem?_map, List.getElem?_range hj]; rfl
theorem ext_len (h : Nat) (d : List Nat) : (ext h d).length = h := by unfold ext; simp
theorem pT_len (h : Nat) (L : List (List Nat)) : ∀ i, i ≤ L.length → (pT h L i).length = i * h
  | 0, _ => by unfold pT; simp
  | i + 1, hi => by
    rw [pT_succ h (List.getElem?_eq_getElem (show i < L.length from hi)), List.length_append, pT_len h L i (by omega), ext_len, Nat.succ_mul]
theorem pT_all (h n : Nat) : pT h (aD h n) (aD h n).length = aD h (n + 1) := by
  unfold pT
  rw [List.take_length]; rfl
theorem pow_small {h t : Nat} (hh : h ≤ 4) (ht : t ≤ 6) : h ^ t ≤ 4096 :=
  Nat.le_trans (Nat.pow_le_pow_left hh t) (Nat.le_trans (Nat.pow_le_pow_right (by decide) ht) (by decide))
def spAllDeals : Sp := fun vs H Q _ => ∃ (n h : Nat), vs = [nv n, nv h] ∧ n ≤ 6 ∧ h ≤ 4 ∧ ∀ H' p, Same H H' → H p = none → SentsA H' p (aD h n) → Q (.ref p) H'
theorem scAllDeals : FnScope ["files", "hands", "found", "turn", "longer", "deal", "hand"] ["files", "hands"] (defScope sAllDeals) := ⟨rfl, rfl, rfl, by decide +kernel, rfl, by decide +kernel, by decide +kernel⟩
theorem ok_allDeals {f : Addr} {fd : FuncData} (F : Fun K "all_deals" "all_deals" sAllDeals f fd) (T : Txt mg) : FnOk P w K mg base CX0 1 f fd ["files", "hands"] spAllDeals := by
  refine F.ok scAllDeals (fun vs H Q E h => ?_) (fun cdv A outer s H vs Q E hr h => ?_)
  · obtain ⟨n, h, rfl, _⟩ := h
    rfl
  · obtain ⟨n, h, rfl, hn, hh, k⟩ := h
    refine ⟨_, pss_cons (ps_set (i := 2) scAllDeals.nd rfl (Or.inl rfl) (pe_lst (pa_cons (pe_lst pa_nil) pa_nil)))
      (pss_cons (ps_for PassesOwn.never rfl (pi_range1 rfl T.range (pa_cons (pv 0) pa_nil)) (pg_name (i := 3) scAllDeals.nd rfl (Or.inl rfl))
        (pss_cons (ps_set (i := 4) scAllDeals.nd rfl (Or.inl rfl) (pe_lst pa_nil))
        (pss_cons (ps_for PassesOwn.never rfl (pi_list (pv 2)) (pg_name (i := 5) scAllDeals.nd rfl (Or.inl rfl))
          (pss_one (ps_for PassesOwn.never rfl (pi_range1 rfl T.range (pa_cons (pv 1) pa_nil)) (pg_name (i := 6) scAllDeals.nd rfl (Or.inl rfl))
            (pss_one (ps_expr (pe_bm PySem.F.plainAttrs_list PySem.F.slot_list_append PySem.F.type_list_append mt_append (pv 4) (pa_cons (pe_op op_cat (pv 5) (pe_lst (pa_cons (pv 6) pa_nil))) pa_nil)))))))
        (pss_one (ps_set (i := 2) scAllDeals.nd rfl (Or.inl rfl) (pv 4))))))
      (pss_one (ps_ret (pv 2)))), ?_⟩
    refine ⟨Nat.zero_le _, fun l0 hl0 => ⟨(by show 1 ≤ sizeLine; decide), fun l1 hl1 => ?_⟩⟩
    have s1 := same_newT (o := .lst [.ref l0]) (same_new (o := .lst []) hl0) hl1
    refine ⟨_, rfl, (n : Int), rfl, by omega, by omega, ?_⟩
    have en : ((n : Nat) : Int).toNat = n := by omega
    rw [en]
    refine for_range (lo := 0) (n := n) (fun i σ H' => ∃ (r : Addr) (u v x y : Option V), σ = [some (nv n), some (nv h), some (.ref r), u, v, x, y] ∧ Same H H' ∧ H r = none ∧ SentsA H' r (aD h i))
      ⟨l1, none, none, none, none, rfl, s1, (same_new hl0).free hl1, _, upd_same, AllV.cons ⟨l0, rfl, same_new hl1 _ _ upd_same⟩ AllV.nil⟩ ?_ ?_
    · rintro i σ H1 hi ⟨r, u, v, x, y, rfl, s2, hr0, vr, hr1, hr2⟩
      refine ⟨Nat.zero_le _, fun l hl => ?_⟩
      have s3 := same_newT (o := .lst []) s2 hl
      have hlH := s2.free hl
      have nrl : r ≠ l := ne_of_none hr1 hl
      have hrl : Same (rem (upd H1 l (.lst [])) l) (upd H1 l (.lst [])) := rem_le _ _
      have hLl := aD_len h i
      have hLb := pow_small (t := i) hh (by omega)
      refine ⟨_, rfl, r, rfl, ⟨_, SqL.of (same_new hl _ _ hr1)⟩, for_list (K := K) (a := r) (xs := vr)
        (fun j σ H' => ∃ (u v x y : Option V) (vl : List V), σ = [some (nv n), some (nv h), some (.ref r), u, some (.ref l), x, y] ∧ Same H1 H' ∧ H' l = some (.lst vl) ∧ AllV (SentV (rem H' l)) vl (pT h (aD h i) j))
        ⟨_, none, x, y, [], rfl, same_new hl, upd_same, by unfold pT; exact AllV.nil⟩ (fun j σ H' _ ⟨_, _, _, _, _, _, s4, _⟩ => SqL.of (s4 _ _ hr1)) ?_ ?_⟩
      · rintro j z σ H2 hz ⟨u2, v2, x2, y2, vl, rfl, s4, h4, al4⟩
        obtain ⟨d, hd, da, rfl, hda⟩ := hr2.getV hz
        have hj : j < (aD h i).length := (List.getElem?_eq_some_iff.mp hd).1
        refine ⟨_, rfl, (h : Int), rfl, by omega, by omega, ?_⟩
        have eh : ((h : Nat) : Int).toNat = h := by omega
        rw [eh]
        have nda : da ≠ l := ne_of_none hda hl
        refine for_range (lo := 0) (n := h) (fun m σ H' => ∃ (y : Option V) (vl : List V), σ = [some (nv n), some (nv h), some (.ref r), u2, some (.ref l), some (.ref da), y] ∧ Same H1 H' ∧ H' l = some (.lst vl) ∧ AllV (SentV (rem H' l)) vl (pT h (aD h i) j ++ (ext h d).take m))
          ⟨y2, vl, rfl, s4, h4, by rw [List.take_zero, List.append_nil]; exact al4⟩ ?_ ?_
        · rintro m σ H3 hm ⟨y3, vl3, rfl, s5, h5, al5⟩
          refine ⟨_, rfl, .inl ⟨rfl, _, SqL.of h5⟩, _, rfl, _, rfl, (by show 1 ≤ sizeLine; decide), fun p hp => ?_⟩
          have hd5 := s5 _ _ hda
          have s6 := same_new (o := .lst [V.int (0 + (m : Int))]) hp
          refine ⟨da, p, _, _, rfl, rfl, s6 _ _ hd5, upd_same, ?_, fun q hq => ?_⟩
          · rw [nvs_len]
            have := aD_mem h i d (List.mem_of_getElem? hd)
            show d.length + 1 ≤ _
            exact le_line (by omega)
          have s7 := same_newT (o := .lst (nvs d ++ [V.int (0 + (m : Int))])) s6 hq
          have nql : q ≠ l := fun e => by
            rw [e, s6 _ _ h5] at hq
            cases hq
          have hpl := pT_len h (aD h i) j (by omega)
          refine ⟨l, vl3, _, rfl, rfl, s7 _ _ h5, ?_, ?_⟩
          · rw [al5.1, List.length_append, hpl, List.length_take, ext_len]
            have : j * h ≤ 4096 * 4 := Nat.mul_le_mul (by omega) hh
            exact lt_line (by omega)
          refine ⟨_, _, rfl, ?_, upd_same, ?_⟩
          · exact same_own (s5.trans s7) hl
          · rw [ext_take h d hm, ← List.append_assoc, rem_upd]
            refine AllV.snoc (al5.imp fun _ _ z => z.same (rem_same s7)) ⟨q, rfl, rem_at nql ?_⟩
            rw [upd_same, nvs_app, Int.zero_add]
            rfl
        · rintro σ H3 ⟨y3, vl3, rfl, s5, h5, al5⟩
          have e : pT h (aD h i) (j + 1) = pT h (aD h i) j ++ (ext h d).take h := by
            have := ext_len h d
            rw [pT_succ h hd, List.take_of_length_le (by omega)]
          exact ⟨_, none, _, _, vl3, rfl, s5, h5, by rw [e]; exact al5⟩
      · rintro σ H2 ⟨u2, v2, x2, y2, vl, rfl, s4, h4, al4⟩
        rw [hr2.1, pT_all] at al4
        exact ⟨_, rfl, l, _, _, _, _, rfl, s2.trans s4, hlH, vl, h4, al4.imp fun _ _ z => z.same (rem_le _ _)⟩
    · rintro σ H1 ⟨r, u, v, x, y, rfl, s2, hr0, hr1⟩
      exact ⟨_, rfl, k _ r s2 hr0 hr1⟩
end
end Wc

set_option Elab.async false
set_option linter.all false
set_option maxRecDepth 100000
set_option maxHeartbeats 2000000
namespace Wc
open PySem PySem.Spec PyProof.Rows L2
theorem max_nvs {K : PySem.W.Frag} {H : Hp} {Q : VK} {a : Addr} {l : List Nat} (h : H a = some (.lst (nvs l))) (h0 : 0 < l.length) (q : Q (nv (Ut10.most l)) H) : rMax K [.ref a] H Q := by
  refine ⟨a, l.map fun (n : Nat) => (n : Int), rfl, by rw [← nvs_ints]; exact SqL.of h, by rw [List.length_map]; exact h0, fun m hm hle => ?_⟩
  obtain ⟨n, hn, rfl⟩ := List.mem_map.mp hm
  have e : Ut10.most l = n := most_is hn fun y hy => by
    have := hle (y : Int) (List.mem_map.mpr ⟨y, hy, rfl⟩)
    omega
  rw [e] at q
  exact q
theorem min_nvs {K : PySem.W.Frag} {H : Hp} {Q : VK} {a : Addr} {l : List Nat} (h : H a = some (.lst (nvs l))) (h0 : 0 < l.length) (q : Q (nv (Ut10.fewest l)) H) : rMin K [.ref a] H Q := by
  refine ⟨a, l.map fun (n : Nat) => (n : Int), rfl, by rw [← nvs_ints]; exact SqL.of h, by rw [List.length_map]; exact h0, fun m hm hle => ?_⟩
  obtain ⟨n, hn, rfl⟩ := List.mem_map.mp hm
  have e : Ut10.fewest l = n := fewest_is hn fun y hy => by
    have := hle (y : Int) (List.mem_map.mpr ⟨y, hy, rfl⟩)
    omega
  rw [e] at q
  exact q
section
variable {P : Program} {w : World} {K : PySem.W.Frag} {mg : Str → Option Value} {base : Heap}
/-! ### loads -/
def spLoads : Sp := fun vs H Q _ => ∃ (a b : Addr) (deal weights : List Nat) (hands : Nat), vs = [.ref a, .ref b, nv hands] ∧ H a = some (.lst (nvs deal)) ∧ H b = some (.lst (nvs weights)) ∧ deal.length = weights.length ∧ (∀ k ∈ deal, k < hands) ∧ hands ≤ 1000 ∧
  ∀ H' p, Same H H' → H p = none → H' p = some (.lst (nvs (ld deal weights hands))) → Q (.ref p) H'
theorem scLoads : FnScope ["deal", "weights", "hands", "found", "hand", "heavy"] ["deal", "weights", "hands"] (defScope sLoads) := ⟨rfl, rfl, rfl, by decide +kernel, rfl, by decide +kernel, by decide +kernel⟩
theorem ok_loads {f : Addr} {fd : FuncData} (F : Fun K "loads" "loads" sLoads f fd) (T : Txt mg) : FnOk P w K mg base CX0 1 f fd ["deal", "weights", "hands"] spLoads := by
  refine F.ok scLoads (fun vs H Q E h => ?_) (fun cdv A outer s H vs Q E hr h => ?_)
  · obtain ⟨a, b, deal, weights, hands, rfl, _⟩ := h
    rfl
  · obtain ⟨a, b, deal, weights, hands, rfl, ha, hb, hl, hk, hm, k⟩ := h
    refine ⟨_, pss_cons (ps_set (i := 3) scLoads.nd rfl (Or.inl rfl) (pe_op op_rep (pe_lst (pa_cons pe_int pa_nil)) (pv 2)))
      (pss_cons (ps_for PassesOwn.never rfl (pi_zip (by rfl) T.zip (pa_cons (pv 0) (pa_cons (pv 1) pa_nil))) (pg_tup rfl (pgs_cons (pg_name (i := 4) scLoads.nd rfl (Or.inl rfl)) (pgs_cons (pg_name (i := 5) scLoads.nd rfl (Or.inl rfl)) pgs_nil)))
        (pss_one (ps_asg (pe_op op_add (pe_ix ix_list (pv 3) (pv 4) (fun _ _ => rfl)) (pv 5)) (pg_sub (pv 3) (pv 4) set_list))))
      (pss_one (ps_ret (pv 3)))), ?_⟩
    refine ⟨(by show 1 ≤ sizeLine; decide), fun l0 hl0 => ⟨_, rfl, l0, _, _, rfl, rfl, upd_same, by omega, by omega, ?_, fun l hl1 => ?_⟩⟩
    · have e : ((hands : Nat) : Int).toNat = hands := by omega
      rw [e]
      show 1 * hands ≤ _
      exact le_line (by omega)
    have hlH : H l = none := (same_new hl0).free hl1
    have s0 : Same H (upd (upd H l0 (.lst [.int 0])) l (.lst (List.replicate ((hands : Nat) : Int).toNat [V.int 0]).flatten)) := same_newT (same_new hl0) hl1
    refine ⟨_, rfl, _, rfl, a, b, nvs deal, nvs weights, rfl, SqL.of (s0 _ _ ha), SqL.of (s0 _ _ hb), for_it (walk_zip (xs := nvs deal) (ys := nvs weights) (n := deal.length) (by rw [nvs_len, nvs_len, hl, Nat.min_self]))
      (fun i σ H' => ∃ u v : Option V, σ = [some (.ref a), some (.ref b), some (nv hands), some (.ref l), u, v] ∧ Same H H' ∧ H' l = some (.lst (nvs (ldT deal weights hands i)))) ⟨none, none, rfl, s0, ?_⟩ (fun i σ H' _ ⟨_, _, _, s1, _⟩ => ⟨SqL.of (s1 _ _ ha), SqL.of (s1 _ _ hb)⟩) ?_ ?_⟩
    · rw [upd_same, flat_rep]
      have e : ((hands : Nat) : Int).toNat = hands := by omega
      rw [e]
      show _ = some (HO.lst (nvs (List.replicate hands 0)))
      rw [nvs_rep]
      rfl
    · rintro i y σ H1 H2 hi ⟨u, v, rfl, s1, h1⟩ ⟨t, p, q, rfl, ht, rfl, e1, e2⟩
      obtain ⟨n, hn, rfl⟩ := nvs_get' e1
      obtain ⟨m, hm2, rfl⟩ := nvs_get' e2
      have s2 : Same H (upd H1 t (.tup [nv n, nv m])) := same_newT s1 ht
      have h2 := same_new (o := .tup [nv n, nv m]) ht _ _ h1
      have hnm := hk n (List.mem_of_getElem? hn)
      have hcl := ldT_len deal weights hands i
      refine ⟨t, _, rfl, SqT.of upd_same, rfl, _, _, rfl, _, _, rfl, rfl, ?_⟩
      refine ⟨_, rfl, _, rfl, l, _, (n : Int), nv ((ldT deal weights hands i).getD n 0), rfl, rfl, SqL.of h2, nvs_at (by omega), _, rfl, _, _, rfl, rfl, ?_⟩
      refine ⟨_, rfl, _, rfl, l, _, (n : Int), n, rfl, rfl, h2, ixN_nat (by rw [nvs_len]; omega), _, _, rfl, same_own s2 hlH, ?_⟩
      rw [upd_same]
      have e : ldT deal weights hands (i + 1) = ldF (ldT deal weights hands i) (n, m) := ft _ _ (zip_at hn hm2)
      rw [e]
      unfold ldF
      rw [← nvs_set]
      rfl
    · rintro σ H1 ⟨u, v, rfl, s1, h1⟩
      refine ⟨_, rfl, k _ l s1 hlH ?_⟩
      rw [h1]
      have e : ldT deal weights hands deal.length = ld deal weights hands := by
        unfold ldT ld
        have : (deal.zip weights).length = deal.length := by rw [List.length_zip, hl, Nat.min_self]
        rw [← this, List.take_length]
      rw [e]
/-! ### is_better -/
def spIsBetter : Sp := fun vs H Q _ => ∃ (a b : Addr) (x y : List Nat), vs = [.ref a, .ref b] ∧ H a = some (.lst (nvs x)) ∧ H b = some (.lst (nvs y)) ∧ 0 < x.length ∧ 0 < y.length ∧ ∀ H', Same H H' → Q (.bl (bt x y)) H'
theorem scIsBetter : FnScope ["one", "other"] ["one", "other"] (defScope sIsBetter) := ⟨rfl, rfl, rfl, by decide +kernel, rfl, by decide +kernel, by decide +kernel⟩
theorem ok_isBetter {f : Addr} {fd : FuncData} (F : Fun K "is_better" "is_better" sIsBetter f fd) (T : Txt mg) : FnOk P w K mg base CX0 1 f fd ["one", "other"] spIsBetter := by
  refine F.ok scIsBetter (fun vs H Q E h => ?_) (fun cdv A outer s H vs Q E hr h => ?_)
  · obtain ⟨a, b, x, y, rfl, _⟩ := h
    rfl
  · obtain ⟨a, b, x, y, rfl, ha, hb, hx, hy, k⟩ := h
    refine ⟨_, pss_cons (ps_if (pt_cmpR op_ne (pe_callB (cr_max rfl) (by rfl) T.max (by decide +kernel) (pa_cons (pv 0) pa_nil)) (pe_callB (cr_max rfl) (by rfl) T.max (by decide +kernel) (pa_cons (pv 1) pa_nil)) (nomark _))
        (pss_one (ps_ret (pe_cmpR op_lt (pe_callB (cr_max rfl) (by rfl) T.max (by decide +kernel) (pa_cons (pv 0) pa_nil)) (pe_callB (cr_max rfl) (by rfl) T.max (by decide +kernel) (pa_cons (pv 1) pa_nil)) (nomark _)))) pss_nil)
      (pss_one (ps_ret (pe_cmpR op_gt (pe_callB (cr_min rfl) (by rfl) T.min (by decide +kernel) (pa_cons (pv 0) pa_nil)) (pe_callB (cr_min rfl) (by rfl) T.min (by decide +kernel) (pa_cons (pv 1) pa_nil)) (nomark _)))), ?_⟩
    have k0 := k _ (Same.refl H)
    unfold bt at k0
    refine ⟨_, rfl, ?_⟩
    dsimp only [tNil]
    refine max_nvs ha hx ⟨_, rfl, ?_⟩
    dsimp only [tNil]
    refine max_nvs hb hy ⟨rfl, _, rfl, ?_⟩
    rw [nv_eq]
    by_cases c : Ut10.most x = Ut10.most y
    · rw [if_neg (fun z => z c)] at k0
      rw [decide_eq_true c]
      refine iteF ⟨_, rfl, ?_⟩
      dsimp only [tNil]
      refine min_nvs ha hx ⟨_, rfl, ?_⟩
      dsimp only [tNil]
      refine min_nvs hb hy ⟨_, _, rfl, rfl, ?_⟩
      have e : decide (((Ut10.fewest y : Nat) : Int) < ((Ut10.fewest x : Nat) : Int)) = decide (Ut10.fewest y < Ut10.fewest x) := decide_eq_decide.mpr (by omega)
      show Q (.bl (decide (((Ut10.fewest y : Nat) : Int) < ((Ut10.fewest x : Nat) : Int)))) H
      rw [e]
      exact k0
    · rw [if_pos c] at k0
      rw [decide_eq_false c]
      refine iteT ⟨_, rfl, ?_⟩
      dsimp only [tNil]
      refine max_nvs ha hx ⟨_, rfl, ?_⟩
      dsimp only [tNil]
      refine max_nvs hb hy ⟨_, _, rfl, rfl, ?_⟩
      have e : decide (((Ut10.most x : Nat) : Int) < ((Ut10.most y : Nat) : Int)) = decide (Ut10.most x < Ut10.most y) := decide_eq_decide.mpr (by omega)
      show Q (.bl (decide (((Ut10.most x : Nat) : Int) < ((Ut10.most y : Nat) : Int)))) H
      rw [e]
      exact k0
/-! ### best_deal -/
def spBestDeal : Sp := fun vs H Q _ => ∃ (a : Addr) (ws : List Nat) (hands : Nat), vs = [.ref a, nv hands] ∧ H a = some (.lst (nvs ws)) ∧ ws.length ≤ 6 ∧ 0 < hands ∧ hands ≤ 4 ∧ ∀ H' p, Same H H' → H' p = some (.lst (nvs (bd ws hands))) → Q (.ref p) H'
theorem scBestDeal : FnScope ["weights", "hands", "best", "deal"] ["weights", "hands"] (defScope sBestDeal) := ⟨rfl, rfl, rfl, by decide +kernel, rfl, by decide +kernel, by decide +kernel⟩
theorem ok_bestDeal {f : Addr} {fd : FuncData} (F : Fun K "best_deal" "best_deal" sBestDeal f fd) (T : Txt mg) (CA : Cal P w K mg base 1 "all_deals" spAllDeals) (CL : Cal P w K mg base 1 "loads" spLoads) (CI : Cal P w K mg base 1 "is_better" spIsBetter) :
    FnOk P w K mg base CX0 2 f fd ["weights", "hands"] spBestDeal := by
  refine F.ok scBestDeal (fun vs H Q E h => ?_) (fun cdv A outer s H vs Q E hr h => ?_)
  · obtain ⟨a, ws, hands, rfl, _⟩ := h
    rfl
  · obtain ⟨a, ws, hands, rfl, ha, hw, h0, h4, k⟩ := h
    refine ⟨_, pss_cons (ps_set (i := 2) scBestDeal.nd rfl (Or.inl rfl) (pe_op op_rep (pe_lst (pa_cons pe_int pa_nil)) (pe_callB call_len_seq (by rfl) T.len PySem.boot_len (pa_cons (pv 0) pa_nil))))
      (pss_cons (ps_for PassesOwn.never rfl (pi_list (C8.pe_c CA hr (by decide) (by rfl) (pa_cons (pe_callB call_len_seq (by rfl) T.len PySem.boot_len (pa_cons (pv 0) pa_nil)) (pa_cons (pv 1) pa_nil)))) (pg_name (i := 3) scBestDeal.nd rfl (Or.inl rfl))
        (pss_one (ps_if (pt_val (C8.pe_c CI hr (by decide) (by rfl) (pa_cons (C8.pe_c CL hr (by decide) (by rfl) (pa_cons (pv 3) (pa_cons (pv 0) (pa_cons (pv 1) pa_nil)))) (pa_cons (C8.pe_c CL hr (by decide) (by rfl) (pa_cons (pv 2) (pa_cons (pv 0) (pa_cons (pv 1) pa_nil)))) pa_nil))))
          (pss_one (ps_set (i := 2) scBestDeal.nd rfl (Or.inl rfl) (pv 3))) pss_nil)))
      (pss_one (ps_ret (pv 2)))), ?_⟩
    refine ⟨(by show 1 ≤ sizeLine; decide), fun l0 hl0 => ?_⟩
    have s0 := same_new (o := .lst [.int 0]) hl0
    refine ⟨_, rfl, a, _, rfl, .inl (SqL.of (s0 _ _ ha)), l0, _, _, rfl, rfl, upd_same, by omega, by rw [nvs_len]; omega, ?_, fun l hl1 => ?_⟩
    · rw [nvs_len]
      have e : ((ws.length : Nat) : Int).toNat = ws.length := by omega
      rw [e]
      show 1 * ws.length ≤ _
      exact le_line (by omega)
    have s1 := same_newT (o := .lst (List.replicate (((nvs ws).length : Nat) : Int).toNat [V.int 0]).flatten) s0 hl1
    have hl2 : (upd (upd H l0 (.lst [.int 0])) l (.lst (List.replicate (((nvs ws).length : Nat) : Int).toNat [V.int 0]).flatten)) l = some (.lst (nvs (List.replicate ws.length 0))) := by
      rw [upd_same, flat_rep, nvs_len]
      have e : ((ws.length : Nat) : Int).toNat = ws.length := by omega
      rw [e, nvs_rep]
      rfl
    refine ⟨_, rfl, a, _, rfl, .inl (SqL.of (s1 _ _ ha)), _, rfl, ws.length, hands, ?_, hw, h4, fun H1 p s2 hp hd => ?_⟩
    · rw [nvs_len]
      rfl
    obtain ⟨vd, hd1, hd2⟩ := hd
    have s3 := s1.trans s2
    refine ⟨p, rfl, ⟨_, SqL.of hd1⟩, for_list (K := K) (a := p) (xs := vd) (fun i σ H' => ∃ (r : Addr) (u : Option V), σ = [some (.ref a), some (nv hands), some (.ref r), u] ∧ Same H1 H' ∧ H' r = some (.lst (nvs (bdT ws hands i))))
      ⟨l, none, rfl, Same.refl _, s2 _ _ hl2⟩ (fun i σ H' _ ⟨_, _, _, s4, _⟩ => SqL.of (s4 _ _ hd1)) ?_ ?_⟩
    · rintro i x σ H2 hx ⟨r, u, rfl, s4, hr2⟩
      obtain ⟨d, hd, da, rfl, hda⟩ := hd2.getV hx
      have hdm := aD_mem hands ws.length d (List.mem_of_getElem? hd)
      have hi := (List.getElem?_eq_some_iff.mp hd).1
      have hbt := bdT_ok (w := ws) h0 i (by omega)
      have s5 := s3.trans s4
      refine ⟨_, rfl, _, rfl, _, rfl, da, a, d, ws, hands, rfl, s4 _ _ hda, s5 _ _ ha, hdm.1, hdm.2, by omega, fun H3 q s6 hq h6 => ?_⟩
      refine ⟨_, rfl, _, rfl, _, rfl, r, a, bdT ws hands i, ws, hands, rfl, s6 _ _ hr2, (s5.trans s6) _ _ ha, hbt.1, hbt.2, by omega, fun H4 q2 s7 hq2 h7 => ?_⟩
      refine ⟨q, q2, _, _, rfl, s7 _ _ h6, h7, by rw [ld_len]; exact h0, by rw [ld_len]; exact h0, fun H5 s8 => ⟨_, rfl, ?_⟩⟩
      have s9 : Same H2 H5 := (s6.trans s7).trans s8
      have e : bdT ws hands (i + 1) = bdF ws hands (bdT ws hands i) d := ft _ _ hd
      unfold bdF at e
      cases c : bt (ld d ws hands) (ld (bdT ws hands i) ws hands) with
      | true =>
        rw [c, if_pos rfl] at e
        exact iteT ⟨_, rfl, da, some (.ref da), rfl, s4.trans s9, by rw [e]; exact s9 _ _ (s4 _ _ hda)⟩
      | false =>
        rw [c, if_neg Bool.false_ne_true] at e
        exact iteF ⟨r, some (.ref da), rfl, s4.trans s9, by rw [e]; exact s9 _ _ hr2⟩
    · rintro σ H2 ⟨r, u, rfl, s4, hr2⟩
      refine ⟨_, rfl, k _ r (s3.trans s4) ?_⟩
      rw [hr2, hd2.1]
      unfold bdT bd
      rw [List.take_length]
end
end Wc

set_option Elab.async false
set_option linter.all false
set_option maxRecDepth 100000
set_option maxHeartbeats 2000000
namespace Wc
open PySem PySem.Spec PyProof.Rows L2
/-! ### max of a tuple of numbers: a rule that the layer lacks -/
theorem alike_two (i j : Int) : PySem.W.AlikeAll [.int i, .int j] := by
  refine ⟨fun x hx y hy => ?_, fun x hx => ?_⟩
  · have h1 : x = .int i ∨ x = .int j := by simpa using hx
    have h2 : y = .int i ∨ y = .int j := by simpa using hy
    rcases h1 with rfl | rfl <;> rcases h2 with rfl | rfl <;> rfl
  · have h1 : x = .int i ∨ x = .int j := by simpa using hx
    rcases h1 with rfl | rfl <;> exact fun z => nomatch z
theorem maxD_two (i j : Nat) : PySem.W.maxD (.int (i : Int)) [.int (j : Int)] = .int ((max i j : Nat) : Int) := by
  have e := PySem.W.maxD_ints (i : Int) [(j : Int)]
  rw [List.map_cons, List.map_nil, List.foldl_cons, List.foldl_nil] at e
  rw [e]
  congr 1
  omega
def rMaxT (K : PySem.W.Frag) : List V → Hp → VK → Prop := fun vs H Q => ∃ (a : Addr) (i j : Nat), vs = [V.ref a] ∧ SqT K H a [nv i, nv j] ∧ Q (nv (max i j)) H
theorem cr_maxT {X : Cx} (hc : X.calm = true) (hu : X.A.units + 65 < cLine) : CallR X (.builtin "max") (rMaxT X.K) := by
  intro pins s σ H vs us Q I r h
  obtain ⟨a, i, j, rfl, hs, q⟩ := h
  obtain ⟨its, rv, hl, _⟩ := I.tuple hs
  obtain ⟨as, hr⟩ := Dp.readsAll I [.int (i : Int), .int (j : Int)] _ its (.cons (.int _) (.cons (.int _) .nil)) rv
  rw [Vals.ref1 r]
  have hd : PyData.depthAll [.int (i : Int), .int (j : Int)] = 0 := by simp [PyData.depthAll, PyData.depth]
  refine PySem.W.max_tuple_data (I.ok.hd hc) hl hr (alike_two _ _) (by rw [hd]; omega) fun k v h' tk bs _ rd hk => ?_
  rw [maxD_two] at rd
  cases rd
  exact ⟨nv (max i j), H, I.kept hk, ⟨_, rfl⟩, q⟩
section
variable {P : Program} {w : World} {K : PySem.W.Frag} {mg : Str → Option Value} {base : Heap}
/-! ### is_sentence -/
def spIsSentence : Sp := fun vs H Q _ => ∃ (a : Addr) (s : Sent), vs = [.ref a] ∧ H a = some (.lst (nvs s)) ∧ ∀ H', Same H H' → Q (.bl (Ut10.sentOk s)) H'
theorem scIsSentence : FnScope ["words"] ["words"] (defScope sIsSentence) := ⟨rfl, rfl, rfl, by decide +kernel, rfl, by decide +kernel, by decide +kernel⟩
theorem most_le (s : List Nat) (n : Nat) : Ut10.most s ≤ n ↔ ∀ x ∈ s, x ≤ n := by
  unfold Ut10.most
  constructor
  · intro h x hx
    have := (foldl_max_le s 0).2 x hx
    omega
  · intro h
    rcases foldl_max_mem s 0 with e | e
    · omega
    · exact h _ e
theorem ok_isSentence {f : Addr} {fd : FuncData} (F : Fun K "is_sentence" "is_sentence" sIsSentence f fd) (T : Txt mg) (N1 : Num mg "MOST_WORDS" 10) (N2 : Num mg "MOST_WORD" 999) : FnOk P w K mg base CX0 1 f fd ["words"] spIsSentence := by
  refine F.ok scIsSentence (fun vs H Q E h => ?_) (fun cdv A outer s H vs Q E hr h => ?_)
  · obtain ⟨a, x, rfl, _⟩ := h
    rfl
  · obtain ⟨a, x, rfl, ha, k⟩ := h
    refine ⟨_, pss_one (ps_ret (pe_and (pe_chain op_le op_le pe_int (pe_callB call_len_seq (by rfl) T.len PySem.boot_len (pa_cons (pv 0) pa_nil)) (C8.pe_gc (by rfl) N1))
      (pe_one (pe_cmpR op_le (pe_callB (cr_max rfl) (by rfl) T.max (by decide +kernel) (pa_cons (pv 0) pa_nil)) (C8.pe_gc (by rfl) N2) (nomark _))))), ?_⟩
    have k0 := k _ (Same.refl H)
    have i1 := sentOk_iff x
    refine ⟨_, rfl, a, _, rfl, .inl (SqL.of ha), _, _, rfl, rfl, _, rfl, ?_⟩
    rw [nvs_len]
    by_cases c1 : 1 ≤ x.length
    · refine ifT (decide_eq_true (by omega)) ⟨_, _, rfl, rfl, _, rfl, ?_⟩
      by_cases c2 : x.length ≤ 10
      · refine ifT (decide_eq_true (by omega)) ⟨_, rfl, ?_⟩
        dsimp only [tNil]
        refine max_nvs ha c1 ⟨_, _, rfl, rfl, ?_⟩
        have e : Ut10.sentOk x = decide (((Ut10.most x : Nat) : Int) ≤ ((999 : Nat) : Int)) := by
          by_cases c3 : Ut10.most x ≤ 999
          · rw [decide_eq_true (by omega)]
            exact i1.mpr ⟨c1, c2, (most_le x 999).mp c3⟩
          · rw [decide_eq_false (by omega)]
            cases q : Ut10.sentOk x with
            | false => rfl
            | true => exact absurd ((most_le x 999).mpr (i1.mp q).2.2) c3
        rw [e] at k0
        exact k0
      · refine ifF (decide_eq_false (by omega)) ?_
        have e : Ut10.sentOk x = decide (((x.length : Nat) : Int) ≤ ((10 : Nat) : Int)) := by
          rw [decide_eq_false (by omega)]
          cases q : Ut10.sentOk x with
          | false => rfl
          | true => exact absurd (i1.mp q).2.1 c2
        rw [decide_eq_false (by omega)] at e
        rw [e] at k0
        exact k0
    · refine ifF (decide_eq_false (by omega)) ⟨_, rfl, iteF ?_⟩
      have e : Ut10.sentOk x = false := by
        cases q : Ut10.sentOk x with
        | false => rfl
        | true => exact absurd (i1.mp q).1 c1
      rw [e] at k0
      exact k0
/-! ### are_sentences -/
def spAreSentences : Sp := fun vs H Q _ => ∃ (a : Addr) (ss : List Sent) (m : Nat), vs = [.ref a, nv m] ∧ SentsA H a ss ∧ ss.length ≤ 10000 ∧ ∀ H', Same H H' → Q (.bl (decide (ss.length ≤ m) && ss.all Ut10.sentOk)) H'
theorem scAreSentences : FnScope ["some", "most", "words"] ["some", "most"] (defScope sAreSentences) := ⟨rfl, rfl, rfl, by decide +kernel, rfl, by decide +kernel, by decide +kernel⟩
def bls (l : List Bool) : List V := l.map V.bl
theorem ok_areSentences {f : Addr} {fd : FuncData} (F : Fun K "are_sentences" "are_sentences" sAreSentences f fd) (T : Txt mg) (CI : Cal P w K mg base 1 "is_sentence" spIsSentence) : FnOk P w K mg base CX0 2 f fd ["some", "most"] spAreSentences := by
  refine F.ok scAreSentences (fun vs H Q E h => ?_) (fun cdv A outer s H vs Q E hr h => ?_)
  · obtain ⟨a, ss, m, rfl, _⟩ := h
    rfl
  · obtain ⟨a, ss, m, rfl, ⟨va, ha, al⟩, hl, k⟩ := h
    refine ⟨_, pss_one (ps_ret (pe_and (pe_cmpR op_le (pe_callB call_len_seq (by rfl) T.len PySem.boot_len (pa_cons (pv 0) pa_nil)) (pv 1) (nomark _))
      (pe_one (pe_callB (cr_all rfl) (by rfl) T.all (by decide +kernel) (pa_cons (pe_lc (own := [("words", 2)]) (g := gName 2) (tt := tYes) (te := tCall spIsSentence [] C8.E0 (tCons (tVar 2) tNil)) rfl scAreSentences.nd (pi_list (pv 0))
        (blkOk_by (N := ["some", "most", "words"]) (sc := defScope sAreSentences) (by decide +kernel)) (fun _ _ _ _ _ => pg_name (i := 2) scAreSentences.nd rfl (Or.inl rfl)) (fun _ _ _ _ _ => pts_nil)
        (fun _ _ _ _ _ => C8.pe_c CI hr (by decide) (by rfl) (pa_cons (pv 2) pa_nil))) pa_nil))))), ?_⟩
    refine ⟨_, rfl, a, _, rfl, .inl (SqL.of ha), _, rfl, _, _, rfl, rfl, _, rfl, ?_⟩
    rw [al.1]
    by_cases c : ss.length ≤ m
    · rw [decide_eq_true c, Bool.true_and] at k
      refine ifT (decide_eq_true (by omega)) ⟨_, rfl, a, rfl, ⟨_, SqL.of ha⟩, fun D hD => lc_list (K := K) (a := a) (xs := va) (fun i H' => Same H H' ∧ H' D = some (.lst (bls ((ss.map Ut10.sentOk).take i)))) ⟨same_new hD, upd_same⟩ (fun i H' _ ⟨s1, _⟩ => SqL.of (s1 _ _ ha)) ?_ ?_⟩
      · rintro i x H1 hx ⟨s1, h1⟩
        obtain ⟨t, ht, c1, rfl, hc1⟩ := al.getV hx
        refine ⟨rfl, yes_then ⟨_, rfl, c1, t, rfl, s1 _ _ hc1, fun H2 s2 => ?_⟩⟩
        refine ⟨_, s2 _ _ h1, ?_, same_own (s1.trans s2) hD, ?_⟩
        · unfold bls
          rw [List.length_map]
          have := List.length_take_le' i (ss.map Ut10.sentOk)
          rw [List.length_map] at this
          exact lt_line (by omega)
        · rw [upd_same]
          have e : (ss.map Ut10.sentOk)[i]? = some (Ut10.sentOk t) := by rw [List.getElem?_map, ht]; rfl
          rw [take_more e]
          unfold bls
          rw [List.map_append]
          rfl
      · rintro H1 ⟨s1, h1⟩
        have e : va.length = (ss.map Ut10.sentOk).length := by rw [List.length_map]; exact al.1
        rw [e, List.take_length] at h1
        refine ⟨D, _, rfl, SqL.of h1, ?_⟩
        have e2 : (ss.map Ut10.sentOk).all id = ss.all Ut10.sentOk := by rw [List.all_map]; rfl
        rw [e2]
        exact k _ s1
    · rw [decide_eq_false c, Bool.false_and] at k
      exact ifF (decide_eq_false (by omega)) (k _ (Same.refl H))
/-! ### words_in -/
def spWordsIn : Sp := fun vs H Q _ => ∃ (a : Addr) (ss : List Sent), vs = [.ref a] ∧ SentsA H a ss ∧ ss.length ≤ 10000 ∧ ∀ H', Same H H' → Q (nv (ss.map fun s => s.length).sum) H'
theorem scWordsIn : FnScope ["sentences", "sentence"] ["sentences"] (defScope sWordsIn) := ⟨rfl, rfl, rfl, by decide +kernel, rfl, by decide +kernel, by decide +kernel⟩
theorem ok_wordsIn {f : Addr} {fd : FuncData} (F : Fun K "words_in" "words_in" sWordsIn f fd) (T : Txt mg) : FnOk P w K mg base CX0 1 f fd ["sentences"] spWordsIn := by
  refine F.ok scWordsIn (fun vs H Q E h => ?_) (fun cdv A outer s H vs Q E hr h => ?_)
  · obtain ⟨a, ss, rfl, _⟩ := h
    rfl
  · obtain ⟨a, ss, rfl, ⟨va, ha, al⟩, hl, k⟩ := h
    refine ⟨_, pss_one (ps_ret (pe_callB (cr_sum rfl) (by rfl) T.sum (by decide +kernel) (pa_cons (pe_lc (own := [("sentence", 1)]) (g := gName 1) (tt := tYes)
      (te := tCB (fun xs H Q => ∃ p ys, xs = [.ref p] ∧ (SqL K H p ys ∨ SqT K H p ys) ∧ Q (.int ys.length) H) (tCons (tVar 1) tNil)) rfl scWordsIn.nd (pi_list (pv 0))
        (blkOk_by (N := ["sentences", "sentence"]) (sc := defScope sWordsIn) (by decide +kernel)) (fun _ _ _ _ _ => pg_name (i := 1) scWordsIn.nd rfl (Or.inl rfl)) (fun _ _ _ _ _ => pts_nil)
        (fun _ _ _ _ _ => pe_callB call_len_seq (by rfl) T.len PySem.boot_len (pa_cons (pv 1) pa_nil))) pa_nil))), ?_⟩
    refine ⟨_, rfl, a, rfl, ⟨_, SqL.of ha⟩, fun D hD => lc_list (K := K) (a := a) (xs := va) (fun i H' => Same H H' ∧ H' D = some (.lst (nvs ((ss.map fun s => s.length).take i)))) ⟨same_new hD, upd_same⟩ (fun i H' _ ⟨s1, _⟩ => SqL.of (s1 _ _ ha)) ?_ ?_⟩
    · rintro i x H1 hx ⟨s1, h1⟩
      obtain ⟨t, ht, c1, rfl, hc1⟩ := al.getV hx
      refine ⟨rfl, yes_then ⟨_, rfl, c1, _, rfl, .inl (SqL.of (s1 _ _ hc1)), _, h1, ?_, same_own s1 hD, ?_⟩⟩
      · rw [nvs_len]
        have := List.length_take_le' i (ss.map fun s => s.length)
        rw [List.length_map] at this
        exact lt_line (by omega)
      · rw [upd_same]
        have e : (ss.map fun s => s.length)[i]? = some t.length := by rw [List.getElem?_map, ht]; rfl
        rw [take_more e, nvs_app, nvs_len]
        rfl
    · rintro H1 ⟨s1, h1⟩
      have e : va.length = (ss.map fun s => s.length).length := by rw [List.length_map]; exact al.1
      rw [e, List.take_length, nvs_ints] at h1
      refine ⟨D, _, rfl, SqL.of h1, ?_⟩
      rw [sum_int]
      exact k _ s1
/-! ### are_bands -/
def spAreBands (K : PySem.W.Frag) : Sp := fun vs H Q _ => ∃ (a : Addr) (bs : List Band), vs = [.ref a] ∧ BandsA K H a bs ∧ ∀ H', Same H H' → Q (.bl (arb bs)) H'
theorem scAreBands : FnScope ["bands", "at", "band"] ["bands"] (defScope sAreBands) := ⟨rfl, rfl, rfl, by decide +kernel, rfl, by decide +kernel, by decide +kernel⟩
theorem getD_of {α : Type} {l : List α} {i : Nat} {x d : α} (h : l[i]? = some x) : l.getD i d = x := by rw [List.getD_eq_getElem?_getD, h]; rfl
theorem ok_areBands {f : Addr} {fd : FuncData} (F : Fun K "are_bands" "are_bands" sAreBands f fd) (T : Txt mg) (N1 : Num mg "MOST_BANDS" 4) (N2 : Num mg "HUNDREDTHS" 100) : FnOk P w K mg base CX0 1 f fd ["bands"] (spAreBands K) := by
  refine F.ok scAreBands (fun vs H Q E h => ?_) (fun cdv A outer s H vs Q E hr h => ?_)
  · obtain ⟨a, bs, rfl, _⟩ := h
    rfl
  · obtain ⟨a, bs, rfl, ⟨va, ha, al⟩, k⟩ := h
    refine ⟨_, pss_cons (ps_if (pt_cmpR op_gt (pe_callB call_len_seq (by rfl) T.len PySem.boot_len (pa_cons (pv 0) pa_nil)) (C8.pe_gc (by rfl) N1) (nomark _)) (pss_one (ps_ret pe_bl)) pss_nil)
      (pss_cons (ps_for PassesOwn.never rfl (pi_enum (by rfl) T.enumerate (pa_cons (pv 0) pa_nil)) (pg_tup rfl (pgs_cons (pg_name (i := 1) scAreBands.nd rfl (Or.inl rfl)) (pgs_cons (pg_name (i := 2) scAreBands.nd rfl (Or.inl rfl)) pgs_nil)))
        (pss_one (ps_if (PW.pt (pw_or (pt_cmpR op_gt (pe_callB (cr_maxT rfl (room65 hr)) (by rfl) T.max (by decide +kernel) (pa_cons (pv 2) pa_nil)) (C8.pe_gc (by rfl) N2) (nomark _))
          (pw_or1 (PW.pt (pw_and (pt_cmpR op_gt (pv 1) pe_int (nomark _)) (pw_and1 (pt_cmpR op_ge (pe_ix ix_tup (pv 2) pe_int (fun _ _ => rfl)) (pe_ix ix_tup (pe_ix ix_list (pv 0) (pe_op op_sub (pv 1) pe_int) (fun _ _ => rfl)) pe_int (fun _ _ => rfl)) (nomark _))))))))
          (pss_one (ps_ret pe_bl)) pss_nil)))
      (pss_one (ps_ret pe_bl))), ?_⟩
    refine ⟨_, rfl, a, _, rfl, .inl (SqL.of ha), _, _, rfl, rfl, _, rfl, ?_⟩
    rw [al.1]
    by_cases c0 : 4 < bs.length
    · refine ifT (decide_eq_true (by omega)) ?_
      have e : arb bs = false := by unfold arb; rw [decide_eq_false (by omega)]; rfl
      rw [e] at k
      exact k _ (Same.refl H)
    · refine ifF (decide_eq_false (by omega)) ⟨_, rfl, a, va, rfl, SqL.of ha, for_it (walk_enum (xs := va)) (fun i σ H' => ∃ u v : Option V, σ = [some (.ref a), u, v] ∧ Same H H' ∧ ∀ j, j < i → bgd bs j = true)
        ⟨none, none, rfl, Same.refl _, fun j hj => absurd hj (Nat.not_lt_zero j)⟩ (fun i σ H' _ ⟨_, _, _, s1, _⟩ => SqL.of (s1 _ _ ha)) ?_ ?_⟩
      · rintro i y σ H1 H2 hi ⟨u, v, rfl, s1, ok⟩ ⟨t, p, q, rfl, ht, rfl, e1, e2⟩
        cases e1
        obtain ⟨b, hb, tb, rfl, htb⟩ := al.getV e2
        have s2 : Same H (upd H1 t (.tup [.int (i : Nat), .ref tb])) := same_newT s1 ht
        have hbi : bs.getD i (0, 0) = b := getD_of hb
        have hib := (List.getElem?_eq_some_iff.mp hb).1
        refine ⟨t, _, rfl, SqT.of upd_same, rfl, _, _, rfl, _, _, rfl, rfl, ?_⟩
        have bad : bgd bs i = false → arb bs = false := fun z => by
          unfold arb
          have : (List.range bs.length).all (bgd bs) = false := by
            cases q : (List.range bs.length).all (bgd bs) with
            | false => rfl
            | true =>
              rw [List.all_eq_true.mp q i (List.mem_range.mpr hib)] at z
              cases z
          rw [this, Bool.and_false]
        refine ⟨_, rfl, tb, b.1, b.2, rfl, same_tup s2 htb, _, _, rfl, rfl, _, rfl, ?_⟩
        by_cases c1 : 100 < max b.1 b.2
        · refine ifT (decide_eq_true (by omega)) (iteT ?_)
          have e := bad (by
            unfold bgd
            rw [hbi]
            by_cases q : b.1 ≤ 100
            · rw [decide_eq_false (show ¬ b.2 ≤ 100 by omega), Bool.false_and, Bool.and_false]
            · rw [decide_eq_false q, Bool.false_and])
          rw [e] at k
          exact k _ s2
        · refine ifF (decide_eq_false (by omega)) ⟨_, rfl, _, _, rfl, rfl, _, rfl, ?_⟩
          by_cases c2 : i = 0
          · refine ifF (decide_eq_false (by omega)) (iteF ⟨_, _, rfl, s2, fun j hj => ?_⟩)
            have : j = i := by omega
            subst this
            unfold bgd
            rw [hbi, decide_eq_true (show b.1 ≤ 100 by omega), decide_eq_true (show b.2 ≤ 100 by omega), decide_eq_true c2]
            rfl
          · obtain ⟨b', hb'⟩ : ∃ b', bs[i - 1]? = some b' := ⟨_, List.getElem?_eq_getElem (by omega)⟩
            obtain ⟨v', hv', tb', rfl, htb'⟩ := al.get hb'
            have hbi' : bs.getD (i - 1) (0, 0) = b' := getD_of hb'
            refine ifT (decide_eq_true (by omega)) ⟨_, rfl, tb, _, 0, nv b.1, rfl, rfl, same_tup s2 htb, atI_nat (j := 0) rfl, _, rfl, _, rfl, _, _, rfl, rfl, a, va, _, .ref tb', rfl, rfl, SqL.of (s2 _ _ ha), at_of (j := i - 1) (by omega) hv', ?_⟩
            refine ⟨tb', _, 0, nv b'.1, rfl, rfl, same_tup s2 htb', atI_nat (j := 0) rfl, _, _, rfl, rfl, _, rfl, ?_⟩
            by_cases c3 : b'.1 ≤ b.1
            · refine ifT (decide_eq_true (by omega)) ?_
              have e := bad (by
                unfold bgd
                rw [hbi, hbi', decide_eq_false c2, decide_eq_false (show ¬ b.1 < b'.1 by omega), Bool.or_false, Bool.and_false, Bool.and_false])
              rw [e] at k
              exact k _ s2
            · refine ifF (decide_eq_false (by omega)) ⟨_, _, rfl, s2, fun j hj => ?_⟩
              by_cases e : j = i
              · subst e
                unfold bgd
                rw [hbi, hbi', decide_eq_true (show b.1 ≤ 100 by omega), decide_eq_true (show b.2 ≤ 100 by omega), decide_eq_true (show b.1 < b'.1 by omega), Bool.or_true]
                rfl
              · exact ok j (by omega)
      · rintro σ H1 ⟨u, v, rfl, s1, ok⟩
        have e : arb bs = true := by
          unfold arb
          rw [decide_eq_true (by omega), Bool.true_and, List.all_eq_true]
          intro j hj
          exact ok j (by rw [al.1]; exact List.mem_range.mp hj)
        rw [e] at k
        exact k _ s1
end
end Wc

set_option Elab.async false
set_option linter.all false
set_option maxRecDepth 100000
set_option maxHeartbeats 2000000
namespace Wc
open PySem PySem.Spec PyProof.Rows L2
/-! ### len(set(xs)) of numbers that may be told twice: a rule that the layer lacks -/
theorem met_len (ns : List Int) : ∀ i, i ≤ ns.length → (PyProof.Rows.firstMet (fun i => ns.getD i 0) i).length = i → PyProof.Rows.firstMet (fun i => ns.getD i 0) i = ns.take i ∧ (ns.take i).Nodup
  | 0, _, _ => ⟨rfl, by simp⟩
  | i + 1, hi, h => by
    have hlt : i < ns.length := hi
    have e1 : ns.getD i 0 = ns[i] := by rw [List.getD_eq_getElem?_getD, List.getElem?_eq_getElem hlt]; rfl
    have hle := PyProof.Rows.firstMet_length_le (fun i => ns.getD i 0) i
    rw [PyProof.Rows.firstMet_succ] at h ⊢
    unfold PyProof.Rows.step_dedup at h ⊢
    cases c : (PyProof.Rows.firstMet (fun i => ns.getD i 0) i).any (· == ns.getD i 0) with
    | true =>
      rw [c, if_pos rfl] at h
      omega
    | false =>
      rw [c, if_neg Bool.false_ne_true, List.length_append] at h
      have h2 : (PyProof.Rows.firstMet (fun i => ns.getD i 0) i).length = i := by
        have : ([ns.getD i 0] : List Int).length = 1 := rfl
        omega
      obtain ⟨a, b⟩ := met_len ns i (by omega) h2
      rw [if_neg Bool.false_ne_true, a, take_more (List.getElem?_eq_getElem hlt), e1]
      refine ⟨rfl, ?_⟩
      rw [a] at c
      rw [List.nodup_append]
      refine ⟨b, by simp, fun x hx y hy => ?_⟩
      have hy2 : y = ns[i] := by simpa using hy
      intro e
      have : (ns.take i).any (· == ns.getD i 0) = true := List.any_eq_true.mpr ⟨x, hx, by rw [e1, e, hy2]; exact beq_self_eq_true _⟩
      rw [c] at this
      cases this
def metN (ns : List Int) : Nat := (PyProof.Rows.firstMet (fun i => ns.getD i 0) ns.length).length
theorem metN_iff (ns : List Int) : metN ns = ns.length ↔ ns.Nodup := by
  unfold metN
  constructor
  · intro h
    have := (met_len ns ns.length (Nat.le_refl _) h).2
    rw [List.take_length] at this
    exact this
  · intro h
    rw [RZ.firstMet_nodup h ns.length (Nat.le_refl _), List.take_length]
def tLenSetG (K : PySem.W.Frag) (ta : TE) : TE := fun σ H Q => ta σ H fun x H1 => ∃ (l : Addr) (ns : List Int), x = .ref l ∧ SqL K H1 l (ns.map V.int) ∧ ns.length ≤ 4000 ∧ Q (.int (metN ns : Nat)) H1
theorem pe_lenSetG {X : Cx} {a : Expr} {ta : TE} {p p2 q pos : Pos} (hg : Gl X "len") (hm : X.mg "len" = none) (hg2 : Gl X "set") (hm2 : X.mg "set" = none) (ha : PE X a ta) (hc : X.calm = true := by rfl)
    (na : starEach [a] X.env = (false, eval a X.env) :: starEach [] X.env := by rfl) : PE X (.Call (.Name "len" p) [.Call (.Name "set" p2) [a] [] q] [] pos) (tLenSetG X.K ta) := by
  -- len( .. set( .. the list)): both names are the built-in ones; what is left is the set of the list that stands there
  refine ⟨fun pins s σ H Q I h => Call_ (ld_blt I hg hm boot_len (PyProof.Rows.callWith_builtin1 (PyProof.Rows.args_cons (Call_ (ld_blt I hg2 hm2 boot_set (PyProof.Rows.callWith_type1
    (PyProof.Rows.args_cons (thn (ha.run pins s σ H _ I h) fun v s1 made => PyProof.Rows.args_nil ?_) na) na rfl))) rfl) rfl rfl))⟩
  obtain ⟨x, H1, I1, is, l, ns, rfl, there, few, goal⟩ := made
  cases is
  obtain ⟨its, same, list, _⟩ := I1.list there
  have count : its.toArray.size = ns.length := by simpa using same.length.symm
  have le := PyProof.Rows.firstMet_length_le (fun i => ns.getD i 0) ns.length
  refine call_set_list (I1.ok.hd hc) list.isList (by simpa using RZ.intsAre_vals same) (by rw [count]; unfold scanBound; omega) fun h' tk whole kept => PyProof.Rows.args_nil ?_
  rw [count] at whole
  obtain ⟨o, es, ep, t, at_, ex, dat, _, _, _, fit, many⟩ := whole
  have I2 : L2.Inv X pins σ H1 { s1 with heap := h', toks := tk } := I1.kept fun b o e => kept b o (Heap.lt_size e) e
  exact call_len_set at_ ex dat fit (by omega) ⟨.int (metN ns : Nat), H1, I2.tok _, ⟨_, by rw [many]; rfl⟩, goal⟩
/-! ### the house in the heap -/
theorem lk_here {k : Str} {v : V} {r : List (Str × V)} : List.lookup k ((k, v) :: r) = some v := by
  have e : (k == k) = true := beq_self_eq_true k
  simp only [List.lookup, e]
theorem lk_past {k g : Str} {v : V} {r : List (Str × V)} (h : (k == g) = false) : List.lookup k ((g, v) :: r) = List.lookup k r := by
  simp only [List.lookup, h]
theorem put_here {f : Str} {v x : V} {r : List (Str × V)} : putF f v ((f, x) :: r) = (f, v) :: r := if_pos rfl
theorem put_past {f g : Str} {v x : V} {r : List (Str × V)} (h : ¬ g = f) : putF f v ((g, x) :: r) = (g, x) :: putF f v r := if_neg h
theorem look_no {m : Str} : ∀ {l : List (Str × V)}, (l.map (·.1)).all (fun k => !(m == k)) = true → l.lookup m = none
  | [], _ => rfl
  | (k, v) :: l, h => by
    rw [List.map_cons, List.all_cons, Bool.and_eq_true] at h
    rw [lk_past (by simpa using h.1)]
    exact look_no h.2
def hF (fl ml bl : Addr) (given again : Nat) : List (Str × V) := [("files", .ref fl), ("given", nv given), ("memory", .ref ml), ("bands", .ref bl), ("again", nv again)]
section
variable {fl ml bl x : Addr} {given again n : Nat}
theorem hF_files : (hF fl ml bl given again).lookup ("files" : Str) = some (.ref fl) := lk_here
theorem hF_given : (hF fl ml bl given again).lookup ("given" : Str) = some (nv given) := (lk_past (by decide +kernel)).trans lk_here
theorem hF_memory : (hF fl ml bl given again).lookup ("memory" : Str) = some (.ref ml) := (lk_past (by decide +kernel)).trans ((lk_past (by decide +kernel)).trans lk_here)
theorem hF_bands : (hF fl ml bl given again).lookup ("bands" : Str) = some (.ref bl) := (lk_past (by decide +kernel)).trans ((lk_past (by decide +kernel)).trans ((lk_past (by decide +kernel)).trans lk_here))
theorem hF_again : (hF fl ml bl given again).lookup ("again" : Str) = some (nv again) := (lk_past (by decide +kernel)).trans ((lk_past (by decide +kernel)).trans ((lk_past (by decide +kernel)).trans ((lk_past (by decide +kernel)).trans lk_here)))
theorem hF_no {m : Str} (h : (["files", "given", "memory", "bands", "again"] : List Str).all (fun k => !(m == k)) = true) : (hF fl ml bl given again).lookup m = none := look_no h
theorem hF_setFiles : putF "files" (.ref x) (hF fl ml bl given again) = hF x ml bl given again := put_here
theorem hF_setGiven : putF "given" (nv n) (hF fl ml bl given again) = hF fl ml bl n again := (put_past (by decide +kernel)).trans (congrArg _ put_here)
theorem hF_setMemory : putF "memory" (.ref x) (hF fl ml bl given again) = hF fl x bl given again := (put_past (by decide +kernel)).trans (congrArg _ ((put_past (by decide +kernel)).trans (congrArg _ put_here)))
theorem hF_setBands : putF "bands" (.ref x) (hF fl ml bl given again) = hF fl ml x given again := (put_past (by decide +kernel)).trans (congrArg _ ((put_past (by decide +kernel)).trans (congrArg _ ((put_past (by decide +kernel)).trans (congrArg _ put_here)))))
theorem hF_setAgain : putF "again" (nv n) (hF fl ml bl given again) = hF fl ml bl given n :=
  (put_past (by decide +kernel)).trans (congrArg _ ((put_past (by decide +kernel)).trans (congrArg _ ((put_past (by decide +kernel)).trans (congrArg _ ((put_past (by decide +kernel)).trans (congrArg _ put_here)))))))
theorem hF_len : (hF fl ml bl given again).length < 1000 := by show 5 < 1000; decide
end
/-- a file: a pair of its number and its sentences -/
def FileV (D : Hp) (v : V) (f : Ut10.File) : Prop := ∃ t sl, v = .ref t ∧ D t = some (.tup [nv f.number, .ref sl]) ∧ SentsA D sl f.sents
theorem FileV.same {D H : Hp} (e : Same D H) {v : V} {f : Ut10.File} (h : FileV D v f) : FileV H v f := let ⟨t, sl, h1, h2, h3⟩ := h; ⟨t, sl, h1, e _ _ h2, h3.same e⟩
/-- the house at a, its list of files at fl; D: what stands still of it -/
def HouseAt (K : PySem.W.Frag) (C : Addr) (D H : Hp) (a fl : Addr) (g : Ut10.St) : Prop :=
  Same D H ∧ D a = none ∧ D fl = none ∧ ∃ (dx ml bl : Addr) (fv : List V), H a = some (.ins C dx (hF fl ml bl g.given g.again)) ∧ H fl = some (.lst fv) ∧ AllV (FileV D) fv g.files ∧ SentsA D ml g.memory ∧ BandsA K D bl g.bands
theorem HouseAt.same {K : PySem.W.Frag} {C a fl : Addr} {D H H' : Hp} {g : Ut10.St} (h : HouseAt K C D H a fl g) (e : Same H H') : HouseAt K C D H' a fl g := by
  obtain ⟨s, d1, d2, dx, ml, bl, fv, h1, h2, h3, h4, h5⟩ := h
  exact ⟨s.trans e, d1, d2, dx, ml, bl, fv, e _ _ h1, e _ _ h2, h3, h4, h5⟩
/-- what the text's class has -/
structure TH (K : PySem.W.Frag) (C : Addr) : Prop where
  cl : Cls K C
  nF : NoAttr K C "files"
  nG : NoAttr K C "given"
  nM : NoAttr K C "memory"
  nB : NoAttr K C "bands"
  nA : NoAttr K C "again"
section
variable {P : Program} {w : World} {K : PySem.W.Frag} {mg : Str → Option Value} {base : Heap} {C : Addr}
/-! ### file_of -/
def spFileOf (K : PySem.W.Frag) (C : Addr) : Sp := fun vs H Q _ => ∃ (D : Hp) (a fl : Addr) (g : Ut10.St) (n : Nat), vs = [.ref a, nv n] ∧ HouseAt K C D H a fl g ∧ g.files.length ≤ 1000 ∧ has g n = true ∧ ∀ H' sl, Same H H' → SentsA D sl (sOf g n) → Q (.ref sl) H'
theorem scFileOf : FnScope ["self", "number", "file"] ["self", "number"] (defScope sFileOf) := ⟨rfl, rfl, rfl, by decide +kernel, rfl, by decide +kernel, by decide +kernel⟩
theorem filter_more {α : Type} {l : List α} {i : Nat} {x : α} (p : α → Bool) (h : l[i]? = some x) : (l.take (i + 1)).filter p = (l.take i).filter p ++ (if p x = true then [x] else []) := by
  rw [take_more h, List.filter_append, List.filter_cons, List.filter_nil]
theorem ok_fileOf {f : Addr} {fd : FuncData} (F : Fun K "file_of" "House.file_of" sFileOf f fd) (T : Txt mg) (TC : TH K C) : FnOk P w K mg base CX0 1 f fd ["self", "number"] (spFileOf K C) := by
  refine F.ok scFileOf (fun vs H Q E h => ?_) (fun cdv A outer s H vs Q E hr h => ?_)
  · obtain ⟨D, a, fl, g, n, rfl, _⟩ := h
    rfl
  · obtain ⟨D, a, fl, g, n, rfl, ⟨s0, d1, d2, dx, ml, bl, fv, h1, h2, h3, h4, h5⟩, hl, hn, k⟩ := h
    refine ⟨_, pss_one (ps_ret (pe_ix ix_list (pe_lc (own := [("file", 2)]) (g := gName 2) (tt := tTest (tOp rEq (tOp (rIxT K) (tVar 2) (tC (.int 0))) (tVar 1))) (te := tOp (rIxT K) (tVar 2) (tC (.int 1))) rfl scFileOf.nd (pi_list (pe_fld (pv 0) rfl))
        (blkOk_by (N := ["self", "number", "file"]) (sc := defScope sFileOf) (by decide +kernel)) (fun _ _ _ _ _ => pg_name (i := 2) scFileOf.nd rfl (Or.inl rfl)) (fun _ _ _ _ _ => pts_one (pt_cmpR op_eq (pe_ix ix_tup (pv 2) pe_int (fun _ _ => rfl)) (pv 1) (nomark _)))
        (fun _ _ _ _ _ => pe_ix ix_tup (pv 2) pe_int (fun _ _ => rfl))) pe_int (fun _ _ => rfl))), ?_⟩
    refine ⟨_, rfl, a, C, dx, _, _, rfl, h1, TC.cl, TC.nF, hF_files, fl, rfl, ⟨_, SqL.of h2⟩, fun D0 hD => lc_list (K := K) (a := fl) (xs := fv)
      (fun i H' => Same H H' ∧ ∃ acc, H' D0 = some (.lst acc) ∧ AllV (fun v f => ∃ sl, v = .ref sl ∧ SentsA D sl f.sents) acc ((g.files.take i).filter fun f => f.number == n)) ⟨same_new hD, [], upd_same, AllV.nil⟩ (fun i H' _ ⟨s1, _⟩ => SqL.of (s1 _ _ h2)) ?_ ?_⟩
    · rintro i x H1 hx ⟨s1, acc, ha, hb⟩
      obtain ⟨fi, hfi, t, sl, rfl, ht, hsl⟩ := h3.getV hx
      have ht1 := s1 _ _ (s0 _ _ ht)
      refine ⟨rfl, _, rfl, t, _, 0, nv fi.number, rfl, rfl, SqT.of ht1, atI_nat (j := 0) rfl, _, rfl, rfl, _, rfl, ?_⟩
      rw [nv_eq]
      have e := filter_more (fun f : Ut10.File => f.number == n) hfi
      by_cases c : fi.number = n
      · rw [if_pos (by simpa using c)] at e
        refine ifT (decide_eq_true c) ⟨_, rfl, t, _, 1, .ref sl, rfl, rfl, SqT.of ht1, atI_nat (j := 1) rfl, acc, ha, ?_, same_own s1 hD, _, upd_same, ?_⟩
        · have h6 := List.length_filter_le (fun f : Ut10.File => f.number == n) (g.files.take i)
          have h7 := List.length_take_le' i g.files
          have h8 := hb.1
          exact lt_line (by omega)
        · rw [e]
          exact hb.snoc ⟨sl, rfl, hsl⟩
      · rw [if_neg (by simpa using c), List.append_nil] at e
        refine ifF (decide_eq_false c) ⟨s1, acc, ha, ?_⟩
        rw [e]
        exact hb
    · rintro H1 ⟨s1, acc, ha, hb⟩
      rw [h3.1, List.take_length] at hb
      obtain ⟨fi, e1, e2, e3, e4⟩ := fileOf_some hn
      have e5 : (g.files.filter fun f => f.number == n)[0]? = some fi := by rw [← List.head?_eq_getElem?]; exact e4
      obtain ⟨v, hv, sl, rfl, hsl⟩ := hb.get e5
      refine ⟨D0, acc, 0, .ref sl, rfl, rfl, SqL.of ha, atI_nat (j := 0) hv, k _ sl s1 ?_⟩
      unfold sOf
      rw [e1]
      exact hsl
/-! ### file_numbers -/
def spFileNumbers (K : PySem.W.Frag) (C : Addr) : Sp := fun vs H Q _ => ∃ (D : Hp) (a fl : Addr) (g : Ut10.St), vs = [.ref a] ∧ HouseAt K C D H a fl g ∧ g.files.length ≤ 1000 ∧ ∀ H' p, Same H H' → H p = none → H' p = some (.lst (nvs (nums g))) → Q (.ref p) H'
theorem scFileNumbers : FnScope ["self", "file"] ["self"] (defScope sFileNumbers) := ⟨rfl, rfl, rfl, by decide +kernel, rfl, by decide +kernel, by decide +kernel⟩
theorem ok_fileNumbers {f : Addr} {fd : FuncData} (F : Fun K "file_numbers" "House.file_numbers" sFileNumbers f fd) (T : Txt mg) (TC : TH K C) : FnOk P w K mg base CX0 1 f fd ["self"] (spFileNumbers K C) := by
  refine F.ok scFileNumbers (fun vs H Q E h => ?_) (fun cdv A outer s H vs Q E hr h => ?_)
  · obtain ⟨D, a, fl, g, rfl, _⟩ := h
    rfl
  · obtain ⟨D, a, fl, g, rfl, ⟨s0, d1, d2, dx, ml, bl, fv, h1, h2, h3, h4, h5⟩, hl, k⟩ := h
    refine ⟨_, pss_one (ps_ret (pe_lc (own := [("file", 1)]) (g := gName 1) (tt := tYes) (te := tOp (rIxT K) (tVar 1) (tC (.int 0))) rfl scFileNumbers.nd (pi_list (pe_fld (pv 0) rfl))
        (blkOk_by (N := ["self", "file"]) (sc := defScope sFileNumbers) (by decide +kernel)) (fun _ _ _ _ _ => pg_name (i := 1) scFileNumbers.nd rfl (Or.inl rfl)) (fun _ _ _ _ _ => pts_nil)
        (fun _ _ _ _ _ => pe_ix ix_tup (pv 1) pe_int (fun _ _ => rfl)))), ?_⟩
    refine ⟨_, rfl, a, C, dx, _, _, rfl, h1, TC.cl, TC.nF, hF_files, fl, rfl, ⟨_, SqL.of h2⟩, fun D0 hD => lc_list (K := K) (a := fl) (xs := fv)
      (fun i H' => Same H H' ∧ H' D0 = some (.lst (nvs ((nums g).take i)))) ⟨same_new hD, upd_same⟩ (fun i H' _ ⟨s1, _⟩ => SqL.of (s1 _ _ h2)) ?_ ?_⟩
    · rintro i x H1 hx ⟨s1, ha⟩
      obtain ⟨fi, hfi, t, sl, rfl, ht, hsl⟩ := h3.getV hx
      have ht1 := s1 _ _ (s0 _ _ ht)
      refine ⟨rfl, yes_then ⟨_, rfl, t, _, 0, nv fi.number, rfl, rfl, SqT.of ht1, atI_nat (j := 0) rfl, _, ha, ?_, same_own s1 hD, ?_⟩⟩
      · rw [nvs_len]
        have := List.length_take_le' i (nums g)
        unfold nums at this
        rw [List.length_map] at this
        exact lt_line (by unfold nums; omega)
      · rw [upd_same]
        have e : (nums g)[i]? = some fi.number := by unfold nums; rw [List.getElem?_map, hfi]; rfl
        rw [take_more e, nvs_app]
        rfl
    · rintro H1 ⟨s1, ha⟩
      have e : fv.length = (nums g).length := by unfold nums; rw [List.length_map]; exact h3.1
      rw [e, List.take_length] at ha
      exact k _ D0 s1 hD ha
/-! ### are_files -/
def spAreFiles (K : PySem.W.Frag) (C : Addr) : Sp := fun vs H Q _ => ∃ (D : Hp) (a fl b : Addr) (g : Ut10.St) (l : List Nat), vs = [.ref a, .ref b] ∧ HouseAt K C D H a fl g ∧ g.files.length ≤ 1000 ∧ H b = some (.lst (nvs l)) ∧ l.length ≤ 1000 ∧ ∀ H', Same H H' → Q (.bl (arf g l)) H'
theorem scAreFiles : FnScope ["self", "numbers", "known", "number"] ["self", "numbers"] (defScope sAreFiles) := ⟨rfl, rfl, rfl, by decide +kernel, rfl, by decide +kernel, by decide +kernel⟩
theorem in_nvs (n : Nat) : ∀ l : List Nat, inV (nv n) (nvs l) = l.contains n
  | [] => rfl
  | x :: l => by
    have ih := in_nvs n l
    unfold inV at ih ⊢
    show (eqV (nv x) (nv n) || (nvs l).any fun y => eqV y (nv n)) = (x :: l).contains n
    rw [ih, List.contains_cons]
    congr 1
    show ((x : Int) == (n : Int)) = (n == x)
    by_cases e : x = n
    · subst e; simp
    · have h1 : ((x : Int) == (n : Int)) = false := beq_eq_false_iff_ne.mpr (by omega)
      have h2 : (n == x) = false := beq_eq_false_iff_ne.mpr (fun q => e q.symm)
      rw [h1, h2]
theorem flat_nvs : ∀ l : List Nat, (nvs l).all flatV = true
  | [] => rfl
  | x :: l => by
    show (flatV (nv x) && (nvs l).all flatV) = true
    rw [flat_nvs l]; rfl
theorem nodup_int (l : List Nat) : (l.map fun (n : Nat) => (n : Int)).Nodup ↔ l.Nodup := by
  unfold List.Nodup
  rw [List.pairwise_map]
  constructor
  · intro h
    exact h.imp fun q e => q (by rw [e])
  · intro h
    exact h.imp fun q e => q (by omega)
theorem ok_areFiles {f : Addr} {fd : FuncData} (F : Fun K "are_files" "House.are_files" sAreFiles f fd) (T : Txt mg) (TC : TH K C) (CN : Met P w K mg base 1 C "file_numbers" (spFileNumbers K C)) : FnOk P w K mg base CX0 2 f fd ["self", "numbers"] (spAreFiles K C) := by
  refine F.ok scAreFiles (fun vs H Q E h => ?_) (fun cdv A outer s H vs Q E hr h => ?_)
  · obtain ⟨D, a, fl, b, g, l, rfl, _⟩ := h
    rfl
  · obtain ⟨D, a, fl, b, g, l, rfl, HA, hl, hb, hl2, k⟩ := h
    obtain ⟨s0, d1, d2, dx, ml, bl, fv, h1, h2, h3, h4, h5⟩ := id HA
    refine ⟨_, pss_cons (ps_set (i := 2) scAreFiles.nd rfl (Or.inr rfl) (C8.pe_mt0 CN hr (by decide) (pv 0)))
      (pss_one (ps_ret (pe_and (pe_cmpR op_eq (pe_lenSetG (by rfl) T.len (by rfl) T.set (pv 1)) (pe_callB call_len_seq (by rfl) T.len PySem.boot_len (pa_cons (pv 1) pa_nil)) (nomark _))
        (pe_one (pe_callB (cr_all rfl) (by rfl) T.all (by decide +kernel) (pa_cons (pe_lc (own := [("number", 3)]) (g := gName 3) (tt := tYes) (te := tOp (rIn K false) (tVar 3) (tVar 2)) rfl scAreFiles.nd (pi_list (pv 1))
          (blkOk_by (N := ["self", "numbers", "known", "number"]) (sc := defScope sAreFiles) (by decide +kernel)) (fun _ _ _ _ _ => pg_name (i := 3) scAreFiles.nd rfl (Or.inl rfl)) (fun _ _ _ _ _ => pts_nil)
          (fun _ _ _ _ _ => pe_cmpR op_in_seq (pv 3) (pv 2) (by rfl))) pa_nil)))))), ?_⟩
    refine ⟨_, rfl, a, dx, _, rfl, h1, hF_no (by decide +kernel), D, a, fl, g, rfl, HA, hl, fun H1 p s1 hp hkn => ?_⟩
    have hb1 := s1 _ _ hb
    refine ⟨_, rfl, b, l.map fun (n : Nat) => (n : Int), rfl, by rw [← nvs_ints]; exact SqL.of hb1, by rw [List.length_map]; omega, _, rfl, b, _, rfl, .inl (SqL.of hb1), rfl, _, rfl, ?_⟩
    have em : decide (V.int ((metN (l.map fun (n : Nat) => (n : Int)) : Nat) : Int) = V.int (((nvs l).length : Nat) : Int)) = decide l.Nodup := by
      refine decide_eq_decide.mpr ?_
      have h6 := metN_iff (l.map fun (n : Nat) => (n : Int))
      rw [List.length_map, nodup_int] at h6
      rw [nvs_len, ← h6]
      constructor
      · intro q
        have := V.int.inj q
        omega
      · intro q
        rw [q]
    rw [em]
    unfold arf at k
    by_cases c : l.Nodup
    · rw [decide_eq_true c, Bool.true_and] at k
      refine ifT (decide_eq_true c) ⟨_, rfl, b, rfl, ⟨_, SqL.of hb1⟩, fun D0 hD => lc_list (K := K) (a := b) (xs := nvs l) (fun i H' => Same H1 H' ∧ H' D0 = some (.lst (bls ((l.map (has g)).take i)))) ⟨same_new hD, upd_same⟩ (fun i H' _ ⟨s2, _⟩ => SqL.of (s2 _ _ hb1)) ?_ ?_⟩
      · rintro i x H2 hx ⟨s2, ha⟩
        obtain ⟨n, hn, rfl⟩ := nvs_get' hx
        refine ⟨rfl, yes_then ⟨_, rfl, _, rfl, p, _, rfl, .inl (SqL.of (s2 _ _ hkn)), rfl, flat_nvs _, _, ha, ?_, same_own s2 hD, ?_⟩⟩
        · unfold bls
          rw [List.length_map]
          have := List.length_take_le' i (l.map (has g))
          rw [List.length_map] at this
          exact lt_line (by omega)
        · rw [upd_same]
          have e : (l.map (has g))[i]? = some (has g n) := by rw [List.getElem?_map, hn]; rfl
          rw [take_more e]
          unfold bls
          rw [List.map_append]
          rw [if_neg Bool.false_ne_true, in_nvs]
          rfl
      · rintro H2 ⟨s2, ha⟩
        have e : (nvs l).length = (l.map (has g)).length := by rw [nvs_len, List.length_map]
        rw [e, List.take_length] at ha
        refine ⟨D0, _, rfl, SqL.of ha, ?_⟩
        have e2 : (l.map (has g)).all id = l.all (has g) := by rw [List.all_map]; rfl
        rw [e2]
        exact k _ (s1.trans s2)
    · rw [decide_eq_false c, Bool.false_and] at k
      exact ifF (decide_eq_false c) (k _ s1)
/-! ### job -/
def spJob (K : PySem.W.Frag) (C : Addr) : Sp := fun vs H Q _ => ∃ (D : Hp) (a fl b : Addr) (g : Ut10.St) (l : List Nat), vs = [.ref a, .ref b] ∧ HouseAt K C D H a fl g ∧ Good g ∧ H b = some (.lst (nvs l)) ∧ l.length ≤ 1000 ∧ arf g l = true ∧ ∀ H' p, Same H H' → H p = none → SentsA H' p (jobS g l) → Q (.ref p) H'
theorem scJob : FnScope ["self", "numbers", "found", "number"] ["self", "numbers"] (defScope sJob) := ⟨rfl, rfl, rfl, by decide +kernel, rfl, by decide +kernel, by decide +kernel⟩
theorem jobL_has {g : Ut10.St} {l : List Nat} (h : arf g l = true) : ∀ n ∈ jobL g l, has g n = true := by
  unfold jobL
  intro n hn
  split at hn
  · unfold has
    rw [List.contains_iff_mem]
    exact hn
  · unfold arf at h
    rw [Bool.and_eq_true] at h
    exact List.all_eq_true.mp h.2 n hn
theorem jobL_len {g : Ut10.St} (G : Good g) {l : List Nat} (h : l.length ≤ 1000) : (jobL g l).length ≤ 1000 := by
  unfold jobL
  split
  · unfold nums
    rw [List.length_map]
    have := G.fl
    omega
  · exact h
theorem ok_job {f : Addr} {fd : FuncData} (F : Fun K "job" "House.job" sJob f fd) (T : Txt mg) (TC : TH K C) (CN : Met P w K mg base 1 C "file_numbers" (spFileNumbers K C)) (CO : Met P w K mg base 1 C "file_of" (spFileOf K C)) : FnOk P w K mg base CX0 2 f fd ["self", "numbers"] (spJob K C) := by
  refine F.ok scJob (fun vs H Q E h => ?_) (fun cdv A outer s H vs Q E hr h => ?_)
  · obtain ⟨D, a, fl, b, g, l, rfl, _⟩ := h
    rfl
  · obtain ⟨D, a, fl, b, g, l, rfl, HA, G, hb, hl, har, k⟩ := h
    have hu := hr.units
    refine ⟨_, pss_cons (ps_set (i := 2) scJob.nd rfl (Or.inl rfl) (pe_lst pa_nil))
      (pss_cons (ps_for PassesOwn.never rfl (pi_list (pe_ifExp (pt_cmpR (op_neD hu) (pv 1) (pe_lst pa_nil) (nomark _)) (pv 1) (C8.pe_mt0 CN hr (by decide) (pv 0)))) (pg_name (i := 3) scJob.nd rfl (Or.inl rfl))
        (pss_one (ps_set (i := 2) scJob.nd rfl (Or.inl rfl) (pe_op op_cat (pv 2) (C8.pe_mt CO hr (by decide) (pv 0) (pa_cons (pv 3) pa_nil))))))
      (pss_one (ps_ret (pv 2)))), ?_⟩
    refine ⟨Nat.zero_le _, fun l0 hl0 => ?_⟩
    have s1 := same_new (o := .lst []) hl0
    have jl := jobL_len G hl
    -- the loop, over whatever list holds the numbers
    have loop : ∀ (H1 : Hp) (q : Addr), Same (upd H l0 (.lst [])) H1 → H1 q = some (.lst (nvs (jobL g l))) →
        ∃ W : Nat → Nat → L2.St → Hp → Prop, (∃ m, W 0 m [some (.ref a), some (.ref b), some (.ref l0), none] H1) ∧ ∀ i m σ H, W i m σ H →
          ((Itl K q).stop i H ∧ tRet (tVar 2) { nx := fun _ H' => Q .non H', rt := Q } σ H) ∨ ((Itl K q).go i H ∧ ∃ N : L2.St → Hp → Prop, (∀ σ' H', N σ' H' → ∃ m', m' < m ∧ W (i + 1) m' σ' H') ∧ ∀ x H', (Itl K q).yld i H x H' → gName 3 x σ H' fun σ2 H2 =>
            tAsg (tOp rCat (tVar 2) (tMeth C "file_of" (spFileOf K C) [] C8.E0 (tVar 0) (tCons (tVar 3) tNil))) (gName 2) { nx := N, rt := Q, bk := tRet (tVar 2) { nx := fun _ H' => Q .non H', rt := Q }, ct := N } σ2 H2) := by
      intro H1 q s2 hq
      have s3 := s1.trans s2
      refine for_list (K := K) (a := q) (xs := nvs (jobL g l)) (g := gName 3) (D := { nx := tRet (tVar 2) { nx := fun _ H' => Q .non H', rt := Q }, rt := Q }) (fun i σ H' => ∃ (r : Addr) (u : Option V), σ = [some (.ref a), some (.ref b), some (.ref r), u] ∧ Same H1 H' ∧ H r = none ∧ SentsA H' r (jobT g l i))
        ⟨l0, none, rfl, Same.refl _, hl0, [], s2 _ _ upd_same, AllV.nil⟩ (fun i σ H' _ ⟨_, _, _, s4, _⟩ => SqL.of (s4 _ _ hq)) ?_ ?_
      · rintro i x σ H2 hx ⟨r, u, rfl, s4, hr0, vr, hr1, hr2⟩
        obtain ⟨n, hn, rfl⟩ := nvs_get' hx
        have hi := (List.getElem?_eq_some_iff.mp hn).1
        have HA2 := HA.same (s3.trans s4)
        obtain ⟨s0, d1, d2, dx, ml, bl, fv, h1, h2, h3, h4, h5⟩ := id HA2
        have j1 := jobT_ok G l i
        have j2 := good_job G n
        refine ⟨_, rfl, _, rfl, a, dx, _, rfl, h1, hF_no (by decide +kernel), _, rfl, D, a, fl, g, n, rfl, HA2, by have := G.fl; omega, jobL_has har n (List.mem_of_getElem? hn), fun H3 sl s5 hsl => ?_⟩
        obtain ⟨vs, hs1, hs2⟩ := hsl
        have s6 := s0.trans s5
        refine ⟨r, sl, vr, vs, rfl, rfl, s5 _ _ hr1, s6 _ _ hs1, ?_, fun p hp => ?_⟩
        · have h6 := hr2.1
          have h7 := hs2.1
          exact le_line (by omega)
        have s7 := same_new (o := .lst (vr ++ vs)) hp
        refine ⟨p, _, rfl, s4.trans (s5.trans s7), ((s3.trans s4).trans s5).free hp, _, upd_same, ?_⟩
        rw [jobT_succ g l hn]
        exact (hr2.imp fun _ _ z => z.same (s5.trans s7)).app (hs2.imp fun _ _ z => z.same (s6.trans s7))
      · rintro σ H2 ⟨r, u, rfl, s4, hr0, hr1⟩
        rw [nvs_len, jobS_T] at hr1
        exact ⟨_, rfl, k _ r (s3.trans s4) hr0 hr1⟩
    refine ⟨_, rfl, Nat.zero_le _, fun l1 hl1 => ?_⟩
    have s2 := same_new (o := .lst []) hl1
    have hb2 := s2 _ _ (s1 _ _ hb)
    refine ⟨sD l, sD [], dp_sent hb2, dp_sent (by show _ = some (HO.lst (nvs [])); exact upd_same), sD_shaped l, sD_shaped [], _, rfl, ?_⟩
    rw [sD_eqv]
    by_cases c : l = []
    · rw [decide_eq_true c]
      have HA2 := HA.same (s1.trans s2)
      obtain ⟨s0, d1, d2, dx, ml, bl, fv, h1, h2, h3, h4, h5⟩ := id HA2
      refine iteF ⟨_, rfl, a, dx, _, rfl, h1, hF_no (by decide +kernel), D, a, fl, g, rfl, HA2, by have := G.fl; omega, fun H1 p s3 hp hkn => ?_⟩
      have e : jobL g l = nums g := if_pos c
      refine ⟨p, rfl, ⟨_, SqL.of hkn⟩, loop H1 p (s2.trans s3) (by rw [e]; exact hkn)⟩
    · rw [decide_eq_false c]
      have e : jobL g l = l := if_neg c
      exact iteT ⟨_, rfl, b, rfl, ⟨_, SqL.of hb2⟩, loop _ b s2 (by rw [e]; exact hb2)⟩
end
end Wc

set_option Elab.async false
set_option linter.all false
set_option maxRecDepth 100000
set_option maxHeartbeats 2000000
namespace Wc
open PySem PySem.Spec PyProof.Rows L2
/-- behind a call: the house is g' (its list of files at fl', what stands still of it D'), all else is as it was -/
structure Moved (K : PySem.W.Frag) (C : Addr) (D H : Hp) (a fl : Addr) (g' : Ut10.St) (H' D' : Hp) (fl' : Addr) : Prop where
  at_ : HouseAt K C D' H' a fl' g'
  sD : Same D D'
  nD : ∀ b o, H b = some o → D b = none → D' b = none
  ke : ∀ b o, H b = some o → b ≠ a → b ≠ fl → H' b = some o
  kt : ∀ b o, H b = some o → ∃ o', H' b = some o'
  nf : fl' = fl ∨ H fl' = none
/-- what a call of the house is to reach: the specification's step, its answer in a new list -/
def Wish (K : PySem.W.Frag) (C : Addr) (D H : Hp) (a fl : Addr) (r : Ut10.St × List Int) (Q : VK) : Prop :=
  ∀ H' D' fl' p, Moved K C D H a fl r.1 H' D' fl' → H p = none → H' p = some (.lst (r.2.map V.int)) → Q (.ref p) H'
theorem upd_kt {H : Hp} {b c : Addr} {o u : HO} (h : H b = some o) : ∃ o', upd H c u b = some o' := by
  by_cases e : b = c
  · subst e; exact ⟨_, upd_same⟩
  · exact ⟨o, by rw [upd_ne e]; exact h⟩
/-- a new object belongs to what stands still -/
theorem same_both {D H : Hp} {t : Addr} {o : HO} (s : Same D H) (h : H t = some o) : Same (upd D t o) H := fun b u e => by
  by_cases c : b = t
  · subst c
    rw [upd_same] at e
    rw [← e]
    exact h
  · rw [upd_ne c] at e
    exact s b u e
section
variable {K : PySem.W.Frag} {C a fl : Addr} {D H H' D' : Hp} {g g' : Ut10.St} {Q : VK}
/-- nothing is changed -/
theorem moved_still (h : HouseAt K C D H a fl g) (s : Same H H') : Moved K C D H a fl g H' D fl :=
  ⟨h.same s, Same.refl _, fun _ _ _ e => e, fun b o e _ _ => s b o e, fun b o e => ⟨o, s b o e⟩, .inl rfl⟩
theorem wish_still {ans : List Int} {r : Ut10.St × List Int} (e : r = (g, ans)) (k : Wish K C D H a fl r Q) (h : HouseAt K C D H a fl g) (s : Same H H') {p : Addr} (hp : H p = none) (hq : H' p = some (.lst (ans.map V.int))) : Q (.ref p) H' := by
  subst e
  exact k H' D fl p (moved_still h s) hp hq
theorem Moved.trans {D1 H1 H2 D2 : Hp} {fl1 fl2 : Addr} {g1 g2 : Ut10.St} (m : Moved K C D H a fl g1 H1 D1 fl1) (n : Moved K C D1 H1 a fl1 g2 H2 D2 fl2) : Moved K C D H a fl g2 H2 D2 fl2 where
  at_ := n.at_
  sD := m.sD.trans n.sD
  nD := fun b o e d => let ⟨o1, e1⟩ := m.kt b o e; n.nD b o1 e1 (m.nD b o e d)
  ke := fun b o e n1 n2 => by
    refine n.ke b o (m.ke b o e n1 n2) n1 ?_
    rcases m.nf with z | z
    · rw [z]; exact n2
    · exact ne_of_none e z
  kt := fun b o e => let ⟨o1, e1⟩ := m.kt b o e; n.kt b o1 e1
  nf := by
    rcases n.nf with z | z
    · rw [z]; exact m.nf
    · right
      cases q : H fl2 with
      | none => rfl
      | some o =>
        obtain ⟨o1, e1⟩ := m.kt _ _ q
        rw [z] at e1
        cases e1
end
theorem neg_one : (-1 : Int) = -(1 : Int) := rfl
section
variable {P : Program} {w : World} {K : PySem.W.Frag} {mg : Str → Option Value} {base : Heap} {C : Addr}
/-! ### add_file -/
def spAddFile (K : PySem.W.Frag) (C : Addr) : Sp := fun vs H Q _ => ∃ (D : Hp) (a fl : Addr) (g : Ut10.St) (sl : Addr) (ss : List Sent), vs = [.ref a, .ref sl] ∧ HouseAt K C D H a fl g ∧ Good g ∧ SentsA D sl ss ∧ ss.length ≤ 10000 ∧ Wish K C D H a fl (Ut10.step g (.file ss)) Q
theorem scAddFile : FnScope ["self", "sentences"] ["self", "sentences"] (defScope sAddFile) := ⟨rfl, rfl, rfl, by decide +kernel, rfl, by decide +kernel, by decide +kernel⟩
theorem all_iff (m : Nat) (ss : List Sent) : (decide (ss.length ≤ m) && ss.all Ut10.sentOk) = true ↔ ¬ (m < ss.length ∨ ss.all Ut10.sentOk = false) := by
  rw [Bool.and_eq_true, decide_eq_true_eq]
  constructor
  · rintro ⟨h1, h2⟩ (q | q)
    · omega
    · rw [h2] at q; cases q
  · intro h
    refine ⟨by omega, ?_⟩
    cases q : ss.all Ut10.sentOk with
    | true => rfl
    | false => exact absurd (.inr q) h
theorem ok_addFile {f : Addr} {fd : FuncData} (F : Fun K "add_file" "House.add_file" sAddFile f fd) (T : Txt mg) (TC : TH K C) (N1 : Num mg "MOST_SENTENCES" 8) (N2 : Num mg "MOST_FILES" 6) (CA : Cal P w K mg base 2 "are_sentences" spAreSentences) (CW : Cal P w K mg base 1 "words_in" spWordsIn) :
    FnOk P w K mg base CX0 3 f fd ["self", "sentences"] (spAddFile K C) := by
  refine F.ok scAddFile (fun vs H Q E h => ?_) (fun cdv A outer s H vs Q E hr h => ?_)
  · obtain ⟨D, a, fl, g, sl, ss, rfl, _⟩ := h
    rfl
  · obtain ⟨D, a, fl, g, sl, ss, rfl, HA, G, hs, hl, k⟩ := h
    refine ⟨_, pss_cons (ps_if (pt_not (pt_val (C8.pe_c CA hr (by decide) (by rfl) (pa_cons (pv 1) (pa_cons (C8.pe_gc (by rfl) N1) pa_nil))))) (pss_one (ps_ret (pe_lst (pa_cons (pe_un un_neg pe_int) pa_nil)))) pss_nil)
      (pss_cons (ps_if (pt_cmpR op_eq (pe_callB call_len_seq (by rfl) T.len PySem.boot_len (pa_cons (pe_fld (pv 0) rfl) pa_nil)) (C8.pe_gc (by rfl) N2) (nomark _)) (pss_one (ps_ret (pe_lst (pa_cons (pe_un un_neg pe_int) pa_nil)))) pss_nil)
      (pss_cons (ps_expr (pe_bm PySem.F.plainAttrs_list PySem.F.slot_list_append PySem.F.type_list_append mt_append (pe_fld (pv 0) rfl) (pa_cons (pe_tup (pa_cons (pe_fld (pv 0) rfl) (pa_cons (pv 1) pa_nil))) pa_nil)))
      (pss_cons (ps_fld (pv 0) (pe_op op_add (pe_fld (pv 0) rfl) pe_int) rfl)
      (pss_one (ps_ret (pe_lst (pa_cons (pe_op op_sub (pe_fld (pv 0) rfl) pe_int) (pa_cons (C8.pe_c CW hr (by decide) (by rfl) (pa_cons (pv 1) pa_nil)) pa_nil)))))))), ?_⟩
    have HA0 := HA
    refine ⟨_, rfl, sl, ss, 8, rfl, hs.same HA.1, hl, fun H1 s1 => ⟨_, rfl, ?_⟩⟩
    by_cases c : 8 < ss.length ∨ ss.all Ut10.sentOk = false
    · have e : (decide (ss.length ≤ 8) && ss.all Ut10.sentOk) = false := by
        cases q : (decide (ss.length ≤ 8) && ss.all Ut10.sentOk) with
        | false => rfl
        | true => exact absurd c ((all_iff 8 ss).mp q)
      rw [e]
      refine iteT ⟨_, rfl, (by show 1 ≤ sizeLine; decide), fun p hp => ?_⟩
      exact wish_still (ans := [-1]) (step_file_bad c) k HA (same_newT s1 hp) (s1.free hp) upd_same
    · have e : (decide (ss.length ≤ 8) && ss.all Ut10.sentOk) = true := (all_iff 8 ss).mpr c
      rw [e]
      have HA1 := HA.same s1
      obtain ⟨s0, d1, d2, dx, ml, bl, fv, h1, h2, h3, h4, h5⟩ := id HA1
      refine iteF ⟨_, rfl, a, C, dx, _, _, rfl, h1, TC.cl, TC.nF, hF_files, fl, _, rfl, .inl (SqL.of h2), rfl, _, rfl, ?_⟩
      have ed : decide (V.int ((fv.length : Nat) : Int) = V.int ((6 : Nat) : Int)) = decide (6 ≤ g.files.length) := by
        have h6 := G.fl
        have h7 := h3.1
        refine decide_eq_decide.mpr ⟨fun q => ?_, fun q => ?_⟩
        · have := V.int.inj q
          omega
        · rw [h7]
          congr 1
          omega
      show (if decide (V.int ((fv.length : Nat) : Int) = V.int ((6 : Nat) : Int)) = true then _ else _)
      rw [ed]
      by_cases c2 : 6 ≤ g.files.length
      · refine ifT (decide_eq_true c2) ⟨_, rfl, (by show 1 ≤ sizeLine; decide), fun p hp => ?_⟩
        exact wish_still (ans := [-5]) (step_file_full c c2) k HA (same_newT s1 hp) (s1.free hp) upd_same
      · refine ifF (decide_eq_false c2) ?_
        refine ⟨_, rfl, a, C, dx, _, _, rfl, h1, TC.cl, TC.nF, hF_files, .inl ⟨rfl, _, SqL.of h2⟩, _, rfl, a, C, dx, _, _, rfl, h1, TC.cl, TC.nG, hF_given, _, rfl, (by show 2 ≤ sizeLine; decide), fun t ht => ?_⟩
        have nta : a ≠ t := ne_of_none h1 ht
        have ntf : fl ≠ t := ne_of_none h2 ht
        have naf : a ≠ fl := ne_of h1 h2 (by intro z; cases z)
        have s2 := same_new (o := .tup [nv g.given, .ref sl]) ht
        refine ⟨fl, fv, _, rfl, rfl, s2 _ _ h2, by rw [h3.1]; exact lt_line (by omega), ?_⟩
        refine ⟨_, rfl, a, C, dx, _, _, rfl, (by rw [upd_ne naf]; exact s2 _ _ h1), TC.cl, TC.nG, hF_given, _, _, rfl, rfl, _, rfl, a, C, dx, _, rfl, (by rw [upd_ne naf]; exact s2 _ _ h1), TC.cl, TC.nG, hF_len, ?_⟩
        have ep : putF "given" (V.int (((g.given : Nat) : Int) + 1)) (hF fl ml bl g.given g.again) = hF fl ml bl (g.given + 1) g.again := hF_setGiven
        rw [ep]
        -- the house as it stands now
        generalize hH2 : upd (upd (upd H1 t (.tup [nv g.given, .ref sl])) fl (.lst (fv ++ [.ref t]))) a (.ins C dx (hF fl ml bl (g.given + 1) g.again)) = H2
        have ha2 : H2 a = some (.ins C dx (hF fl ml bl (g.given + 1) g.again)) := by rw [← hH2]; exact upd_same
        have hf2 : H2 fl = some (.lst (fv ++ [.ref t])) := by rw [← hH2, upd_ne naf.symm]; exact upd_same
        have ht2 : H2 t = some (.tup [nv g.given, .ref sl]) := by rw [← hH2, upd_ne nta.symm, upd_ne ntf.symm]; exact upd_same
        have ke2 : ∀ b o, H1 b = some o → b ≠ a → b ≠ fl → H2 b = some o := fun b o e n1 n2 => by
          rw [← hH2, upd_ne n1, upd_ne n2]
          exact s2 b o e
        have kt2 : ∀ b o, H1 b = some o → ∃ o', H2 b = some o' := fun b o e => by
          by_cases n1 : b = a
          · subst n1; exact ⟨_, ha2⟩
          by_cases n2 : b = fl
          · subst n2; exact ⟨_, hf2⟩
          exact ⟨o, ke2 b o e n1 n2⟩
        have sDH : Same D H2 := fun b o e => ke2 b o (s0 b o e) (fun z => by rw [z, d1] at e; cases e) (fun z => by rw [z, d2] at e; cases e)
        have dt : D t = none := s0.free ht
        have sD := same_new (o := .tup [nv g.given, .ref sl]) dt
        have M : Moved K C D H a fl { g with files := g.files ++ [⟨g.given, ss⟩], given := g.given + 1 } H2 (upd D t (.tup [nv g.given, .ref sl])) fl := by
          refine ⟨⟨same_both sDH ht2, by rw [upd_ne nta]; exact d1, by rw [upd_ne ntf]; exact d2, dx, ml, bl, _, ha2, hf2, (h3.imp fun _ _ q => q.same sD).snoc ⟨t, sl, rfl, upd_same, hs.same sD⟩, h4.same sD, h5.same sD⟩, sD, fun b o e d => ?_, fun b o e n1 n2 => ke2 b o (s1 b o e) n1 n2, fun b o e => kt2 b o (s1 b o e), .inl rfl⟩
          rw [upd_ne (ne_of_none (s1 b o e) ht)]
          exact d
        refine ⟨_, rfl, a, C, dx, _, _, rfl, ha2, TC.cl, TC.nG, hF_given, _, _, rfl, rfl, _, rfl, sl, ss, rfl, hs.same sDH, hl, fun H3 s3 => ⟨(by show 2 ≤ sizeLine; decide), fun p hp => ?_⟩⟩
        have s4 := same_newT (o := .lst [V.int (((g.given + 1 : Nat) : Int) - 1), nv (ss.map fun s => s.length).sum]) s3 hp
        rw [step_file_ok c c2] at k
        have M2 := M.trans (moved_still M.at_ s4)
        have hpH : H p = none := by
          cases q : H p with
          | none => rfl
          | some o =>
            obtain ⟨o2, e2⟩ := kt2 p o (s1 p o q)
            rw [s3 _ _ e2] at hp
            cases hp
        refine k _ _ _ p M2 hpH ?_
        rw [upd_same]
        have eg : ((g.given + 1 : Nat) : Int) - 1 = (g.given : Int) := by omega
        show some (HO.lst [V.int (((g.given + 1 : Nat) : Int) - 1), nv (ss.map fun s => s.length).sum]) = _
        rw [eg]
        rfl
end
end Wc

set_option Elab.async false
set_option linter.all false
set_option maxRecDepth 100000
set_option maxHeartbeats 2000000
namespace Wc
open PySem PySem.Spec PyProof.Rows L2
section
variable {P : Program} {w : World} {K : PySem.W.Frag} {mg : Str → Option Value} {base : Heap} {C : Addr}
theorem files_le {g : Ut10.St} (G : Good g) : g.files.length ≤ 1000 := by have := G.fl; omega
/-- the instance's fields are stored anew: all else stands -/
theorem moved_ins {a fl : Addr} {D H H1 D' : Hp} {g g' : Ut10.St} {dx fl' ml bl : Addr} {fv : List V} {dx0 : Addr} {fs0 : List (Str × V)} (HA : HouseAt K C D H a fl g) (s1 : Same H H1) (h1 : H1 a = some (.ins C dx0 fs0))
    (sD : Same D D') (nD : ∀ b o, H b = some o → D b = none → D' b = none) (s : Same D' H1) (hf : H1 fl' = some (.lst fv)) (df : D' fl' = none) (e1 : AllV (FileV D') fv g'.files) (e2 : SentsA D' ml g'.memory) (e3 : BandsA K D' bl g'.bands)
    (nf : fl' = fl ∨ H fl' = none) : Moved K C D H a fl g' (upd H1 a (.ins C dx (hF fl' ml bl g'.given g'.again))) D' fl' := by
  obtain ⟨s0, d1, d2, dx1, ml1, bl1, fv1, q1, q2, q3, q4, q5⟩ := HA
  have da : D' a = none := nD _ _ q1 d1
  have naf : a ≠ fl' := ne_of h1 hf (by intro z; cases z)
  refine ⟨⟨same_own s da, da, df, dx, ml, bl, fv, upd_same, by rw [upd_ne naf.symm]; exact hf, e1, e2, e3⟩, sD, nD, fun b o e n1 n2 => by rw [upd_ne n1]; exact s1 b o e, fun b o e => upd_kt (s1 b o e), nf⟩
/-! ### gone -/
def spGone (K : PySem.W.Frag) (C : Addr) : Sp := fun vs H Q _ => ∃ (D : Hp) (a fl : Addr) (g : Ut10.St) (n : Nat), vs = [.ref a, nv n] ∧ HouseAt K C D H a fl g ∧ Good g ∧ Wish K C D H a fl (Ut10.step g (.gone n)) Q
theorem scGone : FnScope ["self", "number", "file"] ["self", "number"] (defScope sGone) := ⟨rfl, rfl, rfl, by decide +kernel, rfl, by decide +kernel, by decide +kernel⟩
theorem ok_gone {f : Addr} {fd : FuncData} (F : Fun K "gone" "House.gone" sGone f fd) (T : Txt mg) (TC : TH K C) (CN : Met P w K mg base 1 C "file_numbers" (spFileNumbers K C)) : FnOk P w K mg base CX0 2 f fd ["self", "number"] (spGone K C) := by
  refine F.ok scGone (fun vs H Q E h => ?_) (fun cdv A outer s H vs Q E hr h => ?_)
  · obtain ⟨D, a, fl, g, n, rfl, _⟩ := h
    rfl
  · obtain ⟨D, a, fl, g, n, rfl, HA, G, k⟩ := h
    refine ⟨_, pss_cons (ps_if (pt_cmpR op_notIn_seq (pv 1) (C8.pe_mt0 CN hr (by decide) (pv 0)) (by rfl)) (pss_one (ps_ret (pe_lst (pa_cons (pe_un un_neg pe_int) pa_nil)))) pss_nil)
      (pss_cons (ps_fld (pv 0) (pe_lc (own := [("file", 2)]) (g := gName 2) (tt := tTest (tOp rNe (tOp (rIxT K) (tVar 2) (tC (.int 0))) (tVar 1))) (te := tVar 2) rfl scGone.nd (pi_list (pe_fld (pv 0) rfl))
        (blkOk_by (N := ["self", "number", "file"]) (sc := defScope sGone) (by decide +kernel)) (fun _ _ _ _ _ => pg_name (i := 2) scGone.nd rfl (Or.inl rfl)) (fun _ _ _ _ _ => pts_one (pt_cmpR op_ne (pe_ix ix_tup (pv 2) pe_int (fun _ _ => rfl)) (pv 1) (nomark _)))
        (fun _ _ _ _ _ => pv 2)) rfl)
      (pss_one (ps_ret (pe_lst (pa_cons (pe_callB call_len_seq (by rfl) T.len PySem.boot_len (pa_cons (pe_fld (pv 0) rfl) pa_nil)) pa_nil))))), ?_⟩
    obtain ⟨s0, d1, d2, dx, ml, bl, fv, h1, h2, h3, h4, h5⟩ := id HA
    refine ⟨_, rfl, _, rfl, a, dx, _, rfl, h1, hF_no (by decide +kernel), D, a, fl, g, rfl, HA, files_le G, fun H1 q s1 hq hkn => ?_⟩
    refine ⟨q, _, rfl, .inl (SqL.of hkn), rfl, flat_nvs _, _, rfl, ?_⟩
    rw [if_pos rfl, in_nvs]
    cases c : has g n with
    | false =>
      have c2 : (nums g).contains n = false := c
      rw [c2]
      refine iteT ⟨_, rfl, (by show 1 ≤ sizeLine; decide), fun p hp => ?_⟩
      exact wish_still (ans := [-2]) (step_gone_no c) k HA (same_newT s1 hp) (s1.free hp) upd_same
    | true =>
      have c2 : (nums g).contains n = true := c
      rw [c2]
      have h1' := s1 _ _ h1
      have h2' := s1 _ _ h2
      refine iteF ⟨_, rfl, a, C, dx, _, _, rfl, h1', TC.cl, TC.nF, hF_files, fl, rfl, ⟨_, SqL.of h2'⟩, fun D0 hD => lc_list (K := K) (a := fl) (xs := fv)
        (fun i H' => Same H1 H' ∧ ∃ acc, H' D0 = some (.lst acc) ∧ AllV (FileV D) acc ((g.files.take i).filter fun f => f.number != n)) ⟨same_new hD, [], upd_same, AllV.nil⟩ (fun i H' _ ⟨s2, _⟩ => SqL.of (s2 _ _ h2')) ?_ ?_⟩
      · rintro i x H2 hx ⟨s2, acc, ha, hb⟩
        obtain ⟨fi, hfi, hV⟩ := h3.getV hx
        obtain ⟨t, sl, rfl, ht, hsl⟩ := id hV
        have ht1 := s2 _ _ (s1 _ _ (s0 _ _ ht))
        refine ⟨rfl, _, rfl, t, _, 0, nv fi.number, rfl, rfl, SqT.of ht1, atI_nat (j := 0) rfl, _, rfl, rfl, _, rfl, ?_⟩
        rw [nv_eq]
        have e := filter_more (fun f : Ut10.File => f.number != n) hfi
        by_cases c3 : fi.number = n
        · rw [if_neg (by simpa using c3), List.append_nil] at e
          refine iteNS c3 ⟨s2, acc, ha, ?_⟩
          rw [e]
          exact hb
        · rw [if_pos (by simpa using c3)] at e
          refine ifT (by rw [decide_eq_false c3]; rfl) ⟨_, rfl, acc, ha, ?_, same_own s2 hD, _, upd_same, ?_⟩
          · have h6 := List.length_filter_le (fun f : Ut10.File => f.number != n) (g.files.take i)
            have h7 := List.length_take_le' i g.files
            have h8 := hb.1
            have h9 := files_le G
            exact lt_line (by omega)
          · rw [e]
            exact hb.snoc hV
      · rintro H2 ⟨s2, acc, ha, hb⟩
        rw [h3.1, List.take_length] at hb
        have s3 := s1.trans s2
        have h1'' := s3 _ _ h1
        refine ⟨_, rfl, a, C, dx, _, rfl, h1'', TC.cl, TC.nF, hF_len, ?_⟩
        rw [hF_setFiles]
        have M := moved_ins (g' := { g with files := g.files.filter fun f => f.number != n }) (dx := dx) (fl' := D0) HA s3 h1'' (Same.refl D) (fun _ _ _ e => e) (s0.trans s3) ha (s0.free (s1.free hD)) hb h4 h5 (.inr (s1.free hD))
        obtain ⟨_, _, _, dx2, ml2, bl2, fv2, q1, q2, q3, _, _⟩ := id M.at_
        refine ⟨_, rfl, a, C, dx, _, _, rfl, upd_same, TC.cl, TC.nF, hF_files, D0, _, rfl, .inl (SqL.of (by rw [upd_ne (ne_of h1'' ha (by intro z; cases z)).symm]; exact ha)), (by show 1 ≤ sizeLine; decide), fun p hp => ?_⟩
        have s4 := same_new (o := .lst [V.int ((acc.length : Nat) : Int)]) hp
        rw [step_gone_ok c] at k
        have hpH : H p = none := by
          cases q : H p with
          | none => rfl
          | some o =>
            obtain ⟨o2, e2⟩ := M.kt p o q
            rw [e2] at hp
            cases hp
        refine k _ _ _ p (M.trans (moved_still M.at_ s4)) hpH ?_
        rw [upd_same, hb.1]
        rfl
/-! ### set_memory -/
def spSetMemory (K : PySem.W.Frag) (C : Addr) : Sp := fun vs H Q _ => ∃ (D : Hp) (a fl : Addr) (g : Ut10.St) (sl : Addr) (ss : List Sent), vs = [.ref a, .ref sl] ∧ HouseAt K C D H a fl g ∧ Good g ∧ SentsA D sl ss ∧ ss.length ≤ 10000 ∧ Wish K C D H a fl (Ut10.step g (.memory ss)) Q
theorem scSetMemory : FnScope ["self", "sentences"] ["self", "sentences"] (defScope sSetMemory) := ⟨rfl, rfl, rfl, by decide +kernel, rfl, by decide +kernel, by decide +kernel⟩
theorem all_no {m : Nat} {ss : List Sent} (c : m < ss.length ∨ ss.all Ut10.sentOk = false) : (decide (ss.length ≤ m) && ss.all Ut10.sentOk) = false := by
  cases q : (decide (ss.length ≤ m) && ss.all Ut10.sentOk) with
  | false => rfl
  | true => exact absurd c ((all_iff m ss).mp q)
theorem ok_setMemory {f : Addr} {fd : FuncData} (F : Fun K "set_memory" "House.set_memory" sSetMemory f fd) (T : Txt mg) (TC : TH K C) (N1 : Num mg "MOST_MEMORY" 20) (CA : Cal P w K mg base 2 "are_sentences" spAreSentences) :
    FnOk P w K mg base CX0 3 f fd ["self", "sentences"] (spSetMemory K C) := by
  refine F.ok scSetMemory (fun vs H Q E h => ?_) (fun cdv A outer s H vs Q E hr h => ?_)
  · obtain ⟨D, a, fl, g, sl, ss, rfl, _⟩ := h
    rfl
  · obtain ⟨D, a, fl, g, sl, ss, rfl, HA, G, hs, hl, k⟩ := h
    refine ⟨_, pss_cons (ps_if (pt_not (pt_val (C8.pe_c CA hr (by decide) (by rfl) (pa_cons (pv 1) (pa_cons (C8.pe_gc (by rfl) N1) pa_nil))))) (pss_one (ps_ret (pe_lst (pa_cons (pe_un un_neg pe_int) pa_nil)))) pss_nil)
      (pss_cons (ps_fld (pv 0) (pv 1) rfl)
      (pss_one (ps_ret (pe_lst (pa_cons (pe_callB call_len_seq (by rfl) T.len PySem.boot_len (pa_cons (pv 1) pa_nil)) pa_nil))))), ?_⟩
    obtain ⟨s0, d1, d2, dx, ml, bl, fv, h1, h2, h3, h4, h5⟩ := id HA
    refine ⟨_, rfl, sl, ss, 20, rfl, hs.same s0, hl, fun H1 s1 => ⟨_, rfl, ?_⟩⟩
    by_cases c : 20 < ss.length ∨ ss.all Ut10.sentOk = false
    · rw [all_no c]
      refine iteT ⟨_, rfl, (by show 1 ≤ sizeLine; decide), fun p hp => ?_⟩
      exact wish_still (ans := [-1]) (step_memory_bad c) k HA (same_newT s1 hp) (s1.free hp) upd_same
    · rw [(all_iff 20 ss).mpr c]
      refine iteF ⟨_, rfl, _, rfl, a, C, dx, _, rfl, s1 _ _ h1, TC.cl, TC.nM, hF_len, ?_⟩
      rw [hF_setMemory]
      have M := moved_ins (g' := { g with memory := ss }) (dx := dx) (fl' := fl) (ml := sl) HA s1 (s1 _ _ h1) (Same.refl D) (fun _ _ _ e => e) (s0.trans s1) (s1 _ _ h2) d2 h3 hs h5 (.inl rfl)
      obtain ⟨vs, hv1, hv2⟩ := id hs
      refine ⟨_, rfl, sl, vs, rfl, .inl (SqL.of (M.at_.1 _ _ hv1)), (by show 1 ≤ sizeLine; decide), fun p hp => ?_⟩
      have s4 := same_new (o := .lst [V.int ((vs.length : Nat) : Int)]) hp
      rw [step_memory_ok c] at k
      have hpH : H p = none := by
        cases q : H p with
        | none => rfl
        | some o =>
          obtain ⟨o2, e2⟩ := M.kt p o q
          rw [e2] at hp
          cases hp
      refine k _ _ _ p (M.trans (moved_still M.at_ s4)) hpH ?_
      rw [upd_same, hv2.1]
      rfl
/-! ### rates -/
def spRates (K : PySem.W.Frag) (C : Addr) : Sp := fun vs H Q _ => ∃ (D : Hp) (a fl : Addr) (g : Ut10.St) (n : Nat) (sl : Addr) (bs : List Band), vs = [.ref a, nv n, .ref sl] ∧ HouseAt K C D H a fl g ∧ Good g ∧ BandsA K D sl bs ∧ Wish K C D H a fl (Ut10.step g (.rates n bs)) Q
theorem scRates : FnScope ["self", "again", "bands"] ["self", "again", "bands"] (defScope sRates) := ⟨rfl, rfl, rfl, by decide +kernel, rfl, by decide +kernel, by decide +kernel⟩
theorem ok_rates {f : Addr} {fd : FuncData} (F : Fun K "rates" "House.rates" sRates f fd) (T : Txt mg) (TC : TH K C) (N1 : Num mg "HUNDREDTHS" 100) (CB : Cal P w K mg base 1 "are_bands" (spAreBands K)) :
    FnOk P w K mg base CX0 2 f fd ["self", "again", "bands"] (spRates K C) := by
  refine F.ok scRates (fun vs H Q E h => ?_) (fun cdv A outer s H vs Q E hr h => ?_)
  · obtain ⟨D, a, fl, g, n, sl, bs, rfl, _⟩ := h
    rfl
  · obtain ⟨D, a, fl, g, n, sl, bs, rfl, HA, G, hs, k⟩ := h
    refine ⟨_, pss_cons (ps_if (PW.pt (pw_or (pt_cmpR op_gt (pv 1) (C8.pe_gc (by rfl) N1) (nomark _)) (pw_or1 (pt_not (pt_val (C8.pe_c CB hr (by decide) (by rfl) (pa_cons (pv 2) pa_nil))))))) (pss_one (ps_ret (pe_lst (pa_cons (pe_un un_neg pe_int) pa_nil)))) pss_nil)
      (pss_cons (ps_fld (pv 0) (pv 1) rfl)
      (pss_cons (ps_fld (pv 0) (pv 2) rfl)
      (pss_one (ps_ret (pe_lst (pa_cons pe_int pa_nil)))))), ?_⟩
    obtain ⟨s0, d1, d2, dx, ml, bl, fv, h1, h2, h3, h4, h5⟩ := id HA
    refine ⟨_, rfl, _, _, rfl, rfl, _, rfl, ?_⟩
    by_cases c : 100 < n
    · refine ifT (decide_eq_true (by omega)) (iteT ⟨_, rfl, (by show 1 ≤ sizeLine; decide), fun p hp => ?_⟩)
      exact wish_still (ans := [-1]) (step_rates_bad (.inl c)) k HA (same_new hp) hp upd_same
    · refine ifF (decide_eq_false (by omega)) ⟨_, rfl, sl, bs, rfl, hs.same s0, fun H1 s1 => ⟨_, rfl, ?_⟩⟩
      cases c2 : arb bs with
      | false =>
        refine iteT ⟨_, rfl, (by show 1 ≤ sizeLine; decide), fun p hp => ?_⟩
        exact wish_still (ans := [-1]) (step_rates_bad (.inr c2)) k HA (same_newT s1 hp) (s1.free hp) upd_same
      | true =>
        refine iteF ⟨_, rfl, _, rfl, a, C, dx, _, rfl, s1 _ _ h1, TC.cl, TC.nA, hF_len, ?_⟩
        rw [hF_setAgain]
        refine ⟨_, rfl, _, rfl, a, C, dx, _, rfl, upd_same, TC.cl, TC.nB, hF_len, ?_⟩
        rw [hF_setBands, upd_upd]
        have M := moved_ins (g' := { g with again := n, bands := bs }) (dx := dx) (fl' := fl) (ml := ml) (bl := sl) HA s1 (s1 _ _ h1) (Same.refl D) (fun _ _ _ e => e) (s0.trans s1) (s1 _ _ h2) d2 h3 h4 hs (.inl rfl)
        refine ⟨(by show 1 ≤ sizeLine; decide), fun p hp => ?_⟩
        have s4 := same_new (o := .lst [V.int 0]) hp
        rw [step_rates_ok c c2] at k
        have hpH : H p = none := by
          cases q : H p with
          | none => rfl
          | some o =>
            obtain ⟨o2, e2⟩ := M.kt p o q
            rw [e2] at hp
            cases hp
        exact k _ _ _ p (M.trans (moved_still M.at_ s4)) hpH upd_same
/-! ### done -/
def spDone (K : PySem.W.Frag) (C : Addr) : Sp := fun vs H Q _ => ∃ (D : Hp) (a fl : Addr) (g : Ut10.St) (n : Nat), vs = [.ref a, nv n] ∧ HouseAt K C D H a fl g ∧ Good g ∧ Wish K C D H a fl (Ut10.step g (.done n)) Q
theorem scDone : FnScope ["self", "number", "memory", "sentence"] ["self", "number"] (defScope sDone) := ⟨rfl, rfl, rfl, by decide +kernel, rfl, by decide +kernel, by decide +kernel⟩
theorem ok_done {f : Addr} {fd : FuncData} (F : Fun K "done" "House.done" sDone f fd) (T : Txt mg) (TC : TH K C) (N1 : Num mg "MOST_MEMORY" 20) (CN : Met P w K mg base 1 C "file_numbers" (spFileNumbers K C)) (CO : Met P w K mg base 1 C "file_of" (spFileOf K C)) (CG : Met P w K mg base 2 C "gone" (spGone K C)) :
    FnOk P w K mg base CX0 3 f fd ["self", "number"] (spDone K C) := by
  refine F.ok scDone (fun vs H Q E h => ?_) (fun cdv A outer s H vs Q E hr h => ?_)
  · obtain ⟨D, a, fl, g, n, rfl, _⟩ := h
    rfl
  · obtain ⟨D, a, fl, g, n, rfl, HA, G, k⟩ := h
    have hu := room65 hr
    refine ⟨_, pss_cons (ps_if (pt_cmpR op_notIn_seq (pv 1) (C8.pe_mt0 CN hr (by decide) (pv 0)) (by rfl)) (pss_one (ps_ret (pe_lst (pa_cons (pe_un un_neg pe_int) pa_nil)))) pss_nil)
      (pss_cons (ps_set (i := 2) scDone.nd rfl (Or.inl rfl) (pe_callTy call_list_of (by rfl) T.list (by decide +kernel) (pa_cons (pe_fld (pv 0) rfl) pa_nil)))
      (pss_cons (ps_for PassesOwn.never rfl (pi_list (C8.pe_mt CO hr (by decide) (pv 0) (pa_cons (pv 1) pa_nil))) (pg_name (i := 3) scDone.nd rfl (Or.inl rfl))
        (pss_one (ps_if (pt_cmpR (op_notInD hu) (pv 3) (pv 2) (by rfl)) (pss_one (ps_expr (pe_bm PySem.F.plainAttrs_list PySem.F.slot_list_append PySem.F.type_list_append mt_append (pv 2) (pa_cons (pv 3) pa_nil)))) pss_nil)))
      (pss_cons (ps_if (pt_cmpR op_gt (pe_callB call_len_seq (by rfl) T.len PySem.boot_len (pa_cons (pv 2) pa_nil)) (C8.pe_gc (by rfl) N1) (nomark _)) (pss_one (ps_ret (pe_lst (pa_cons (pe_un un_neg pe_int) pa_nil)))) pss_nil)
      (pss_cons (ps_fld (pv 0) (pv 2) rfl)
      (pss_one (ps_ret (pe_op op_cat (C8.pe_mt CG hr (by decide) (pv 0) (pa_cons (pv 1) pa_nil)) (pe_lst (pa_cons (pe_callB call_len_seq (by rfl) T.len PySem.boot_len (pa_cons (pv 2) pa_nil)) pa_nil))))))))), ?_⟩
    obtain ⟨s0, d1, d2, dx, ml, bl, fv, h1, h2, h3, h4, h5⟩ := id HA
    refine ⟨_, rfl, _, rfl, a, dx, _, rfl, h1, hF_no (by decide +kernel), D, a, fl, g, rfl, HA, files_le G, fun H1 q s1 hq hkn => ?_⟩
    refine ⟨q, _, rfl, .inl (SqL.of hkn), rfl, flat_nvs _, _, rfl, ?_⟩
    rw [if_pos rfl, in_nvs]
    cases c : has g n with
    | false =>
      have c2 : (nums g).contains n = false := c
      rw [c2]
      refine iteT ⟨_, rfl, (by show 1 ≤ sizeLine; decide), fun p hp => ?_⟩
      exact wish_still (ans := [-2]) (step_done_no c) k HA (same_newT s1 hp) (s1.free hp) upd_same
    | true =>
      have c2 : (nums g).contains n = true := c
      rw [c2]
      obtain ⟨vm, hm1, hm2⟩ := id h4
      refine iteF ⟨_, rfl, a, C, dx, _, _, rfl, s1 _ _ h1, TC.cl, TC.nM, hF_memory, ml, vm, rfl, .inl (SqL.of (s1 _ _ (s0 _ _ hm1))), fun m hm => ?_⟩
      have hmH := s1.free hm
      have hmD := s0.free hmH
      have s2 := same_newT (o := .lst vm) s1 hm
      have HA2 := HA.same s2
      refine ⟨_, rfl, a, dx, _, rfl, s2 _ _ h1, hF_no (by decide +kernel), _, rfl, D, a, fl, g, n, rfl, HA2, files_le G, c, fun H2 sl s3 hsl => ?_⟩
      obtain ⟨vs, hs1, hs2⟩ := id hsl
      have s4 := s2.trans s3
      have jn := good_job G n
      have hsl2 : H2 sl = some (.lst vs) := s4 _ _ (s0 _ _ hs1)
      refine ⟨sl, rfl, ⟨_, SqL.of hsl2⟩, for_list (K := K) (a := sl) (xs := vs) (fun i σ H' => ∃ (u : Option V) (vl : List V), σ = [some (.ref a), some (nv n), some (.ref m), u] ∧ Same H H' ∧ H' m = some (.lst vl) ∧ AllV (SentV D) vl (dnT g.memory (sOf g n) i))
        ⟨none, vm, rfl, s4, s3 _ _ upd_same, hm2⟩ (fun i σ H' _ ⟨_, _, _, s5, _⟩ => SqL.of (s5 _ _ (s0 _ _ hs1))) ?_ ?_⟩
      · rintro i x σ H3 hx ⟨u, vl, rfl, s5, hm5, al5⟩
        obtain ⟨sn, hsn, da, rfl, hda⟩ := hs2.getV hx
        have hi := (List.getElem?_eq_some_iff.mp hsn).1
        have s6 := s0.trans s5
        have hl5 := dnT_len g.memory (sOf g n) i (by omega)
        have hml := G.ml
        refine ⟨_, rfl, _, rfl, sD sn, (dnT g.memory (sOf g n) i).map sD, dp_sent (s6 _ _ hda), dp_sents ⟨vl, hm5, al5.imp fun _ _ z => z.same s6⟩, sD_shaped sn, sDs_shaped _, _, rfl, ?_⟩
        rw [any_sD]
        have e := dnT_succ g.memory (sOf g n) hsn
        unfold dnF at e
        cases c3 : (dnT g.memory (sOf g n) i).contains sn with
        | true =>
          rw [c3, if_pos rfl] at e
          exact iteF ⟨_, vl, rfl, s5, hm5, by rw [e]; exact al5⟩
        | false =>
          rw [c3, if_neg Bool.false_ne_true] at e
          refine iteT ⟨_, rfl, .inl ⟨rfl, _, SqL.of hm5⟩, _, rfl, m, vl, _, rfl, rfl, hm5, ?_, _, _, rfl, same_own s5 hmH, upd_same, ?_⟩
          · have := al5.1
            exact lt_line (by omega)
          · rw [e]
            exact al5.snoc ⟨da, rfl, hda⟩
      · rintro σ H3 ⟨u, vl, rfl, s5, hm5, al5⟩
        rw [hs2.1] at al5
        have al6 : AllV (SentV D) vl (dm g n) := al5
        refine ⟨_, rfl, m, vl, rfl, .inl (SqL.of hm5), _, _, rfl, rfl, _, rfl, ?_⟩
        rw [al6.1]
        by_cases c4 : 20 < (dm g n).length
        · refine ifT (decide_eq_true (by omega)) ⟨_, rfl, (by show 1 ≤ sizeLine; decide), fun p hp => ?_⟩
          exact wish_still (ans := [-5]) (step_done_full c c4) k HA (same_newT s5 hp) (s5.free hp) upd_same
        · refine ifF (decide_eq_false (by omega)) ⟨_, rfl, _, rfl, a, C, dx, _, rfl, s5 _ _ h1, TC.cl, TC.nM, hF_len, ?_⟩
          rw [hF_setMemory]
          have sD := same_new (o := .lst vl) hmD
          have nma : a ≠ m := ne_of_none h1 hmH
          have nmf : fl ≠ m := ne_of_none h2 hmH
          have M := moved_ins (g' := { g with memory := dm g n }) (dx := dx) (fl' := fl) (ml := m) (D' := upd D m (.lst vl)) HA s5 (s5 _ _ h1) sD (fun b o e d => by rw [upd_ne (ne_of_none e hmH)]; exact d) (same_both (s0.trans s5) hm5) (s5 _ _ h2) (by rw [upd_ne nmf]; exact d2)
            (h3.imp fun _ _ z => z.same sD) ⟨vl, upd_same, al6.imp fun _ _ z => z.same sD⟩ (h5.same sD) (.inl rfl)
          have G2 : Good { g with memory := dm g n } := good_memory G (by omega) (dnT_ok G.ms jn.2 _ (Nat.le_refl _))
          obtain ⟨_, _, _, dx3, ml3, bl3, fv3, q1, q2, q3, _, _⟩ := id M.at_
          refine ⟨_, rfl, a, dx, _, rfl, upd_same, hF_no (by decide +kernel), _, rfl, upd D m (.lst vl), a, fl, _, n, rfl, M.at_, G2, fun H4 D4 fl4 p4 M4 hp4 h4p => ?_⟩
          have hc : has { g with memory := dm g n } n = true := c
          rw [step_gone_ok hc] at M4 h4p
          have hm4 : H4 m = some (.lst vl) := M4.ke _ _ (by rw [upd_ne nma.symm]; exact hm5) nma.symm nmf.symm
          refine ⟨_, rfl, m, vl, rfl, .inl (SqL.of hm4), (by show 1 ≤ sizeLine; decide), fun r hr => ?_⟩
          have s7 := same_new (o := .lst [V.int ((vl.length : Nat) : Int)]) hr
          refine ⟨p4, r, _, _, rfl, rfl, s7 _ _ h4p, upd_same, (by show 1 + 1 ≤ sizeLine; decide), fun t ht => ?_⟩
          have s8 := same_newT (o := .lst ((Ut10.ints [(g.files.filter fun f => f.number != n).length]).map V.int ++ [V.int ((vl.length : Nat) : Int)])) s7 ht
          rw [step_done_ok c c4] at k
          have M5 := M.trans M4
          have htH : H t = none := by
            cases q : H t with
            | none => rfl
            | some o =>
              obtain ⟨o2, e2⟩ := M5.kt t o q
              rw [s7 _ _ e2] at ht
              cases ht
          refine k _ _ _ t (M5.trans (moved_still M5.at_ s8)) htH ?_
          have e9 : upd (upd H4 r (.lst [V.int ((vl.length : Nat) : Int)])) t (.lst ((Ut10.ints [(g.files.filter fun f => f.number != n).length]).map V.int ++ [V.int ((vl.length : Nat) : Int)])) t = some (.lst ((Ut10.ints [(g.files.filter fun f => f.number != n).length]).map V.int ++ [V.int ((vl.length : Nat) : Int)])) := upd_same
          rw [al6.1] at e9
          rw [al6.1]
          exact e9
end
end Wc

set_option Elab.async false
set_option linter.all false
set_option maxRecDepth 100000
set_option maxHeartbeats 2000000
namespace Wc
open PySem PySem.Spec PyProof.Rows L2
theorem ints_nvs (l : List Nat) : (Ut10.ints l).map V.int = nvs l := by
  unfold Ut10.ints nvs
  rw [List.map_map]; rfl
section
variable {P : Program} {w : World} {K : PySem.W.Frag} {mg : Str → Option Value} {base : Heap} {C : Addr}
theorem jobOk_jobS {g : Ut10.St} (G : Good g) {l : List Nat} (hl : l.length ≤ 1000) : JobOk g.memory (jobS g l) := by
  have j := jobS_ok G l
  have h1 := jobL_len G hl
  have h2 := G.ml
  exact ⟨fun x hx => sent_pos (j.2 x hx), fun x hx => (sent_pos (G.ms x hx)).2, by omega⟩
/-! ### count -/
def spCount (K : PySem.W.Frag) (C : Addr) : Sp := fun vs H Q _ => ∃ (D : Hp) (a fl b : Addr) (g : Ut10.St) (l : List Nat), vs = [.ref a, .ref b] ∧ HouseAt K C D H a fl g ∧ Good g ∧ H b = some (.lst (nvs l)) ∧ l.length ≤ 1000 ∧ Wish K C D H a fl (Ut10.step g (.count l)) Q
theorem scCount : FnScope ["self", "numbers", "counts"] ["self", "numbers"] (defScope sCount) := ⟨rfl, rfl, rfl, by decide +kernel, rfl, by decide +kernel, by decide +kernel⟩
theorem ok_count {f : Addr} {fd : FuncData} (F : Fun K "count" "House.count" sCount f fd) (T : Txt mg) (TC : TH K C) (CA : Met P w K mg base 2 C "are_files" (spAreFiles K C)) (CJ : Met P w K mg base 2 C "job" (spJob K C)) (CC : Cal P w K mg base 7 "counts_of" (spCountsOf K)) (CW : Cal P w K mg base 2 "weight" (spWeight K)) :
    FnOk P w K mg base CX0 8 f fd ["self", "numbers"] (spCount K C) := by
  refine F.ok scCount (fun vs H Q E h => ?_) (fun cdv A outer s H vs Q E hr h => ?_)
  · obtain ⟨D, a, fl, b, g, l, rfl, _⟩ := h
    rfl
  · obtain ⟨D, a, fl, b, g, l, rfl, HA, G, hb, hl, k⟩ := h
    refine ⟨_, pss_cons (ps_if (pt_not (pt_val (C8.pe_mt CA hr (by decide) (pv 0) (pa_cons (pv 1) pa_nil)))) (pss_one (ps_ret (pe_lst (pa_cons (pe_un un_neg pe_int) pa_nil)))) pss_nil)
      (pss_cons (ps_set (i := 2) scCount.nd rfl (Or.inl rfl) (C8.pe_c CC hr (by decide) (by rfl) (pa_cons (C8.pe_mt CJ hr (by decide) (pv 0) (pa_cons (pv 1) pa_nil)) (pa_cons (pe_fld (pv 0) rfl) (pa_cons (pe_fld (pv 0) rfl) pa_nil)))))
      (pss_one (ps_ret (pe_op op_cat (pe_lst (pa_cons (C8.pe_c CW hr (by decide) (by rfl) (pa_cons (pv 2) (pa_cons (pe_fld (pv 0) rfl) (pa_cons (pe_fld (pv 0) rfl) pa_nil)))) pa_nil)) (pv 2))))), ?_⟩
    obtain ⟨s0, d1, d2, dx, ml, bl, fv, h1, h2, h3, h4, h5⟩ := id HA
    refine ⟨_, rfl, a, dx, _, rfl, h1, hF_no (by decide +kernel), _, rfl, D, a, fl, b, g, l, rfl, HA, files_le G, hb, hl, fun H1 s1 => ⟨_, rfl, ?_⟩⟩
    cases c : arf g l with
    | false =>
      refine iteT ⟨_, rfl, (by show 1 ≤ sizeLine; decide), fun p hp => ?_⟩
      exact wish_still (ans := [-2]) (step_count_no c) k HA (same_newT s1 hp) (s1.free hp) upd_same
    | true =>
      have HA1 := HA.same s1
      refine iteF ⟨_, rfl, a, dx, _, rfl, s1 _ _ h1, hF_no (by decide +kernel), _, rfl, D, a, fl, b, g, l, rfl, HA1, G, s1 _ _ hb, hl, c, fun H2 q s2 hq hj => ?_⟩
      have s3 := s1.trans s2
      refine ⟨_, rfl, a, C, dx, _, _, rfl, s3 _ _ h1, TC.cl, TC.nM, hF_memory, _, rfl, a, C, dx, _, _, rfl, s3 _ _ h1, TC.cl, TC.nB, hF_bands, q, ml, bl, jobS g l, g.memory, g.bands, rfl, hj, h4.same (s0.trans s3), h5.same (s0.trans s3), jobOk_jobS G hl, by have := G.bl; omega, fun H3 r s4 hr0 hr1 => ?_⟩
      have s5 := s3.trans s4
      have hcl := cts_len (jobS g l) g.memory g.bands
      have hbl := G.bl
      refine ⟨_, rfl, _, rfl, a, C, dx, _, _, rfl, s5 _ _ h1, TC.cl, TC.nA, hF_again, _, rfl, a, C, dx, _, _, rfl, s5 _ _ h1, TC.cl, TC.nB, hF_bands, r, bl, _, g.again, g.bands, rfl, hr1, h5.same (s0.trans s5), fun n hn => ?_, by omega, fun H4 s6 => ⟨(by show 1 ≤ sizeLine; decide), fun t ht => ?_⟩⟩
      · have j := jobOk_jobS G hl
        have := cts_le (memory := g.memory) (bs := g.bands) (fun x hx => (j.1 x hx).2) n hn
        have := j.2.2
        omega
      have s7 := same_new (o := .lst [nv (wt (cts (jobS g l) g.memory g.bands) g.again g.bands)]) ht
      refine ⟨_, rfl, t, r, _, _, rfl, rfl, upd_same, s7 _ _ (s6 _ _ hr1), ?_, fun p hp => ?_⟩
      · rw [nvs_len]
        show 1 + _ ≤ _
        exact le_line (by omega)
      refine wish_still (step_count_ok G c) k HA (same_newT (s5.trans (s6.trans s7)) hp) ((s5.trans (s6.trans s7)).free hp) ?_
      rw [upd_same, ints_nvs]
      rfl
/-! ### kinds -/
def spKinds (K : PySem.W.Frag) (C : Addr) : Sp := fun vs H Q _ => ∃ (D : Hp) (a fl b : Addr) (g : Ut10.St) (l : List Nat), vs = [.ref a, .ref b] ∧ HouseAt K C D H a fl g ∧ Good g ∧ H b = some (.lst (nvs l)) ∧ l.length ≤ 1000 ∧ Wish K C D H a fl (Ut10.step g (.kinds l)) Q
theorem scKinds : FnScope ["self", "numbers", "found"] ["self", "numbers"] (defScope sKinds) := ⟨rfl, rfl, rfl, by decide +kernel, rfl, by decide +kernel, by decide +kernel⟩
theorem ok_kinds {f : Addr} {fd : FuncData} (F : Fun K "kinds" "House.kinds" sKinds f fd) (T : Txt mg) (TC : TH K C) (CA : Met P w K mg base 2 C "are_files" (spAreFiles K C)) (CJ : Met P w K mg base 2 C "job" (spJob K C)) (CK : Cal P w K mg base 6 "kinds_of" (spKindsOf K)) :
    FnOk P w K mg base CX0 7 f fd ["self", "numbers"] (spKinds K C) := by
  refine F.ok scKinds (fun vs H Q E h => ?_) (fun cdv A outer s H vs Q E hr h => ?_)
  · obtain ⟨D, a, fl, b, g, l, rfl, _⟩ := h
    rfl
  · obtain ⟨D, a, fl, b, g, l, rfl, HA, G, hb, hl, k⟩ := h
    refine ⟨_, pss_cons (ps_if (pt_not (pt_val (C8.pe_mt CA hr (by decide) (pv 0) (pa_cons (pv 1) pa_nil)))) (pss_one (ps_ret (pe_lst (pa_cons (pe_un un_neg pe_int) pa_nil)))) pss_nil)
      (pss_cons (ps_set (i := 2) scKinds.nd rfl (Or.inl rfl) (C8.pe_c CK hr (by decide) (by rfl) (pa_cons (C8.pe_mt CJ hr (by decide) (pv 0) (pa_cons (pv 1) pa_nil)) (pa_cons (pe_fld (pv 0) rfl) (pa_cons (pe_fld (pv 0) rfl) pa_nil)))))
      (pss_one (ps_ret (pe_op op_cat (pe_lst (pa_cons (pe_callB call_len_seq (by rfl) T.len PySem.boot_len (pa_cons (pv 2) pa_nil)) pa_nil)) (pv 2))))), ?_⟩
    obtain ⟨s0, d1, d2, dx, ml, bl, fv, h1, h2, h3, h4, h5⟩ := id HA
    refine ⟨_, rfl, a, dx, _, rfl, h1, hF_no (by decide +kernel), _, rfl, D, a, fl, b, g, l, rfl, HA, files_le G, hb, hl, fun H1 s1 => ⟨_, rfl, ?_⟩⟩
    cases c : arf g l with
    | false =>
      refine iteT ⟨_, rfl, (by show 1 ≤ sizeLine; decide), fun p hp => ?_⟩
      exact wish_still (ans := [-2]) (step_kinds_no c) k HA (same_newT s1 hp) (s1.free hp) upd_same
    | true =>
      have HA1 := HA.same s1
      refine iteF ⟨_, rfl, a, dx, _, rfl, s1 _ _ h1, hF_no (by decide +kernel), _, rfl, D, a, fl, b, g, l, rfl, HA1, G, s1 _ _ hb, hl, c, fun H2 q s2 hq hj => ?_⟩
      have s3 := s1.trans s2
      refine ⟨_, rfl, a, C, dx, _, _, rfl, s3 _ _ h1, TC.cl, TC.nM, hF_memory, _, rfl, a, C, dx, _, _, rfl, s3 _ _ h1, TC.cl, TC.nB, hF_bands, q, ml, bl, jobS g l, g.memory, g.bands, rfl, hj, h4.same (s0.trans s3), h5.same (s0.trans s3), jobOk_jobS G hl, fun H3 r s4 hr0 hr1 => ?_⟩
      have s5 := s3.trans s4
      have hkl := kds_len g.bands g.memory (jobS g l)
      have j := jobOk_jobS G hl
      refine ⟨_, rfl, r, _, rfl, .inl (SqL.of hr1), (by show 1 ≤ sizeLine; decide), fun t ht => ?_⟩
      have s7 := same_new (o := .lst [V.int (((nvs (kds g.bands g.memory (jobS g l))).length : Nat) : Int)]) ht
      refine ⟨_, rfl, t, r, _, _, rfl, rfl, upd_same, s7 _ _ hr1, ?_, fun p hp => ?_⟩
      · rw [nvs_len]
        have := j.2.2
        show 1 + _ ≤ _
        exact le_line (by omega)
      refine wish_still (step_kinds_ok G c) k HA (same_newT (s5.trans s7) hp) ((s5.trans s7).free hp) ?_
      rw [upd_same, ints_nvs, nvs_len]
      rfl
/-! ### part -/
def spPart (K : PySem.W.Frag) (C : Addr) : Sp := fun vs H Q _ => ∃ (D : Hp) (a fl : Addr) (g : Ut10.St) (h : Nat), vs = [.ref a, nv h] ∧ HouseAt K C D H a fl g ∧ Good g ∧ Wish K C D H a fl (Ut10.step g (.part h)) Q
theorem scPart : FnScope ["self", "hands", "weights", "file", "deal", "found"] ["self", "hands"] (defScope sPart) := ⟨rfl, rfl, rfl, by decide +kernel, rfl, by decide +kernel, by decide +kernel⟩
theorem ok_part {f : Addr} {fd : FuncData} (F : Fun K "part" "House.part" sPart f fd) (T : Txt mg) (TC : TH K C) (N1 : Num mg "MOST_HANDS" 4) (CC : Cal P w K mg base 7 "counts_of" (spCountsOf K)) (CW : Cal P w K mg base 2 "weight" (spWeight K)) (CB : Cal P w K mg base 2 "best_deal" spBestDeal) (CL : Cal P w K mg base 1 "loads" spLoads) :
    FnOk P w K mg base CX0 8 f fd ["self", "hands"] (spPart K C) := by
  refine F.ok scPart (fun vs H Q E h => ?_) (fun cdv A outer s H vs Q E hr h => ?_)
  · obtain ⟨D, a, fl, g, n, rfl, _⟩ := h
    rfl
  · obtain ⟨D, a, fl, g, n, rfl, HA, G, k⟩ := h
    refine ⟨_, pss_cons (ps_if (pt_not (pt_chain op_le op_le pe_int (pv 1) (C8.pe_gc (by rfl) N1))) (pss_one (ps_ret (pe_lst (pa_cons (pe_un un_neg pe_int) pa_nil)))) pss_nil)
      (pss_cons (ps_set (i := 2) scPart.nd rfl (Or.inl rfl) (pe_lst pa_nil))
      (pss_cons (ps_for PassesOwn.never rfl (pi_list (pe_fld (pv 0) rfl)) (pg_name (i := 3) scPart.nd rfl (Or.inl rfl))
        (pss_one (ps_expr (pe_bm PySem.F.plainAttrs_list PySem.F.slot_list_append PySem.F.type_list_append mt_append (pv 2) (pa_cons
          (C8.pe_c CW hr (by decide) (by rfl) (pa_cons (C8.pe_c CC hr (by decide) (by rfl) (pa_cons (pe_ix ix_tup (pv 3) pe_int (fun _ _ => rfl)) (pa_cons (pe_fld (pv 0) rfl) (pa_cons (pe_fld (pv 0) rfl) pa_nil)))) (pa_cons (pe_fld (pv 0) rfl) (pa_cons (pe_fld (pv 0) rfl) pa_nil)))) pa_nil)))))
      (pss_cons (ps_set (i := 4) scPart.nd rfl (Or.inl rfl) (C8.pe_c CB hr (by decide) (by rfl) (pa_cons (pv 2) (pa_cons (pv 1) pa_nil))))
      (pss_cons (ps_set (i := 5) scPart.nd rfl (Or.inl rfl) (C8.pe_c CL hr (by decide) (by rfl) (pa_cons (pv 4) (pa_cons (pv 2) (pa_cons (pv 1) pa_nil)))))
      (pss_one (ps_ret (pe_op op_cat (pe_lst (pa_cons (pe_callB (cr_max rfl) (by rfl) T.max (by decide +kernel) (pa_cons (pv 5) pa_nil)) (pa_cons (pe_callB (cr_min rfl) (by rfl) T.min (by decide +kernel) (pa_cons (pv 5) pa_nil)) pa_nil))) (pv 4)))))))), ?_⟩
    obtain ⟨s0, d1, d2, dx, ml, bl, fv, h1, h2, h3, h4, h5⟩ := id HA
    have bad : ¬ (1 ≤ n ∧ n ≤ 4) → tRet (tLst (tCons (tUn (rU fun i => .int (-i)) (tC (.int 1))) tNil)) { nx := fun _ H' => Q .non H', rt := Q } (L2.start ["self", "hands", "weights", "file", "deal", "found"] [.ref a, nv n]) H := fun c =>
      ⟨_, rfl, (by show 1 ≤ sizeLine; decide), fun p hp => wish_still (ans := [-1]) (step_part_bad c) k HA (same_new hp) hp upd_same⟩
    refine ⟨_, rfl, _, _, rfl, rfl, _, rfl, ?_⟩
    by_cases c1 : 1 ≤ n
    · refine ifT (decide_eq_true (by omega)) ⟨_, _, rfl, rfl, _, rfl, ?_⟩
      by_cases c2 : n ≤ 4
      · have c : 1 ≤ n ∧ n ≤ 4 := ⟨c1, c2⟩
        refine ifF (by rw [decide_eq_true (by omega)]; rfl) ⟨Nat.zero_le _, fun l hl => ?_⟩
        have s1 := same_new (o := .lst []) hl
        have hfl := G.fl
        have hbl := G.bl
        have hml := G.ml
        refine ⟨_, rfl, a, C, dx, _, _, rfl, s1 _ _ h1, TC.cl, TC.nF, hF_files, fl, rfl, ⟨_, SqL.of (s1 _ _ h2)⟩, for_list (K := K) (a := fl) (xs := fv)
          (fun i σ H' => ∃ (u : Option V), σ = [some (.ref a), some (nv n), some (.ref l), u, none, none] ∧ Same H H' ∧ H' l = some (.lst (nvs ((ws g).take i)))) ⟨none, rfl, s1, upd_same⟩ (fun i σ H' _ ⟨_, _, s2, _⟩ => SqL.of (s2 _ _ h2)) ?_ ?_⟩
        · rintro i x σ H2 hx ⟨u, rfl, s2, hl2⟩
          obtain ⟨fi, hfi, t, sl, rfl, ht, hsl⟩ := h3.getV hx
          have hmem := List.mem_of_getElem? hfi
          have gs := G.ss fi hmem
          have s3 := s0.trans s2
          refine ⟨_, rfl, .inl ⟨rfl, _, SqL.of hl2⟩, _, rfl, t, _, 1, .ref sl, rfl, rfl, SqT.of (s3 _ _ ht), atI_nat (j := 1) rfl, _, rfl, a, C, dx, _, _, rfl, s2 _ _ h1, TC.cl, TC.nM, hF_memory, _, rfl, a, C, dx, _, _, rfl, s2 _ _ h1, TC.cl, TC.nB, hF_bands, sl, ml, bl, fi.sents, g.memory, g.bands, rfl, hsl.same s3, h4.same s3, h5.same s3,
            ⟨fun z hz => sent_pos (gs.2 z hz), fun z hz => (sent_pos (G.ms z hz)).2, by omega⟩, by omega, fun H3 r s4 hr0 hr1 => ?_⟩
          have s5 := s2.trans s4
          have hcl := cts_len fi.sents g.memory g.bands
          refine ⟨_, rfl, a, C, dx, _, _, rfl, s5 _ _ h1, TC.cl, TC.nA, hF_again, _, rfl, a, C, dx, _, _, rfl, s5 _ _ h1, TC.cl, TC.nB, hF_bands, r, bl, _, g.again, g.bands, rfl, hr1, h5.same (s0.trans s5), fun m hm => ?_, by omega, fun H4 s6 => ?_⟩
          · have := cts_le (memory := g.memory) (bs := g.bands) (fun z hz => (sent_pos (gs.2 z hz)).2) m hm
            omega
          have e : (ws g)[i]? = some (wt (cts fi.sents g.memory g.bands) g.again g.bands) := by unfold ws; rw [List.getElem?_map, hfi]; rfl
          refine ⟨l, _, _, rfl, rfl, (s4.trans s6) _ _ hl2, ?_, _, rfl, same_own (s5.trans s6) hl, ?_⟩
          · rw [nvs_len]
            have := List.length_take_le' i (ws g)
            have e2 : (ws g).length = g.files.length := by unfold ws; rw [List.length_map]
            exact lt_line (by omega)
          · rw [upd_same, take_more e, nvs_app]
            rfl
        · rintro σ H2 ⟨u, rfl, s2, hl2⟩
          have e2 : (ws g).length = g.files.length := by unfold ws; rw [List.length_map]
          rw [h3.1, ← e2, List.take_length] at hl2
          refine ⟨_, rfl, _, rfl, l, ws g, n, rfl, hl2, by omega, by omega, c2, fun H3 q s3 hq => ?_⟩
          have hbd := bd_ok (w := ws g) (hands := n) (by omega)
          refine ⟨_, rfl, _, rfl, _, rfl, q, l, bd (ws g) n, ws g, n, rfl, hq, s3 _ _ hl2, hbd.1, hbd.2, by omega, fun H4 r s4 hr0 hr1 => ?_⟩
          have s5 := (s2.trans s3).trans s4
          have h0 : 0 < (ld (bd (ws g) n) (ws g) n).length := by rw [ld_len]; omega
          refine ⟨_, rfl, ?_⟩
          dsimp only [tNil]
          refine max_nvs hr1 h0 ⟨_, rfl, ?_⟩
          dsimp only [tNil]
          refine min_nvs hr1 h0 ⟨(by show 2 ≤ sizeLine; decide), fun t ht => ?_⟩
          have s6 := same_new (o := .lst [nv (Ut10.most (ld (bd (ws g) n) (ws g) n)), nv (Ut10.fewest (ld (bd (ws g) n) (ws g) n))]) ht
          refine ⟨_, rfl, t, q, _, _, rfl, rfl, upd_same, s6 _ _ (s4 _ _ hq), ?_, fun p hp => ?_⟩
          · rw [nvs_len]
            show 2 + _ ≤ _
            exact le_line (by omega)
          refine wish_still (step_part_ok G c) k HA (same_newT (s5.trans s6) hp) ((s5.trans s6).free hp) ?_
          rw [upd_same, ints_nvs, nvs_app]
          rfl
      · exact ifT (by rw [decide_eq_false (by omega)]; rfl) (bad (by omega))
    · exact ifF (decide_eq_false (by omega)) ⟨_, rfl, iteT (bad (by omega))⟩
/-! ### near -/
def spHNear (K : PySem.W.Frag) (C : Addr) : Sp := fun vs H Q _ => ∃ (D : Hp) (a fl : Addr) (g : Ut10.St) (sl : Addr) (x y : Sent), vs = [.ref a, .ref sl] ∧ HouseAt K C D H a fl g ∧ Good g ∧ SentsA D sl [x, y] ∧ Wish K C D H a fl (Ut10.step g (.near x y)) Q
theorem scHNear : FnScope ["self", "sentences"] ["self", "sentences"] (defScope sHNear) := ⟨rfl, rfl, rfl, by decide +kernel, rfl, by decide +kernel, by decide +kernel⟩
theorem ok_hNear {f : Addr} {fd : FuncData} (F : Fun K "near" "House.near" sHNear f fd) (T : Txt mg) (TC : TH K C) (CA : Cal P w K mg base 2 "are_sentences" spAreSentences) (CN : Cal P w K mg base 3 "near_nearness" spNear) :
    FnOk P w K mg base CX0 4 f fd ["self", "sentences"] (spHNear K C) := by
  refine F.ok scHNear (fun vs H Q E h => ?_) (fun cdv A outer s H vs Q E hr h => ?_)
  · obtain ⟨D, a, fl, g, sl, x, y, rfl, _⟩ := h
    rfl
  · obtain ⟨D, a, fl, g, sl, x, y, rfl, HA, G, hs, k⟩ := h
    refine ⟨_, pss_cons (ps_if (pt_not (pt_val (C8.pe_c CA hr (by decide) (by rfl) (pa_cons (pv 1) (pa_cons pe_int pa_nil))))) (pss_one (ps_ret (pe_lst (pa_cons (pe_un un_neg pe_int) pa_nil)))) pss_nil)
      (pss_one (ps_ret (pe_lst (pa_cons (C8.pe_c CN hr (by decide) (by rfl) (pa_cons (pe_ix ix_list (pv 1) pe_int (fun _ _ => rfl)) (pa_cons (pe_ix ix_list (pv 1) pe_int (fun _ _ => rfl)) pa_nil))) pa_nil)))), ?_⟩
    refine ⟨_, rfl, sl, [x, y], 2, rfl, hs.same HA.1, by show 2 ≤ 10000; decide, fun H1 s1 => ⟨_, rfl, ?_⟩⟩
    by_cases c : Ut10.sentOk x = false ∨ Ut10.sentOk y = false
    · have e : ([x, y] : List Sent).all Ut10.sentOk = false := by
        show (Ut10.sentOk x && (Ut10.sentOk y && true)) = false
        rcases c with q | q
        · rw [q]; rfl
        · rw [q, Bool.false_and, Bool.and_false]
      rw [e, Bool.and_false]
      refine iteT ⟨_, rfl, (by show 1 ≤ sizeLine; decide), fun p hp => ?_⟩
      exact wish_still (ans := [-1]) (step_near_bad c) k HA (same_newT s1 hp) (s1.free hp) upd_same
    · have c1 : Ut10.sentOk x = true := by
        cases q : Ut10.sentOk x with
        | true => rfl
        | false => exact absurd (.inl q) c
      have c2 : Ut10.sentOk y = true := by
        cases q : Ut10.sentOk y with
        | true => rfl
        | false => exact absurd (.inr q) c
      have e : (decide (([x, y] : List Sent).length ≤ 2) && ([x, y] : List Sent).all Ut10.sentOk) = true := by
        show (true && (Ut10.sentOk x && (Ut10.sentOk y && true))) = true
        rw [c1, c2]
        rfl
      rw [e]
      obtain ⟨vs, hv1, hv2⟩ := hs
      have s2 : Same D H1 := HA.1.trans s1
      obtain ⟨v0, e0, a0, rfl, h0⟩ := hv2.get (i := 0) (x := x) rfl
      obtain ⟨v1, e1, a1, rfl, h1⟩ := hv2.get (i := 1) (x := y) rfl
      have p1 := sent_pos c1
      have p2 := sent_pos c2
      refine iteF ⟨_, rfl, sl, vs, 0, _, rfl, rfl, SqL.of (s2 _ _ hv1), atI_nat (j := 0) e0, _, rfl, sl, vs, 1, _, rfl, rfl, SqL.of (s2 _ _ hv1), atI_nat (j := 1) e1, a0, a1, x, y, rfl, s2 _ _ h0, s2 _ _ h1, p2.2, p1.1, p1.2, fun H2 s3 => ⟨(by show 1 ≤ sizeLine; decide), fun p hp => ?_⟩⟩
      exact wish_still (ans := Ut10.ints [nr x y]) (step_near_ok c1 c2) k HA (same_newT (s1.trans s3) hp) ((s1.trans s3).free hp) upd_same
/-! ### shows -/
def spShows (K : PySem.W.Frag) (C : Addr) : Sp := fun vs H Q _ => ∃ (D : Hp) (a fl : Addr) (g : Ut10.St), vs = [.ref a] ∧ HouseAt K C D H a fl g ∧ Good g ∧ Wish K C D H a fl (Ut10.step g .shows) Q
theorem scShows : FnScope ["self", "found", "file"] ["self"] (defScope sShows) := ⟨rfl, rfl, rfl, by decide +kernel, rfl, by decide +kernel, by decide +kernel⟩
theorem ok_shows {f : Addr} {fd : FuncData} (F : Fun K "shows" "House.shows" sShows f fd) (T : Txt mg) (TC : TH K C) : FnOk P w K mg base CX0 1 f fd ["self"] (spShows K C) := by
  refine F.ok scShows (fun vs H Q E h => ?_) (fun cdv A outer s H vs Q E hr h => ?_)
  · obtain ⟨D, a, fl, g, rfl, _⟩ := h
    rfl
  · obtain ⟨D, a, fl, g, rfl, HA, G, k⟩ := h
    refine ⟨_, pss_cons (ps_set (i := 1) scShows.nd rfl (Or.inl rfl) (pe_lst (pa_cons (pe_callB call_len_seq (by rfl) T.len PySem.boot_len (pa_cons (pe_fld (pv 0) rfl) pa_nil)) (pa_cons (pe_callB call_len_seq (by rfl) T.len PySem.boot_len (pa_cons (pe_fld (pv 0) rfl) pa_nil)) pa_nil))))
      (pss_cons (ps_for PassesOwn.never rfl (pi_list (pe_fld (pv 0) rfl)) (pg_name (i := 2) scShows.nd rfl (Or.inl rfl))
        (pss_one (ps_set (i := 1) scShows.nd rfl (Or.inl rfl) (pe_op op_cat (pv 1) (pe_lst (pa_cons (pe_ix ix_tup (pv 2) pe_int (fun _ _ => rfl)) (pa_cons (pe_callB call_len_seq (by rfl) T.len PySem.boot_len (pa_cons (pe_ix ix_tup (pv 2) pe_int (fun _ _ => rfl)) pa_nil)) pa_nil)))))))
      (pss_one (ps_ret (pv 1)))), ?_⟩
    obtain ⟨s0, d1, d2, dx, ml, bl, fv, h1, h2, h3, h4, h5⟩ := id HA
    obtain ⟨vm, hm1, hm2⟩ := id h4
    have hfl := G.fl
    refine ⟨_, rfl, a, C, dx, _, _, rfl, h1, TC.cl, TC.nF, hF_files, fl, _, rfl, .inl (SqL.of h2), _, rfl, a, C, dx, _, _, rfl, h1, TC.cl, TC.nM, hF_memory, ml, _, rfl, .inl (SqL.of (s0 _ _ hm1)), (by show 2 ≤ sizeLine; decide), fun l hl => ?_⟩
    have s1 := same_new (o := .lst [V.int ((fv.length : Nat) : Int), V.int ((vm.length : Nat) : Int)]) hl
    refine ⟨_, rfl, a, C, dx, _, _, rfl, s1 _ _ h1, TC.cl, TC.nF, hF_files, fl, rfl, ⟨_, SqL.of (s1 _ _ h2)⟩, for_list (K := K) (a := fl) (xs := fv)
      (fun i σ H' => ∃ (r : Addr) (u : Option V), σ = [some (.ref a), some (.ref r), u] ∧ Same H H' ∧ H r = none ∧ H' r = some (.lst (nvs (shT g i)))) ⟨l, none, rfl, s1, hl, ?_⟩ (fun i σ H' _ ⟨_, _, _, s2, _⟩ => SqL.of (s2 _ _ h2)) ?_ ?_⟩
    · rw [upd_same, h3.1, hm2.1]
      unfold shT
      rw [List.take_zero]
      rfl
    · rintro i x σ H2 hx ⟨r, u, rfl, s2, hr0, hr1⟩
      obtain ⟨fi, hfi, t, sl, rfl, ht, hsl⟩ := h3.getV hx
      have hi := (List.getElem?_eq_some_iff.mp hfi).1
      have s3 := s0.trans s2
      obtain ⟨vs, hs1, hs2⟩ := id hsl
      refine ⟨_, rfl, _, rfl, t, _, 0, nv fi.number, rfl, rfl, SqT.of (s3 _ _ ht), atI_nat (j := 0) rfl, _, rfl, t, _, 1, .ref sl, rfl, rfl, SqT.of (s3 _ _ ht), atI_nat (j := 1) rfl, sl, vs, rfl, .inl (SqL.of (s3 _ _ hs1)), (by show 2 ≤ sizeLine; decide), fun q hq => ?_⟩
      have s4 := same_new (o := .lst [nv fi.number, V.int ((vs.length : Nat) : Int)]) hq
      have hsl := shT_len (g := g) i (by omega)
      refine ⟨r, q, _, _, rfl, rfl, s4 _ _ hr1, upd_same, ?_, fun p hp => ?_⟩
      · rw [nvs_len, hsl]
        show _ + 2 ≤ _
        exact le_line (by omega)
      refine ⟨p, _, rfl, same_newT (s2.trans s4) hp, (s2.trans s4).free hp, ?_⟩
      rw [upd_same, shT_succ hfi, nvs_app, hs2.1]
      rfl
    · rintro σ H2 ⟨r, u, rfl, s2, hr0, hr1⟩
      refine ⟨_, rfl, ?_⟩
      refine wish_still step_shows k HA s2 hr0 ?_
      rw [hr1, ints_nvs, h3.1]
/-! ### House.__init__ -/
/-- a tuple of the text's own -/
def KT (K : PySem.W.Frag) (a : Addr) (xs : List V) : Prop := ∃ (o : Obj) (its : Array Value) (n : Nat), K.lookup a = some o ∧ o.cls = .type "tuple" ∧ o.data = .seq its n ∧ its.size ≤ sizeLine ∧ Vals xs its.toList
theorem KT.sq {a : Addr} {xs : List V} {H : Hp} (h : KT K a xs) : SqT K H a xs := .inr h
/-- the text's BANDS -/
structure TB (K : PySem.W.Frag) (mg : Str → Option Value) : Prop where
  ex : ∃ (t t1 t2 : Addr), mg "BANDS" = some (.ref t) ∧ KT K t [.ref t1, .ref t2] ∧ KT K t1 [nv 100, nv 10] ∧ KT K t2 [nv 75, nv 60]
def spHInit (K : PySem.W.Frag) (C : Addr) : Sp := fun vs H Q _ => ∃ (p dx : Addr), vs = [.ref p] ∧ H p = some (.ins C dx []) ∧
  ∀ (H' D : Hp) (fl : Addr), HouseAt K C D H' p fl Ut10.init → (∀ b o, H b = some o → b ≠ p → H' b = some o) → (∀ b o, H b = some o → D b = none) → H fl = none → Q .non H'
theorem scHInit : FnScope ["self"] ["self"] (defScope sHInit) := ⟨rfl, rfl, rfl, by decide +kernel, rfl, by decide +kernel, by decide +kernel⟩
theorem hF_new {fl ml bl : Addr} : putF "again" (nv 20) (putF "bands" (.ref bl) (putF "memory" (.ref ml) (putF "given" (nv 0) (putF "files" (.ref fl) [])))) = hF fl ml bl 0 20 := by
  have e1 : putF "files" (V.ref fl) [] = [(("files" : Str), V.ref fl)] := rfl
  have e2 : putF "given" (nv 0) [(("files" : Str), V.ref fl)] = [(("files" : Str), V.ref fl), ("given", nv 0)] := (put_past (by decide +kernel)).trans rfl
  have e3 : putF "memory" (.ref ml) [(("files" : Str), V.ref fl), ("given", nv 0)] = [(("files" : Str), V.ref fl), ("given", nv 0), ("memory", V.ref ml)] := (put_past (by decide +kernel)).trans (congrArg _ ((put_past (by decide +kernel)).trans rfl))
  have e4 : putF "bands" (.ref bl) [(("files" : Str), V.ref fl), ("given", nv 0), ("memory", V.ref ml)] = [(("files" : Str), V.ref fl), ("given", nv 0), ("memory", V.ref ml), ("bands", V.ref bl)] :=
    (put_past (by decide +kernel)).trans (congrArg _ ((put_past (by decide +kernel)).trans (congrArg _ ((put_past (by decide +kernel)).trans rfl))))
  have e5 : putF "again" (nv 20) [(("files" : Str), V.ref fl), ("given", nv 0), ("memory", V.ref ml), ("bands", V.ref bl)] = [(("files" : Str), V.ref fl), ("given", nv 0), ("memory", V.ref ml), ("bands", V.ref bl), ("again", nv 20)] :=
    (put_past (by decide +kernel)).trans (congrArg _ ((put_past (by decide +kernel)).trans (congrArg _ ((put_past (by decide +kernel)).trans (congrArg _ ((put_past (by decide +kernel)).trans rfl))))))
  rw [e1, e2, e3, e4, e5]
  rfl
theorem ok_hInit {f : Addr} {fd : FuncData} (F : Fun K "__init__" "House.__init__" sHInit f fd) (T : Txt mg) (TC : TH K C) (B : TB K mg) (N1 : Num mg "AGAIN" 20) : FnOk P w K mg base CX0 1 f fd ["self"] (spHInit K C) := by
  refine F.ok scHInit (fun vs H Q E h => ?_) (fun cdv A outer s H vs Q E hr h => ?_)
  · obtain ⟨p, dx, rfl, _⟩ := h
    rfl
  · obtain ⟨p, dx, rfl, hp, k⟩ := h
    obtain ⟨t, t1, t2, hmg, kt, kt1, kt2⟩ := B.ex
    refine ⟨_, pss_cons (ps_fld (pv 0) (pe_lst pa_nil) rfl) (pss_cons (ps_fld (pv 0) pe_int rfl) (pss_cons (ps_fld (pv 0) (pe_lst pa_nil) rfl)
      (pss_cons (ps_fld (pv 0) (pe_callTy call_list_of (by rfl) T.list (by decide +kernel) (pa_cons (pe_glob (v := .ref t) (by rfl) hmg rfl) pa_nil)) rfl) (pss_one (ps_fld (pv 0) (C8.pe_gc (by rfl) N1) rfl))))), ?_⟩
    refine ⟨Nat.zero_le _, fun fl hfl => ?_⟩
    have npf : p ≠ fl := ne_of_none hp hfl
    refine ⟨_, rfl, p, C, dx, [], rfl, by rw [upd_ne npf]; exact hp, TC.cl, TC.nF, (by show 0 < 1000; decide), ?_⟩
    refine ⟨_, rfl, p, C, dx, _, rfl, upd_same, TC.cl, TC.nG, (by show 1 < 1000; decide), ?_⟩
    rw [upd_upd]
    refine ⟨Nat.zero_le _, fun ml hml => ?_⟩
    generalize hH1 : upd (upd H fl (.lst [])) p (.ins C dx (putF "given" (V.int 0) (putF "files" (.ref fl) []))) = H1 at hml ⊢
    have hp1 : H1 p = some (.ins C dx (putF "given" (V.int 0) (putF "files" (.ref fl) []))) := by rw [← hH1]; exact upd_same
    have hf1 : H1 fl = some (.lst []) := by rw [← hH1, upd_ne npf.symm]; exact upd_same
    have ke1 : ∀ b o, H b = some o → b ≠ p → H1 b = some o := fun b o e n => by rw [← hH1, upd_ne n]; exact same_new hfl b o e
    have npm : p ≠ ml := ne_of_none hp1 hml
    have nfm : fl ≠ ml := ne_of_none hf1 hml
    refine ⟨_, rfl, p, C, dx, _, rfl, by rw [upd_ne npm]; exact hp1, TC.cl, TC.nM, (by show 2 < 1000; decide), ?_⟩
    generalize hH2 : upd (upd H1 ml (.lst [])) p (.ins C dx (putF "memory" (.ref ml) (putF "given" (V.int 0) (putF "files" (.ref fl) [])))) = H2
    have hp2 : H2 p = some (.ins C dx (putF "memory" (.ref ml) (putF "given" (V.int 0) (putF "files" (.ref fl) [])))) := by rw [← hH2]; exact upd_same
    have hf2 : H2 fl = some (.lst []) := by rw [← hH2, upd_ne npf.symm, upd_ne nfm]; exact hf1
    have hm2 : H2 ml = some (.lst []) := by rw [← hH2, upd_ne npm.symm]; exact upd_same
    have ke2 : ∀ b o, H b = some o → b ≠ p → H2 b = some o := fun b o e n => by rw [← hH2, upd_ne n]; exact same_new hml b o (ke1 b o e n)
    refine ⟨t, _, rfl, .inr kt.sq, fun bl hbl => ?_⟩
    have npb : p ≠ bl := ne_of_none hp2 hbl
    have nfb : fl ≠ bl := ne_of_none hf2 hbl
    have nmb : ml ≠ bl := ne_of_none hm2 hbl
    refine ⟨_, rfl, p, C, dx, _, rfl, by rw [upd_ne npb]; exact hp2, TC.cl, TC.nB, (by show 3 < 1000; decide), ?_⟩
    refine ⟨_, rfl, p, C, dx, _, rfl, upd_same, TC.cl, TC.nA, (by show 4 < 1000; decide), ?_⟩
    rw [upd_upd]
    have ef : putF "again" (nv 20) (putF "bands" (.ref bl) (putF "memory" (.ref ml) (putF "given" (V.int 0) (putF "files" (.ref fl) [])))) = hF fl ml bl 0 20 := hF_new
    rw [ef]
    generalize hH3 : upd (upd H2 bl (.lst [.ref t1, .ref t2])) p (.ins C dx (hF fl ml bl 0 20)) = H3
    have hp3 : H3 p = some (.ins C dx (hF fl ml bl 0 20)) := by rw [← hH3]; exact upd_same
    have hf3 : H3 fl = some (.lst []) := by rw [← hH3, upd_ne npf.symm, upd_ne nfb]; exact hf2
    have hm3 : H3 ml = some (.lst []) := by rw [← hH3, upd_ne npm.symm, upd_ne nmb]; exact hm2
    have hb3 : H3 bl = some (.lst [.ref t1, .ref t2]) := by rw [← hH3, upd_ne npb.symm]; exact upd_same
    have ke3 : ∀ b o, H b = some o → b ≠ p → H3 b = some o := fun b o e n => by rw [← hH3, upd_ne n]; exact same_new hbl b o (ke2 b o e n)
    have fresh : ∀ b o, H b = some o → b ≠ ml ∧ b ≠ bl := fun b o e => by
      by_cases c : b = p
      · subst c; exact ⟨npm, npb⟩
      · exact ⟨ne_of_none (ke1 b o e c) hml, ne_of_none (ke2 b o e c) hbl⟩
    have dn : ∀ b, b ≠ ml → b ≠ bl → upd (upd (fun _ => none) ml (.lst [])) bl (.lst [.ref t1, .ref t2]) b = none := fun b n1 n2 => by
      rw [upd_ne n2, upd_ne n1]
    refine k H3 (upd (upd (fun _ => none) ml (.lst [])) bl (.lst [.ref t1, .ref t2])) fl ⟨same_both (same_both (fun b o e => by cases e) hm3) hb3, dn p npm npb, dn fl nfm nfb, dx, ml, bl, [], hp3, hf3, AllV.nil, ⟨[], by rw [upd_ne nmb]; exact upd_same, AllV.nil⟩, ⟨_, upd_same, AllV.cons ⟨t1, rfl, kt1.sq⟩ (AllV.cons ⟨t2, rfl, kt2.sq⟩ AllV.nil)⟩⟩
      ke3 (fun b o e => dn b (fresh b o e).1 (fresh b o e).2) hfl
end
end Wc

set_option Elab.async false
set_option linter.all false
set_option maxRecDepth 100000
set_option maxHeartbeats 2000000
namespace Wc
open PySem PySem.Spec PyProof.Rows L2
/-! ### the reader in the heap -/
def rF (nl : Addr) (spot : Nat) : List (Str × V) := [("numbers", .ref nl), ("spot", nv spot)]
section
variable {nl : Addr} {spot n : Nat}
theorem rF_numbers : (rF nl spot).lookup ("numbers" : Str) = some (.ref nl) := lk_here
theorem rF_spot : (rF nl spot).lookup ("spot" : Str) = some (nv spot) := (lk_past (by decide +kernel)).trans lk_here
theorem rF_no {m : Str} (h : (["numbers", "spot"] : List Str).all (fun k => !(m == k)) = true) : (rF nl spot).lookup m = none := look_no h
theorem rF_setSpot : putF "spot" (nv n) (rF nl spot) = rF nl n := (put_past (by decide +kernel)).trans (congrArg _ put_here)
theorem rF_new : putF "spot" (nv 0) (putF "numbers" (.ref nl) []) = rF nl 0 := (put_past (by decide +kernel)).trans rfl
theorem rF_len : (rF nl spot).length < 1000 := by show 2 < 1000; decide
end
def ReaderAt (C : Addr) (H : Hp) (r nl : Addr) (ms : List Nat) (spot : Nat) : Prop := ∃ dx, H r = some (.ins C dx (rF nl spot)) ∧ H nl = some (.lst (nvs ms))
/-- all but the reader is as it was -/
def Kept (r : Addr) (H H' : Hp) : Prop := ∀ b o, H b = some o → b ≠ r → H' b = some o
theorem Kept.trans {r : Addr} {H H1 H2 : Hp} (a : Kept r H H1) (b : Kept r H1 H2) : Kept r H H2 := fun c o e n => b c o (a c o e n) n
theorem Same.kept {r : Addr} {H H1 : Hp} (a : Same H H1) : Kept r H H1 := fun c o e _ => a c o e
/-- what is new behind was not there ahead -/
theorem Kept.free {C r nl : Addr} {H H' : Hp} {ms : List Nat} {spot : Nat} (k : Kept r H H') (R : ReaderAt C H' r nl ms spot) {p : Addr} (h : H' p = none) : H p = none := by
  cases q : H p with
  | none => rfl
  | some o =>
    by_cases e : p = r
    · obtain ⟨dx, h1, _⟩ := R
      rw [e, h1] at h
      cases h
    · rw [k p o q e] at h
      cases h
theorem ReaderAt.same {C r nl : Addr} {H H' : Hp} {ms : List Nat} {spot : Nat} (R : ReaderAt C H r nl ms spot) (s : Same H H') : ReaderAt C H' r nl ms spot := let ⟨dx, h1, h2⟩ := R; ⟨dx, s _ _ h1, s _ _ h2⟩
structure TR (K : PySem.W.Frag) (C : Addr) : Prop where
  cl : Cls K C
  nN : NoAttr K C "numbers"
  nS : NoAttr K C "spot"
theorem enc_app (l m : List Sent) : enc (l ++ m) = enc l ++ enc m := by unfold enc; rw [List.flatMap_append]
theorem enc_lt {ss : List Sent} {i : Nat} : (enc (ss.take i)).length < (enc ss).length ↔ i < ss.length := by
  have e : enc ss = enc (ss.take i) ++ enc (ss.drop i) := by rw [← enc_app, List.take_append_drop]
  rw [e, List.length_append]
  constructor
  · intro h
    by_cases c : i < ss.length
    · exact c
    · rw [List.drop_eq_nil_of_le (by omega)] at h
      have : (enc ([] : List Sent)).length = 0 := rfl
      omega
  · intro h
    have e2 : ss.drop i = ss[i] :: ss.drop (i + 1) := List.drop_eq_getElem_cons h
    rw [e2, enc_cons, List.length_cons]
    omega
theorem drop_at {ms l : List Nat} {spot : Nat} {x : Nat} (h : ms.drop spot = x :: l) : ms[spot]? = some x ∧ ms.drop (spot + 1) = l ∧ spot < ms.length := by
  have h1 : ms[spot]? = some x := by
    have : (ms.drop spot)[0]? = some x := by rw [h]; rfl
    rw [List.getElem?_drop, Nat.add_zero] at this
    exact this
  refine ⟨h1, ?_, (List.getElem?_eq_some_iff.mp h1).1⟩
  rw [← List.drop_drop, h]
  rfl
theorem drop_app {ms l m : List Nat} {spot : Nat} (h : ms.drop spot = l ++ m) : ms.drop (spot + l.length) = m := by
  rw [← List.drop_drop, h, List.drop_left]
section
variable {P : Program} {w : World} {K : PySem.W.Frag} {mg : Str → Option Value} {base : Heap} {C : Addr}
/-! ### Reader.__init__ -/
def spRInit (C : Addr) : Sp := fun vs H Q _ => ∃ (p dx nl : Addr) (ms : List Nat), vs = [.ref p, .ref nl] ∧ H p = some (.ins C dx []) ∧ H nl = some (.lst (nvs ms)) ∧ ∀ H', ReaderAt C H' p nl ms 0 → Kept p H H' → Q .non H'
theorem scRInit : FnScope ["self", "numbers"] ["self", "numbers"] (defScope sRInit) := ⟨rfl, rfl, rfl, by decide +kernel, rfl, by decide +kernel, by decide +kernel⟩
theorem ok_rInit {f : Addr} {fd : FuncData} (F : Fun K "__init__" "Reader.__init__" sRInit f fd) (TC : TR K C) : FnOk P w K mg base CX0 1 f fd ["self", "numbers"] (spRInit C) := by
  refine F.ok scRInit (fun vs H Q E h => ?_) (fun cdv A outer s H vs Q E hr h => ?_)
  · obtain ⟨p, dx, nl, ms, rfl, _⟩ := h
    rfl
  · obtain ⟨p, dx, nl, ms, rfl, hp, hn, k⟩ := h
    refine ⟨_, pss_cons (ps_fld (pv 0) (pv 1) rfl) (pss_one (ps_fld (pv 0) pe_int rfl)), ?_⟩
    refine ⟨_, rfl, _, rfl, p, C, dx, [], rfl, hp, TC.cl, TC.nN, (by show 0 < 1000; decide), ?_⟩
    refine ⟨_, rfl, p, C, dx, _, rfl, upd_same, TC.cl, TC.nS, (by show 1 < 1000; decide), ?_⟩
    rw [upd_upd]
    have e : putF "spot" (V.int 0) (putF "numbers" (.ref nl) []) = rF nl 0 := rF_new
    rw [e]
    exact k _ ⟨dx, upd_same, by rw [upd_ne (ne_of hp hn (by intro z; cases z)).symm]; exact hn⟩ fun b o e n => by rw [upd_ne n]; exact e
/-! ### is_left -/
def spIsLeft (C : Addr) : Sp := fun vs H Q _ => ∃ (r nl : Addr) (ms : List Nat) (spot : Nat), vs = [.ref r] ∧ ReaderAt C H r nl ms spot ∧ Q (.bl (decide (spot < ms.length))) H
theorem scIsLeft : FnScope ["self"] ["self"] (defScope sIsLeft) := ⟨rfl, rfl, rfl, by decide +kernel, rfl, by decide +kernel, by decide +kernel⟩
theorem ok_isLeft {f : Addr} {fd : FuncData} (F : Fun K "is_left" "Reader.is_left" sIsLeft f fd) (T : Txt mg) (TC : TR K C) : FnOk P w K mg base CX0 1 f fd ["self"] (spIsLeft C) := by
  refine F.ok scIsLeft (fun vs H Q E h => ?_) (fun cdv A outer s H vs Q E hr h => ?_)
  · obtain ⟨r, nl, ms, spot, rfl, _⟩ := h
    rfl
  · obtain ⟨r, nl, ms, spot, rfl, ⟨dx, h1, h2⟩, k⟩ := h
    refine ⟨_, pss_one (ps_ret (pe_cmpR op_lt (pe_fld (pv 0) rfl) (pe_callB call_len_seq (by rfl) T.len PySem.boot_len (pa_cons (pe_fld (pv 0) rfl) pa_nil)) (nomark _))), ?_⟩
    refine ⟨_, rfl, r, C, dx, _, _, rfl, h1, TC.cl, TC.nS, rF_spot, _, rfl, r, C, dx, _, _, rfl, h1, TC.cl, TC.nN, rF_numbers, nl, _, rfl, .inl (SqL.of h2), _, _, rfl, rfl, ?_⟩
    show Q (.bl (decide (((spot : Nat) : Int) < (((nvs ms).length : Nat) : Int)))) H
    rw [nvs_len]
    have e : decide (((spot : Nat) : Int) < ((ms.length : Nat) : Int)) = decide (spot < ms.length) := decide_eq_decide.mpr (by omega)
    rw [e]
    exact k
/-! ### taken -/
def spTaken (C : Addr) : Sp := fun vs H Q _ => ∃ (r nl : Addr) (ms : List Nat) (spot x : Nat), vs = [.ref r] ∧ ReaderAt C H r nl ms spot ∧ ms[spot]? = some x ∧ ∀ H', ReaderAt C H' r nl ms (spot + 1) → Kept r H H' → Q (nv x) H'
theorem scTaken : FnScope ["self", "number"] ["self"] (defScope sTaken) := ⟨rfl, rfl, rfl, by decide +kernel, rfl, by decide +kernel, by decide +kernel⟩
theorem ok_taken {f : Addr} {fd : FuncData} (F : Fun K "taken" "Reader.taken" sTaken f fd) (TC : TR K C) : FnOk P w K mg base CX0 1 f fd ["self"] (spTaken C) := by
  refine F.ok scTaken (fun vs H Q E h => ?_) (fun cdv A outer s H vs Q E hr h => ?_)
  · obtain ⟨r, nl, ms, spot, x, rfl, _⟩ := h
    rfl
  · obtain ⟨r, nl, ms, spot, x, rfl, ⟨dx, h1, h2⟩, hx, k⟩ := h
    refine ⟨_, pss_cons (ps_set (i := 1) scTaken.nd rfl (Or.inl rfl) (pe_ix ix_list (pe_fld (pv 0) rfl) (pe_fld (pv 0) rfl) (fun _ _ => rfl)))
      (pss_cons (ps_fld (pv 0) (pe_op op_add (pe_fld (pv 0) rfl) pe_int) rfl) (pss_one (ps_ret (pv 1)))), ?_⟩
    refine ⟨_, rfl, r, C, dx, _, _, rfl, h1, TC.cl, TC.nN, rF_numbers, _, rfl, r, C, dx, _, _, rfl, h1, TC.cl, TC.nS, rF_spot, nl, _, (spot : Int), nv x, rfl, rfl, SqL.of h2, atI_nat (nvs_get hx), ?_⟩
    refine ⟨_, rfl, r, C, dx, _, _, rfl, h1, TC.cl, TC.nS, rF_spot, _, _, rfl, rfl, _, rfl, r, C, dx, _, rfl, h1, TC.cl, TC.nS, rF_len, ?_⟩
    have e : putF "spot" (V.int (((spot : Nat) : Int) + 1)) (rF nl spot) = rF nl (spot + 1) := rF_setSpot
    rw [e]
    refine ⟨_, rfl, k _ ⟨dx, upd_same, by rw [upd_ne (ne_of h1 h2 (by intro z; cases z)).symm]; exact h2⟩ fun b o e n => by rw [upd_ne n]; exact e⟩
/-! ### row -/
def spRow (C : Addr) : Sp := fun vs H Q _ => ∃ (r nl : Addr) (ms : List Nat) (spot : Nat) (l t : List Nat), vs = [.ref r] ∧ ReaderAt C H r nl ms spot ∧ ms.drop spot = l.length :: (l ++ t) ∧ ms.length ≤ 10000 ∧
  ∀ H' p, ReaderAt C H' r nl ms (spot + 1 + l.length) → Kept r H H' → H p = none → H' p = some (.lst (nvs l)) → Q (.ref p) H'
theorem scRow : FnScope ["self", "many", "turn"] ["self"] (defScope sRow) := ⟨rfl, rfl, rfl, by decide +kernel, rfl, by decide +kernel, by decide +kernel⟩
theorem ok_row {f : Addr} {fd : FuncData} (F : Fun K "row" "Reader.row" sRow f fd) (T : Txt mg) (TC : TR K C) (CT : Met P w K mg base 1 C "taken" (spTaken C)) : FnOk P w K mg base CX0 2 f fd ["self"] (spRow C) := by
  refine F.ok scRow (fun vs H Q E h => ?_) (fun cdv A outer s H vs Q E hr h => ?_)
  · obtain ⟨r, nl, ms, spot, l, t, rfl, _⟩ := h
    rfl
  · obtain ⟨r, nl, ms, spot, l, t, rfl, R, hm, hl, k⟩ := h
    refine ⟨_, pss_cons (ps_set (i := 1) scRow.nd rfl (Or.inl rfl) (C8.pe_mt0 CT hr (by decide) (pv 0)))
      (pss_one (ps_ret (pe_lc (own := [("turn", 2)]) (g := gName 2) (tt := tYes) (te := tMeth C "taken" (spTaken C) [] C8.E0 (tVar 0) tNil) rfl scRow.nd (pi_range1 rfl T.range (pa_cons (pv 1) pa_nil))
        (blkOk_by (N := ["self", "many", "turn"]) (sc := defScope sRow) (by decide +kernel)) (fun _ _ _ _ _ => pg_name (i := 2) scRow.nd rfl (Or.inl rfl)) (fun _ _ _ _ _ => pts_nil)
        (fun _ _ _ _ _ => C8.pe_mt0 CT hr (by decide) (pv 0))))), ?_⟩
    obtain ⟨hx, hm1, hlt⟩ := drop_at hm
    have hll : l.length ≤ 10000 := by
      have h1 := congrArg List.length hm1
      rw [List.length_drop, List.length_append] at h1
      omega
    obtain ⟨dx, h1, h2⟩ := id R
    refine ⟨_, rfl, r, dx, _, rfl, h1, rF_no (by decide +kernel), r, nl, ms, spot, l.length, rfl, R, hx, fun H1 R1 k1 => ?_⟩
    refine ⟨_, rfl, (l.length : Int), rfl, by omega, by omega, fun D hD => ?_⟩
    have en : ((l.length : Nat) : Int).toNat = l.length := by omega
    rw [en]
    have hDH := k1.free R1 hD
    have nDr : r ≠ D := by
      obtain ⟨_, q, _⟩ := R1
      exact ne_of_none q hD
    refine lc_range (lo := 0) (n := l.length) (fun i H' => ReaderAt C H' r nl ms (spot + 1 + i) ∧ Kept r H H' ∧ H' D = some (.lst (nvs (l.take i)))) ⟨R1.same (same_new hD), k1.trans (Same.kept (same_new hD)), upd_same⟩ ?_ ?_
    · rintro i H2 hi ⟨R2, k2, hD2⟩
      obtain ⟨dx2, q1, q2⟩ := id R2
      have e1 : ms[spot + 1 + i]? = some l[i] := by
        have h9 : (ms.drop (spot + 1))[i]? = some l[i] := by rw [hm1, List.getElem?_append_left hi, List.getElem?_eq_getElem hi]
        rw [List.getElem?_drop] at h9
        exact h9
      refine ⟨rfl, yes_then ⟨_, rfl, r, dx2, _, rfl, q1, rF_no (by decide +kernel), r, nl, ms, spot + 1 + i, l[i], rfl, R2, e1, fun H3 R3 k3 => ?_⟩⟩
      have hD3 := k3 _ _ hD2 nDr.symm
      obtain ⟨dx3, q3, q4⟩ := id R3
      have nln : nl ≠ D := by
        obtain ⟨_, _, q⟩ := R1
        exact ne_of_none q hD
      refine ⟨_, hD3, ?_, ⟨dx3, by rw [upd_ne nDr]; exact q3, by rw [upd_ne nln]; exact q4⟩, fun b o e n => ?_, ?_⟩
      · rw [nvs_len]
        have := List.length_take_le' i l
        exact lt_line (by omega)
      · rw [upd_ne (ne_of_none e hDH)]
        exact k3 _ _ (k2 b o e n) n
      · rw [upd_same, take_more (List.getElem?_eq_getElem hi), nvs_app]
        rfl
    · rintro H2 ⟨R2, k2, hD2⟩
      rw [List.take_length] at hD2
      exact k _ D R2 k2 hDH hD2
/-! ### sentences -/
def spSentences (C : Addr) : Sp := fun vs H Q _ => ∃ (r nl : Addr) (ms : List Nat) (spot : Nat) (ss : List Sent) (t : List Nat), vs = [.ref r] ∧ ReaderAt C H r nl ms spot ∧ ms.drop spot = (enc ss).length :: (enc ss ++ t) ∧ ms.length ≤ 10000 ∧
  ∀ H' E p, ReaderAt C H' r nl ms (spot + 1 + (enc ss).length) → Kept r H H' → Same E H' → (∀ b o, H b = some o → E b = none) → SentsA E p ss → Q (.ref p) H'
theorem scSentences : FnScope ["self", "stop", "found"] ["self"] (defScope sSentences) := ⟨rfl, rfl, rfl, by decide +kernel, rfl, by decide +kernel, by decide +kernel⟩
theorem ok_sentences {f : Addr} {fd : FuncData} (F : Fun K "sentences" "Reader.sentences" sSentences f fd) (TC : TR K C) (CT : Met P w K mg base 1 C "taken" (spTaken C)) (CR : Met P w K mg base 2 C "row" (spRow C)) : FnOk P w K mg base CX0 3 f fd ["self"] (spSentences C) := by
  refine F.ok scSentences (fun vs H Q E h => ?_) (fun cdv A outer s H vs Q E hr h => ?_)
  · obtain ⟨r, nl, ms, spot, ss, t, rfl, _⟩ := h
    rfl
  · obtain ⟨r, nl, ms, spot, ss, t, rfl, R, hm, hl, k⟩ := h
    refine ⟨_, pss_cons (ps_set (i := 1) scSentences.nd rfl (Or.inl rfl) (C8.pe_mt0 CT hr (by decide) (pv 0)))
      (pss_cons (ps_set (i := 1) scSentences.nd rfl (Or.inl rfl) (pe_op op_add (pv 1) (pe_fld (pv 0) rfl)))
      (pss_cons (ps_set (i := 2) scSentences.nd rfl (Or.inl rfl) (pe_lst pa_nil))
      (pss_cons (ps_while PassesOwn.never (pt_cmpR op_lt (pe_fld (pv 0) rfl) (pv 1) (nomark _))
        (pss_one (ps_expr (pe_bm PySem.F.plainAttrs_list PySem.F.slot_list_append PySem.F.type_list_append mt_append (pv 2) (pa_cons (C8.pe_mt0 CR hr (by decide) (pv 0)) pa_nil)))))
      (pss_one (ps_ret (pv 2)))))), ?_⟩
    obtain ⟨hx, hm1, hlt⟩ := drop_at hm
    obtain ⟨dx, h1, h2⟩ := id R
    have hll : ss.length ≤ 10000 := by
      have h1 := congrArg List.length hm1
      rw [List.length_drop, List.length_append] at h1
      have h3 : ∀ l : List Sent, l.length ≤ (enc l).length := by
        intro l
        induction l with
        | nil => exact Nat.le_refl _
        | cons x l ih =>
          rw [enc_cons, List.length_cons, List.length_cons, List.length_append]
          omega
      have := h3 ss
      omega
    refine ⟨_, rfl, r, dx, _, rfl, h1, rF_no (by decide +kernel), r, nl, ms, spot, (enc ss).length, rfl, R, hx, fun H1 R1 k1 => ?_⟩
    obtain ⟨dx1, q1, q2⟩ := id R1
    refine ⟨_, rfl, _, rfl, r, C, dx1, _, _, rfl, q1, TC.cl, TC.nS, rF_spot, _, _, rfl, rfl, Nat.zero_le _, fun fd0 hf0 => ?_⟩
    have hfH := k1.free R1 hf0
    have nrf : r ≠ fd0 := ne_of_none q1 hf0
    have nlf : nl ≠ fd0 := ne_of_none q2 hf0
    refine ⟨fun m σ H' => ∃ (i : Nat) (vl : List V) (E : Hp), m = ss.length - i ∧ i ≤ ss.length ∧ σ = [some (.ref r), some (.int ((((enc ss).length : Nat) : Int) + ((spot + 1 : Nat) : Int))), some (.ref fd0)] ∧ ReaderAt C H' r nl ms (spot + 1 + (enc (ss.take i)).length) ∧ Kept r H H' ∧
      Same E H' ∧ E fd0 = none ∧ (∀ b o, H b = some o → E b = none) ∧ H' fd0 = some (.lst vl) ∧ AllV (SentV E) vl (ss.take i), ⟨ss.length, 0, [], fun _ => none, rfl, Nat.zero_le _, rfl, R1.same (same_new hf0), k1.trans (Same.kept (same_new hf0)), fun b o e => (by cases e), rfl, fun _ _ _ => rfl, upd_same, AllV.nil⟩, ?_⟩
    rintro m σ H2 ⟨i, vl, E2, rfl, hi, rfl, R2, k2, sE, ef, en, hv, al⟩
    obtain ⟨dx2, p1, p2⟩ := id R2
    refine ⟨_, rfl, r, C, dx2, _, _, rfl, p1, TC.cl, TC.nS, rF_spot, _, rfl, _, _, rfl, rfl, _, rfl, ?_⟩
    have elt := enc_lt (ss := ss) (i := i)
    by_cases c : i < ss.length
    · refine ifT (decide_eq_true (by have := elt.mpr c; omega)) ?_
      refine ⟨fun σ' H' => ∃ m', m' < ss.length - i ∧ ∃ (i : Nat) (vl : List V) (E : Hp), m' = ss.length - i ∧ i ≤ ss.length ∧ σ' = [some (.ref r), some (.int ((((enc ss).length : Nat) : Int) + ((spot + 1 : Nat) : Int))), some (.ref fd0)] ∧ ReaderAt C H' r nl ms (spot + 1 + (enc (ss.take i)).length) ∧ Kept r H H' ∧
        Same E H' ∧ E fd0 = none ∧ (∀ b o, H b = some o → E b = none) ∧ H' fd0 = some (.lst vl) ∧ AllV (SentV E) vl (ss.take i), fun σ' H' z => z, ?_⟩
      have es : ss[i]? = some ss[i] := List.getElem?_eq_getElem c
      have ed : ms.drop (spot + 1 + (enc (ss.take i)).length) = ss[i].length :: (ss[i] ++ (enc (ss.drop (i + 1)) ++ t)) := by
        have e1 : enc ss = enc (ss.take i) ++ enc (ss.drop i) := by rw [← enc_app, List.take_append_drop]
        rw [e1, List.append_assoc] at hm1
        rw [drop_app hm1, List.drop_eq_getElem_cons c, enc_cons, List.cons_append, List.append_assoc]
      refine ⟨_, rfl, .inl ⟨rfl, _, SqL.of hv⟩, _, rfl, r, dx2, _, rfl, p1, rF_no (by decide +kernel), r, nl, ms, _, ss[i], _, rfl, R2, ed, hl, fun H3 p R3 k3 hp0 hp1 => ?_⟩
      have hpH : H p = none := k2.free R2 hp0
      have nrfd : fd0 ≠ r := nrf.symm
      have hv3 := k3 _ _ hv nrfd
      have er : E2 r = none := en _ _ h1
      have sE3 : Same E2 H3 := fun b o e => k3 b o (sE b o e) (fun z => by rw [z, er] at e; cases e)
      have npf : fd0 ≠ p := ne_of_none hv hp0
      have sEp := same_new (o := .lst (nvs ss[i])) (sE.free hp0)
      obtain ⟨dx3, p3, p4⟩ := id R3
      refine ⟨fd0, vl, _, rfl, rfl, hv3, ?_, ss.length - (i + 1), by omega, i + 1, vl ++ [.ref p], upd E2 p (.lst (nvs ss[i])), rfl, c, rfl, ?_, ?_, ?_, ?_, ?_, upd_same, ?_⟩
      · rw [al.1, List.length_take]
        exact lt_line (by omega)
      · have e2 : spot + 1 + (enc (ss.take (i + 1))).length = spot + 1 + (enc (ss.take i)).length + 1 + ss[i].length := by
          rw [take_more es, enc_app, List.length_append]
          have : enc [ss[i]] = ss[i].length :: (ss[i] ++ []) := enc_cons _ _
          rw [this, List.length_cons, List.append_nil]
          omega
        rw [e2]
        exact ⟨dx3, by rw [upd_ne nrf]; exact p3, by rw [upd_ne nlf]; exact p4⟩
      · intro b o e n
        rw [upd_ne (ne_of_none e hfH)]
        exact k3 _ _ (k2 b o e n) n
      · intro b o e
        have nbf : b ≠ fd0 := fun z => by
          rw [z, upd_ne npf, ef] at e
          cases e
        rw [upd_ne nbf]
        exact same_both sE3 hp1 b o e
      · rw [upd_ne npf]
        exact ef
      · intro b o e
        rw [upd_ne (ne_of_none e hpH)]
        exact en b o e
      · rw [take_more es]
        exact (al.imp fun _ _ z => z.same sEp).snoc ⟨p, rfl, upd_same⟩
    · refine ifF (decide_eq_false (by
        intro q
        exact c (elt.mp (by omega)))) ?_
      have ei : i = ss.length := by omega
      subst ei
      rw [List.take_length] at R2 al
      refine ⟨_, rfl, k H2 (upd E2 fd0 (.lst vl)) fd0 R2 k2 (same_both sE hv) (fun b o e => ?_) ⟨vl, upd_same, al.imp fun _ _ z => z.same (same_new ef)⟩⟩
      rw [upd_ne (ne_of_none e hfH)]
      exact en b o e
/-! ### pairs -/
theorem small_two {n : Nat} (h : n ≤ 100000) : RgC 0 ((2 * n : Nat) : Int) 2 n := by
  have hs : Builtin.Range.rangeSize 0 ((2 * n : Nat) : Int) 2 = (n : Int) := by
    unfold Builtin.Range.rangeSize
    rw [if_pos (by decide)]
    split <;> omega
  refine ⟨by decide, by decide, ?_, hs⟩
  unfold Builtin.Range.small
  rw [hs]
  have f : ∀ z : Int, -(2 ^ 62) ≤ z → z < 2 ^ 62 → Builtin.Range.rangeFitsLong z = true := fun z h1 h2 => by
    unfold Builtin.Range.rangeFitsLong
    rw [Bool.and_eq_true]
    exact ⟨decide_eq_true (by omega), decide_eq_true (by omega)⟩
  rw [f 0 (by omega) (by omega), f ((2 * n : Nat) : Int) (by omega) (by omega), f 2 (by omega) (by omega), f (n : Int) (by omega) (by omega), if_pos (show (2 : Int) > 0 by decide), f (((2 * n : Nat) : Int) + (2 - 1)) (by omega) (by omega), Bool.or_true]
  rfl
theorem encB_len (bs : List Band) : (encB bs).length = 2 * bs.length := by
  induction bs with
  | nil => rfl
  | cons b bs ih =>
    have : encB (b :: bs) = b.1 :: b.2 :: encB bs := rfl
    rw [this, List.length_cons, List.length_cons, List.length_cons, ih]
    omega
theorem encB_at : ∀ (bs : List Band) (i : Nat) (b : Band), bs[i]? = some b → (encB bs)[2 * i]? = some b.1 ∧ (encB bs)[2 * i + 1]? = some b.2
  | [], i, b, h => by simp at h
  | c :: bs, 0, b, h => by
    have : c = b := Option.some.inj h
    subst this
    exact ⟨rfl, rfl⟩
  | c :: bs, i + 1, b, h => by
    have e : encB (c :: bs) = c.1 :: c.2 :: encB bs := rfl
    have ih := encB_at bs i b (by simpa using h)
    have e1 : 2 * (i + 1) = 2 * i + 1 + 1 := by omega
    rw [e, e1]
    exact ih
def spPairs (K : PySem.W.Frag) (C : Addr) : Sp := fun vs H Q _ => ∃ (r nl : Addr) (ms : List Nat) (spot : Nat) (bs : List Band) (t : List Nat), vs = [.ref r] ∧ ReaderAt C H r nl ms spot ∧ ms.drop spot = (encB bs).length :: (encB bs ++ t) ∧ ms.length ≤ 10000 ∧
  ∀ H' E p, ReaderAt C H' r nl ms (spot + 1 + (encB bs).length) → Kept r H H' → Same E H' → (∀ b o, H b = some o → E b = none) → BandsA K E p bs → Q (.ref p) H'
theorem scPairs : FnScope ["self", "row", "at"] ["self"] (defScope sPairs) := ⟨rfl, rfl, rfl, by decide +kernel, rfl, by decide +kernel, by decide +kernel⟩
theorem ok_pairs {f : Addr} {fd : FuncData} (F : Fun K "pairs" "Reader.pairs" sPairs f fd) (T : Txt mg) (TC : TR K C) (CR : Met P w K mg base 2 C "row" (spRow C)) : FnOk P w K mg base CX0 3 f fd ["self"] (spPairs K C) := by
  refine F.ok scPairs (fun vs H Q E h => ?_) (fun cdv A outer s H vs Q E hr h => ?_)
  · obtain ⟨r, nl, ms, spot, bs, t, rfl, _⟩ := h
    rfl
  · obtain ⟨r, nl, ms, spot, bs, t, rfl, R, hm, hl, k⟩ := h
    refine ⟨_, pss_cons (ps_set (i := 1) scPairs.nd rfl (Or.inr rfl) (C8.pe_mt0 CR hr (by decide) (pv 0)))
      (pss_one (ps_ret (pe_lc (own := [("at", 2)]) (g := gName 2) (tt := tYes) (te := tTup (tCons (tOp (rIxL K) (tVar 1) (tVar 2)) (tCons (tOp (rIxL K) (tVar 1) (tOp (rI0 fun i j => .int (i + j)) (tVar 2) (tC (.int 1)))) tNil))) rfl scPairs.nd
        (pi_range3 rfl T.range (pa_cons pe_int (pa_cons (pe_callB call_len_seq (by rfl) T.len PySem.boot_len (pa_cons (pv 1) pa_nil)) (pa_cons pe_int pa_nil))))
        (blkOk_by (N := ["self", "row", "at"]) (sc := defScope sPairs) (by decide +kernel)) (fun _ _ _ _ _ => pg_name (i := 2) scPairs.nd rfl (Or.inl rfl)) (fun _ _ _ _ _ => pts_nil)
        (fun _ _ _ _ _ => pe_tup (pa_cons (pe_ix ix_list (pv 1) (pv 2) (fun _ _ => rfl)) (pa_cons (pe_ix ix_list (pv 1) (pe_op op_add (pv 2) pe_int) (fun _ _ => rfl)) pa_nil)))))), ?_⟩
    obtain ⟨dx, h1, h2⟩ := id R
    refine ⟨_, rfl, r, dx, _, rfl, h1, rF_no (by decide +kernel), r, nl, ms, spot, encB bs, t, rfl, R, hm, hl, fun H1 q R1 k1 hq0 hq1 => ?_⟩
    have hbl : bs.length ≤ 10000 := by
      obtain ⟨hx, hm1, hlt⟩ := drop_at hm
      have h1 := congrArg List.length hm1
      rw [List.length_drop, List.length_append, encB_len] at h1
      omega
    refine ⟨_, rfl, q, _, rfl, .inl (SqL.of hq1), 0, ((2 * bs.length : Nat) : Int), 2, bs.length, ?_, small_two (by omega), fun D hD => ?_⟩
    · rw [nvs_len, encB_len]
    have hDH := k1.free R1 hD
    obtain ⟨dx1, q1, q2⟩ := id R1
    refine lc_it (walk_rangeC (lo := 0) (c := 2) (n := bs.length)) (fun i H' => Same H1 H' ∧ ∃ (vl : List V) (E : Hp), H' D = some (.lst vl) ∧ Same E H' ∧ E D = none ∧ (∀ b o, H1 b = some o → E b = none) ∧ AllV (BandV K E) vl (bs.take i))
      ⟨same_new hD, [], fun _ => none, upd_same, fun b o e => (by cases e), rfl, fun _ _ _ => rfl, AllV.nil⟩ (fun _ _ _ _ => trivial) ?_ ?_
    · rintro i y H2 H3 hi ⟨s2, vl, E2, hD2, sE, eD, en, al⟩ ⟨rfl, rfl⟩
      have eb : bs[i]? = some bs[i] := List.getElem?_eq_getElem hi
      obtain ⟨a1, a2⟩ := encB_at bs i bs[i] eb
      have hq2 := s2 _ _ hq1
      refine ⟨rfl, yes_then ⟨_, rfl, _, rfl, q, _, _, nv bs[i].1, rfl, rfl, SqL.of hq2, at_of (j := 2 * i) (by omega) (nvs_get a1), _, rfl, _, rfl, _, _, rfl, rfl, q, _, _, nv bs[i].2, rfl, rfl, SqL.of hq2, at_of (j := 2 * i + 1) (by omega) (nvs_get a2), (by show 2 ≤ sizeLine; decide), fun tt htt => ?_⟩⟩
      have s3 := same_new (o := .tup [nv bs[i].1, nv bs[i].2]) htt
      have nDt : D ≠ tt := ne_of_none hD2 htt
      have sEp := same_new (o := .tup [nv bs[i].1, nv bs[i].2]) (sE.free htt)
      refine ⟨vl, s3 _ _ hD2, ?_, same_own (s2.trans s3) hD, _, upd E2 tt (.tup [nv bs[i].1, nv bs[i].2]), upd_same, ?_, ?_, ?_, ?_⟩
      · rw [al.1, List.length_take]
        exact lt_line (by omega)
      · intro b o e
        have nbf : b ≠ D := fun z => by
          rw [z, upd_ne nDt, eD] at e
          cases e
        rw [upd_ne nbf]
        exact same_both (sE.trans s3) upd_same b o e
      · rw [upd_ne nDt]
        exact eD
      · intro b o e
        rw [upd_ne (ne_of_none (s2 b o e) htt)]
        exact en b o e
      · rw [take_more eb]
        exact (al.imp fun _ _ z => z.same sEp).snoc ⟨tt, rfl, SqT.of upd_same⟩
    · rintro H2 ⟨s2, vl, E2, hD2, sE, eD, en, al⟩
      rw [List.take_length] at al
      have enH : ∀ b o, H b = some o → E2 b = none := fun b o e => by
        by_cases c : b = r
        · subst c
          exact en _ _ q1
        · exact en b o (k1 b o e c)
      refine k H2 (upd E2 D (.lst vl)) D (R1.same s2) (k1.trans (Same.kept s2)) (same_both sE hD2) (fun b o e => ?_) ⟨vl, upd_same, al.imp fun _ _ z => z.same (same_new eD)⟩
      rw [upd_ne (ne_of_none e hDH)]
      exact enH b o e
end
end Wc

set_option Elab.async false
set_option linter.all false
set_option maxRecDepth 100000
set_option maxHeartbeats 2000000
namespace Wc
open PySem PySem.Spec PyProof.Rows L2
/-! ### a call of a local name that holds a def, whichever: a rule over the layer's own -/
def tCallH (P : Program) (w : World) (K : PySem.W.Frag) (mg : Str → Option Value) (base : Heap) (k i : Nat) (t : TA) : TE := fun σ H Q => ∃ f sp, σ[i]? = some (some (.ref f)) ∧ Held P w K mg base k f sp ∧ t σ H fun vs H1 => sp vs H1 Q (fun _ _ _ => False)
theorem pe_callH {X : Cx} {k i : Nat} {x : Str} {p pos : Pos} {e : Expr} {es : List Expr} {t : TA} (hr : Room k X.A) (hN : X.N[i]? = some x) (hv : Vis X.env.scope x) (ha : PA X (e :: es) t)
    (hdb : (x == ("__debug__" : Str)) = false := by decide) (hcd : (x == ("__classdict__" : Str)) = false := by decide)
    (he : starEach (e :: es) X.env = (false, eval e X.env) :: starEach es X.env := by rfl) (hpl : (backTo pos (starEach es X.env)).any (·.1) = false := by rfl) : PE X (.Call (.Name x p) (e :: es) [] pos) (tCallH X.prog X.w X.K X.mg X.base k i t) := by
  refine ⟨fun pins s σ H Q I h => ?_⟩
  obtain ⟨f, sp, hs, hS, ht⟩ := h
  obtain ⟨fd, ps, F, hk, hb⟩ := hS.ex
  refine (pe_callL (i := i) (f := f) (sp := sp) (dvs := []) (E := fun _ _ _ => False) F hr hN hv hk hb .nil (fun _ _ _ _ _ _ _ z => z.elim) ha hdb hcd he hpl).run pins s σ H Q I ⟨hs, by simpa only [List.append_nil] using ht⟩
/-! ### the office -/
/-- the house at a (its files at fl) and the reader at r (its numbers at nl, the next one at spot) -/
structure Off (K : PySem.W.Frag) (CH CR : Addr) (D H : Hp) (a fl r nl : Addr) (ms : List Nat) (g : Ut10.St) (spot : Nat) : Prop where
  ha : HouseAt K CH D H a fl g
  gd : Good g
  rd : ReaderAt CR H r nl ms spot
  ar : a ≠ r
  nf : nl ≠ fl
  dr : D r = none
def WishO (K : PySem.W.Frag) (CH CR : Addr) (D H : Hp) (a fl r nl : Addr) (ms : List Nat) (g : Ut10.St) (c : Ut10.Call) (spot' : Nat) (Q : VK) : Prop :=
  ∀ H' D' fl' p, Off K CH CR D' H' a fl' r nl ms (Ut10.step g c).1 spot' → (∀ b o, H b = some o → b ≠ a → b ≠ fl → b ≠ r → H' b = some o) → (∀ b o, H b = some o → D b = none → D' b = none) → (fl' = fl ∨ H fl' = none) → H p = none →
    H' p = some (.lst ((Ut10.step g c).2.map V.int)) → Q (.ref p) H'
def uni (D E : Hp) : Hp := fun b => match D b with
  | some o => some o
  | none => E b
theorem uni_l (D E : Hp) : Same D (uni D E) := fun b o e => by unfold uni; rw [e]
theorem uni_n {D E : Hp} {b : Addr} (h1 : D b = none) (h2 : E b = none) : uni D E b = none := by unfold uni; rw [h1]; exact h2
theorem uni_r {D E : Hp} (h : ∀ b o, D b = some o → E b = none) : Same E (uni D E) := fun b o e => by
  unfold uni
  cases q : D b with
  | none => exact e
  | some u =>
    rw [h b u q] at e
    cases e
theorem uni_le {D E H : Hp} (h1 : Same D H) (h2 : Same E H) : Same (uni D E) H := fun b o e => by
  unfold uni at e
  cases q : D b with
  | none => rw [q] at e; exact h2 b o e
  | some u => rw [q] at e; rw [← e]; exact h1 b u q
theorem Off.go {K : PySem.W.Frag} {CH CR : Addr} {D H : Hp} {a fl r nl : Addr} {ms : List Nat} {g : Ut10.St} {c : Ut10.Call} {spot spot1 : Nat} {Q : VK} {E H1 : Hp} (O : Off K CH CR D H a fl r nl ms g spot) (k1 : Kept r H H1) (R1 : ReaderAt CR H1 r nl ms spot1) (sE : Same E H1) (en : ∀ b o, H b = some o → E b = none)
    (k : WishO K CH CR D H a fl r nl ms g c spot1 Q) : ∃ D1, HouseAt K CH D1 H1 a fl g ∧ Same E D1 ∧ Wish K CH D1 H1 a fl (Ut10.step g c) Q := by
  obtain ⟨s0, d1, d2, dx, ml, bl, fv, h1, h2, h3, h4, h5⟩ := id O.ha
  obtain ⟨dxr, q1, q2⟩ := id O.rd
  have nfr : fl ≠ r := ne_of h2 q1 (by intro z; cases z)
  have nla : nl ≠ a := ne_of q2 h1 (by intro z; cases z)
  have sD1 : Same D H1 := fun b o e => k1 b o (s0 b o e) (fun z => by rw [z, O.dr] at e; cases e)
  have sD := uni_l D E
  have nD : ∀ b o, H b = some o → D b = none → uni D E b = none := fun b o e d => uni_n d (en b o e)
  have HA1 : HouseAt K CH (uni D E) H1 a fl g := ⟨uni_le sD1 sE, nD _ _ h1 d1, nD _ _ h2 d2, dx, ml, bl, fv, k1 _ _ h1 O.ar, k1 _ _ h2 nfr, h3.imp fun _ _ z => z.same sD, h4.same sD, h5.same sD⟩
  refine ⟨uni D E, HA1, uni_r fun b o e => en b o (s0 b o e), fun H2 D2 fl2 p M hp hq => ?_⟩
  obtain ⟨dx1, r1, r2⟩ := id R1
  have trk : ∀ b o, H b = some o → ∃ o1, H1 b = some o1 := fun b o e => by
    by_cases z : b = r
    · rw [z]; exact ⟨_, r1⟩
    · exact ⟨o, k1 b o e z⟩
  refine k H2 D2 fl2 p ⟨M.at_, good_step O.gd c, ⟨dx1, M.ke _ _ r1 O.ar.symm nfr.symm, M.ke _ _ r2 nla O.nf⟩, O.ar, ?_, M.nD _ _ r1 (nD _ _ q1 O.dr)⟩ (fun b o e n1 n2 n3 => M.ke b o (k1 b o e n3) n1 n2) (fun b o e d => ?_) ?_ ?_ hq
  · rcases M.nf with z | z
    · rw [z]; exact O.nf
    · exact ne_of_none r2 z
  · obtain ⟨o1, e1⟩ := trk b o e
    exact M.nD b o1 e1 (nD b o e d)
  · rcases M.nf with z | z
    · exact .inl z
    · right
      cases q : H fl2 with
      | none => rfl
      | some o =>
        obtain ⟨o1, e1⟩ := trk _ _ q
        rw [e1] at z
        cases z
  · exact k1.free R1 hp
def opOf (c : Ut10.Call) : Nat := (encC c).headD 0
def tailOf (c : Ut10.Call) : List Nat := (encC c).tail
theorem op_file {c : Ut10.Call} (h : opOf c = 0) : ∃ ss, c = .file ss := by
  cases c <;> first | exact ⟨_, rfl⟩ | (exfalso; simp [opOf, encC] at h)
theorem op_gone {c : Ut10.Call} (h : opOf c = 1) : ∃ n, c = .gone n := by
  cases c <;> first | exact ⟨_, rfl⟩ | (exfalso; simp [opOf, encC] at h)
theorem op_memory {c : Ut10.Call} (h : opOf c = 2) : ∃ ss, c = .memory ss := by
  cases c <;> first | exact ⟨_, rfl⟩ | (exfalso; simp [opOf, encC] at h)
theorem op_done {c : Ut10.Call} (h : opOf c = 3) : ∃ n, c = .done n := by
  cases c <;> first | exact ⟨_, rfl⟩ | (exfalso; simp [opOf, encC] at h)
theorem op_rates {c : Ut10.Call} (h : opOf c = 4) : ∃ n bs, c = .rates n bs := by
  cases c <;> first | exact ⟨_, _, rfl⟩ | (exfalso; simp [opOf, encC] at h)
theorem op_count {c : Ut10.Call} (h : opOf c = 5) : ∃ l, c = .count l := by
  cases c <;> first | exact ⟨_, rfl⟩ | (exfalso; simp [opOf, encC] at h)
theorem op_kinds {c : Ut10.Call} (h : opOf c = 6) : ∃ l, c = .kinds l := by
  cases c <;> first | exact ⟨_, rfl⟩ | (exfalso; simp [opOf, encC] at h)
theorem op_part {c : Ut10.Call} (h : opOf c = 7) : ∃ n, c = .part n := by
  cases c <;> first | exact ⟨_, rfl⟩ | (exfalso; simp [opOf, encC] at h)
theorem op_near {c : Ut10.Call} (h : opOf c = 8) : ∃ x y, c = .near x y := by
  cases c <;> first | exact ⟨_, _, rfl⟩ | (exfalso; simp [opOf, encC] at h)
theorem op_shows {c : Ut10.Call} (h : opOf c = 9) : c = .shows := by
  cases c <;> first | rfl | (exfalso; simp [opOf, encC] at h)
theorem op_lt (c : Ut10.Call) : opOf c < 10 := by
  cases c <;> simp [opOf, encC]
theorem enc_op (c : Ut10.Call) : encC c = opOf c :: tailOf c := by
  cases c <;> rfl
def spDeed (K : PySem.W.Frag) (CH CR : Addr) (i : Nat) : Sp := fun vs H Q _ => ∃ (D : Hp) (a fl r nl : Addr) (ms : List Nat) (g : Ut10.St) (spot : Nat) (c : Ut10.Call) (t : List Nat), vs = [.ref a, .ref r] ∧ Off K CH CR D H a fl r nl ms g spot ∧ opOf c = i ∧
  ms.drop spot = tailOf c ++ t ∧ ms.length ≤ 10000 ∧ fits c ∧ WishO K CH CR D H a fl r nl ms g c (spot + (tailOf c).length) Q
theorem spDeed_len {K : PySem.W.Frag} {CH CR : Addr} {i : Nat} : ∀ vs H Q E, spDeed K CH CR i vs H Q E → vs.length = (["house", "reader"] : List Str).length := by
  rintro vs H Q E ⟨D, a, fl, r, nl, ms, g, spot, c, t, rfl, _⟩
  rfl
section
variable {P : Program} {w : World} {K : PySem.W.Frag} {mg : Str → Option Value} {base : Heap} {CH CR : Addr}
theorem enc_small {ms : List Nat} {spot : Nat} {ss : List Sent} {t : List Nat} (h : ms.drop spot = (enc ss).length :: (enc ss ++ t)) (hl : ms.length ≤ 10000) : ss.length ≤ 10000 := by
  obtain ⟨hx, hm1, hlt⟩ := drop_at h
  have h1 := congrArg List.length hm1
  rw [List.length_drop, List.length_append] at h1
  have h3 : ∀ l : List Sent, l.length ≤ (enc l).length := by
    intro l
    induction l with
    | nil => exact Nat.le_refl _
    | cons x l ih =>
      rw [enc_cons, List.length_cons, List.length_cons, List.length_append]
      omega
  have := h3 ss
  omega
theorem scDoFile : FnScope ["house", "reader"] ["house", "reader"] (defScope (sDo 0)) := ⟨rfl, rfl, rfl, by decide +kernel, rfl, by decide +kernel, by decide +kernel⟩
theorem ok_doFile {f : Addr} {fd : FuncData} (F : Fun K "do_file" "do_file" (sDo 0) f fd) (CA : Met P w K mg base 3 CH "add_file" (spAddFile K CH)) (CS : Met P w K mg base 3 CR "sentences" (spSentences CR)) : FnOk P w K mg base CX0 4 f fd ["house", "reader"] (spDeed K CH CR 0) := by
  refine F.ok scDoFile spDeed_len (fun cdv A outer s H vs Q E hr h => ?_)
  obtain ⟨D, a, fl, r, nl, ms, g, spot, c, t, rfl, O, hop, hm, hl, hf, k⟩ := h
  refine ⟨_, pss_one (ps_ret (C8.pe_mt CA hr (by decide) (pv 0) (pa_cons (C8.pe_mt0 CS hr (by decide) (pv 1)) pa_nil))), ?_⟩
  obtain ⟨s0, d1, d2, dx, ml, bl, fv, h1, h2, h3, h4, h5⟩ := id O.ha
  obtain ⟨dxr, q1, q2⟩ := id O.rd
  obtain ⟨ss, rfl⟩ := op_file hop
  have hm : ms.drop spot = (enc ss).length :: (enc ss ++ t) := hm
  have es : spot + (tailOf (.file ss)).length = spot + 1 + (enc ss).length := by
    show spot + ((enc ss).length + 1) = _
    omega
  rw [es] at k
  refine ⟨_, rfl, a, dx, _, rfl, h1, hF_no (by decide +kernel), _, rfl, r, dxr, _, rfl, q1, rF_no (by decide +kernel), r, nl, ms, spot, ss, t, rfl, O.rd, hm, hl, fun H1 E1 p R1 k1 sE en hs => ?_⟩
  obtain ⟨D1, HA1, sED, W⟩ := O.go k1 R1 sE en k
  exact ⟨D1, a, fl, g, p, ss, rfl, HA1, O.gd, hs.same sED, enc_small hm hl, W⟩
theorem scDoGone : FnScope ["house", "reader"] ["house", "reader"] (defScope (sDo 1)) := ⟨rfl, rfl, rfl, by decide +kernel, rfl, by decide +kernel, by decide +kernel⟩
theorem ok_doGone {f : Addr} {fd : FuncData} (F : Fun K "do_gone" "do_gone" (sDo 1) f fd) (CA : Met P w K mg base 2 CH "gone" (spGone K CH)) (CT : Met P w K mg base 1 CR "taken" (spTaken CR)) : FnOk P w K mg base CX0 4 f fd ["house", "reader"] (spDeed K CH CR 1) := by
  refine F.ok scDoGone spDeed_len (fun cdv A outer s H vs Q E hr h => ?_)
  obtain ⟨D, a, fl, r, nl, ms, g, spot, c, t, rfl, O, hop, hm, hl, hf, k⟩ := h
  refine ⟨_, pss_one (ps_ret (C8.pe_mt CA hr (by decide) (pv 0) (pa_cons (C8.pe_mt0 CT hr (by decide) (pv 1)) pa_nil))), ?_⟩
  obtain ⟨s0, d1, d2, dx, ml, bl, fv, h1, h2, h3, h4, h5⟩ := id O.ha
  obtain ⟨dxr, q1, q2⟩ := id O.rd
  obtain ⟨n, rfl⟩ := op_gone hop
  have hm : ms.drop spot = n :: t := hm
  refine ⟨_, rfl, a, dx, _, rfl, h1, hF_no (by decide +kernel), _, rfl, r, dxr, _, rfl, q1, rF_no (by decide +kernel), r, nl, ms, spot, n, rfl, O.rd, (drop_at hm).1, fun H1 R1 k1 => ?_⟩
  obtain ⟨D1, HA1, sED, W⟩ := O.go (E := fun _ => none) k1 R1 (fun b o e => by cases e) (fun _ _ _ => rfl) k
  exact ⟨D1, a, fl, g, n, rfl, HA1, O.gd, W⟩
theorem scDoMemory : FnScope ["house", "reader"] ["house", "reader"] (defScope (sDo 2)) := ⟨rfl, rfl, rfl, by decide +kernel, rfl, by decide +kernel, by decide +kernel⟩
theorem ok_doMemory {f : Addr} {fd : FuncData} (F : Fun K "do_memory" "do_memory" (sDo 2) f fd) (CA : Met P w K mg base 3 CH "set_memory" (spSetMemory K CH)) (CS : Met P w K mg base 3 CR "sentences" (spSentences CR)) : FnOk P w K mg base CX0 4 f fd ["house", "reader"] (spDeed K CH CR 2) := by
  refine F.ok scDoMemory spDeed_len (fun cdv A outer s H vs Q E hr h => ?_)
  obtain ⟨D, a, fl, r, nl, ms, g, spot, c, t, rfl, O, hop, hm, hl, hf, k⟩ := h
  refine ⟨_, pss_one (ps_ret (C8.pe_mt CA hr (by decide) (pv 0) (pa_cons (C8.pe_mt0 CS hr (by decide) (pv 1)) pa_nil))), ?_⟩
  obtain ⟨s0, d1, d2, dx, ml, bl, fv, h1, h2, h3, h4, h5⟩ := id O.ha
  obtain ⟨dxr, q1, q2⟩ := id O.rd
  obtain ⟨ss, rfl⟩ := op_memory hop
  have hm : ms.drop spot = (enc ss).length :: (enc ss ++ t) := hm
  have es : spot + (tailOf (.memory ss)).length = spot + 1 + (enc ss).length := by
    show spot + ((enc ss).length + 1) = _
    omega
  rw [es] at k
  refine ⟨_, rfl, a, dx, _, rfl, h1, hF_no (by decide +kernel), _, rfl, r, dxr, _, rfl, q1, rF_no (by decide +kernel), r, nl, ms, spot, ss, t, rfl, O.rd, hm, hl, fun H1 E1 p R1 k1 sE en hs => ?_⟩
  obtain ⟨D1, HA1, sED, W⟩ := O.go k1 R1 sE en k
  exact ⟨D1, a, fl, g, p, ss, rfl, HA1, O.gd, hs.same sED, enc_small hm hl, W⟩
theorem scDoDone : FnScope ["house", "reader"] ["house", "reader"] (defScope (sDo 3)) := ⟨rfl, rfl, rfl, by decide +kernel, rfl, by decide +kernel, by decide +kernel⟩
theorem ok_doDone {f : Addr} {fd : FuncData} (F : Fun K "do_done" "do_done" (sDo 3) f fd) (CA : Met P w K mg base 3 CH "done" (spDone K CH)) (CT : Met P w K mg base 1 CR "taken" (spTaken CR)) : FnOk P w K mg base CX0 4 f fd ["house", "reader"] (spDeed K CH CR 3) := by
  refine F.ok scDoDone spDeed_len (fun cdv A outer s H vs Q E hr h => ?_)
  obtain ⟨D, a, fl, r, nl, ms, g, spot, c, t, rfl, O, hop, hm, hl, hf, k⟩ := h
  refine ⟨_, pss_one (ps_ret (C8.pe_mt CA hr (by decide) (pv 0) (pa_cons (C8.pe_mt0 CT hr (by decide) (pv 1)) pa_nil))), ?_⟩
  obtain ⟨s0, d1, d2, dx, ml, bl, fv, h1, h2, h3, h4, h5⟩ := id O.ha
  obtain ⟨dxr, q1, q2⟩ := id O.rd
  obtain ⟨n, rfl⟩ := op_done hop
  have hm : ms.drop spot = n :: t := hm
  refine ⟨_, rfl, a, dx, _, rfl, h1, hF_no (by decide +kernel), _, rfl, r, dxr, _, rfl, q1, rF_no (by decide +kernel), r, nl, ms, spot, n, rfl, O.rd, (drop_at hm).1, fun H1 R1 k1 => ?_⟩
  obtain ⟨D1, HA1, sED, W⟩ := O.go (E := fun _ => none) k1 R1 (fun b o e => by cases e) (fun _ _ _ => rfl) k
  exact ⟨D1, a, fl, g, n, rfl, HA1, O.gd, W⟩
theorem scDoRates : FnScope ["house", "reader", "again"] ["house", "reader"] (defScope (sDo 4)) := ⟨rfl, rfl, rfl, by decide +kernel, rfl, by decide +kernel, by decide +kernel⟩
theorem ok_doRates {f : Addr} {fd : FuncData} (F : Fun K "do_rates" "do_rates" (sDo 4) f fd) (CA : Met P w K mg base 2 CH "rates" (spRates K CH)) (CT : Met P w K mg base 1 CR "taken" (spTaken CR)) (CP : Met P w K mg base 3 CR "pairs" (spPairs K CR)) : FnOk P w K mg base CX0 4 f fd ["house", "reader"] (spDeed K CH CR 4) := by
  refine F.ok scDoRates spDeed_len (fun cdv A outer s H vs Q E hr h => ?_)
  obtain ⟨D, a, fl, r, nl, ms, g, spot, c, t, rfl, O, hop, hm, hl, hf, k⟩ := h
  refine ⟨_, pss_cons (ps_set (i := 2) scDoRates.nd rfl (Or.inl rfl) (C8.pe_mt0 CT hr (by decide) (pv 1))) (pss_one (ps_ret (C8.pe_mt CA hr (by decide) (pv 0) (pa_cons (pv 2) (pa_cons (C8.pe_mt0 CP hr (by decide) (pv 1)) pa_nil))))), ?_⟩
  obtain ⟨s0, d1, d2, dx, ml, bl, fv, h1, h2, h3, h4, h5⟩ := id O.ha
  obtain ⟨dxr, q1, q2⟩ := id O.rd
  obtain ⟨n, bs, rfl⟩ := op_rates hop
  have hm : ms.drop spot = n :: ((encB bs).length :: (encB bs ++ t)) := hm
  have es : spot + (tailOf (.rates n bs)).length = spot + 1 + 1 + (encB bs).length := by
    show spot + ((encB bs).length + 1 + 1) = _
    omega
  rw [es] at k
  obtain ⟨hx, hm1, _⟩ := drop_at hm
  refine ⟨_, rfl, r, dxr, _, rfl, q1, rF_no (by decide +kernel), r, nl, ms, spot, n, rfl, O.rd, hx, fun H1 R1 k1 => ?_⟩
  obtain ⟨dx1, p1, p2⟩ := id R1
  refine ⟨_, rfl, a, dx, _, rfl, k1 _ _ h1 O.ar, hF_no (by decide +kernel), _, rfl, _, rfl, r, dx1, _, rfl, p1, rF_no (by decide +kernel), r, nl, ms, spot + 1, bs, t, rfl, R1, hm1, hl, fun H2 E2 p R2 k2 sE en hs => ?_⟩
  have en0 : ∀ b o, H b = some o → E2 b = none := fun b o e => by
    by_cases z : b = r
    · rw [z]; exact en _ _ p1
    · exact en b o (k1 b o e z)
  obtain ⟨D1, HA1, sED, W⟩ := O.go (k1.trans k2) R2 sE en0 k
  exact ⟨D1, a, fl, g, n, p, bs, rfl, HA1, O.gd, hs.same sED, W⟩
theorem scDoCount : FnScope ["house", "reader"] ["house", "reader"] (defScope (sDo 5)) := ⟨rfl, rfl, rfl, by decide +kernel, rfl, by decide +kernel, by decide +kernel⟩
theorem ok_doCount {f : Addr} {fd : FuncData} (F : Fun K "do_count" "do_count" (sDo 5) f fd) (CA : Met P w K mg base 8 CH "count" (spCount K CH)) (CR2 : Met P w K mg base 2 CR "row" (spRow CR)) : FnOk P w K mg base CX0 9 f fd ["house", "reader"] (spDeed K CH CR 5) := by
  refine F.ok scDoCount spDeed_len (fun cdv A outer s H vs Q E hr h => ?_)
  obtain ⟨D, a, fl, r, nl, ms, g, spot, c, t, rfl, O, hop, hm, hl, hf, k⟩ := h
  refine ⟨_, pss_one (ps_ret (C8.pe_mt CA hr (by decide) (pv 0) (pa_cons (C8.pe_mt0 CR2 hr (by decide) (pv 1)) pa_nil))), ?_⟩
  obtain ⟨s0, d1, d2, dx, ml, bl, fv, h1, h2, h3, h4, h5⟩ := id O.ha
  obtain ⟨dxr, q1, q2⟩ := id O.rd
  obtain ⟨l, rfl⟩ := op_count hop
  have hm : ms.drop spot = l.length :: (l ++ t) := hm
  have es : spot + (tailOf (.count l)).length = spot + 1 + l.length := by
    show spot + (l.length + 1) = _
    omega
  rw [es] at k
  refine ⟨_, rfl, a, dx, _, rfl, h1, hF_no (by decide +kernel), _, rfl, r, dxr, _, rfl, q1, rF_no (by decide +kernel), r, nl, ms, spot, l, t, rfl, O.rd, hm, hl, fun H1 p R1 k1 hp0 hp1 => ?_⟩
  obtain ⟨D1, HA1, sED, W⟩ := O.go (E := fun _ => none) k1 R1 (fun b o e => by cases e) (fun _ _ _ => rfl) k
  exact ⟨D1, a, fl, p, g, l, rfl, HA1, O.gd, hp1, hf, W⟩
theorem scDoKinds : FnScope ["house", "reader"] ["house", "reader"] (defScope (sDo 6)) := ⟨rfl, rfl, rfl, by decide +kernel, rfl, by decide +kernel, by decide +kernel⟩
theorem ok_doKinds {f : Addr} {fd : FuncData} (F : Fun K "do_kinds" "do_kinds" (sDo 6) f fd) (CA : Met P w K mg base 7 CH "kinds" (spKinds K CH)) (CR2 : Met P w K mg base 2 CR "row" (spRow CR)) : FnOk P w K mg base CX0 9 f fd ["house", "reader"] (spDeed K CH CR 6) := by
  refine F.ok scDoKinds spDeed_len (fun cdv A outer s H vs Q E hr h => ?_)
  obtain ⟨D, a, fl, r, nl, ms, g, spot, c, t, rfl, O, hop, hm, hl, hf, k⟩ := h
  refine ⟨_, pss_one (ps_ret (C8.pe_mt CA hr (by decide) (pv 0) (pa_cons (C8.pe_mt0 CR2 hr (by decide) (pv 1)) pa_nil))), ?_⟩
  obtain ⟨s0, d1, d2, dx, ml, bl, fv, h1, h2, h3, h4, h5⟩ := id O.ha
  obtain ⟨dxr, q1, q2⟩ := id O.rd
  obtain ⟨l, rfl⟩ := op_kinds hop
  have hm : ms.drop spot = l.length :: (l ++ t) := hm
  have es : spot + (tailOf (.kinds l)).length = spot + 1 + l.length := by
    show spot + (l.length + 1) = _
    omega
  rw [es] at k
  refine ⟨_, rfl, a, dx, _, rfl, h1, hF_no (by decide +kernel), _, rfl, r, dxr, _, rfl, q1, rF_no (by decide +kernel), r, nl, ms, spot, l, t, rfl, O.rd, hm, hl, fun H1 p R1 k1 hp0 hp1 => ?_⟩
  obtain ⟨D1, HA1, sED, W⟩ := O.go (E := fun _ => none) k1 R1 (fun b o e => by cases e) (fun _ _ _ => rfl) k
  exact ⟨D1, a, fl, p, g, l, rfl, HA1, O.gd, hp1, hf, W⟩
theorem scDoPart : FnScope ["house", "reader"] ["house", "reader"] (defScope (sDo 7)) := ⟨rfl, rfl, rfl, by decide +kernel, rfl, by decide +kernel, by decide +kernel⟩
theorem ok_doPart {f : Addr} {fd : FuncData} (F : Fun K "do_part" "do_part" (sDo 7) f fd) (CA : Met P w K mg base 8 CH "part" (spPart K CH)) (CT : Met P w K mg base 1 CR "taken" (spTaken CR)) : FnOk P w K mg base CX0 9 f fd ["house", "reader"] (spDeed K CH CR 7) := by
  refine F.ok scDoPart spDeed_len (fun cdv A outer s H vs Q E hr h => ?_)
  obtain ⟨D, a, fl, r, nl, ms, g, spot, c, t, rfl, O, hop, hm, hl, hf, k⟩ := h
  refine ⟨_, pss_one (ps_ret (C8.pe_mt CA hr (by decide) (pv 0) (pa_cons (C8.pe_mt0 CT hr (by decide) (pv 1)) pa_nil))), ?_⟩
  obtain ⟨s0, d1, d2, dx, ml, bl, fv, h1, h2, h3, h4, h5⟩ := id O.ha
  obtain ⟨dxr, q1, q2⟩ := id O.rd
  obtain ⟨n, rfl⟩ := op_part hop
  have hm : ms.drop spot = n :: t := hm
  refine ⟨_, rfl, a, dx, _, rfl, h1, hF_no (by decide +kernel), _, rfl, r, dxr, _, rfl, q1, rF_no (by decide +kernel), r, nl, ms, spot, n, rfl, O.rd, (drop_at hm).1, fun H1 R1 k1 => ?_⟩
  obtain ⟨D1, HA1, sED, W⟩ := O.go (E := fun _ => none) k1 R1 (fun b o e => by cases e) (fun _ _ _ => rfl) k
  exact ⟨D1, a, fl, g, n, rfl, HA1, O.gd, W⟩
theorem scDoNear : FnScope ["house", "reader"] ["house", "reader"] (defScope (sDo 8)) := ⟨rfl, rfl, rfl, by decide +kernel, rfl, by decide +kernel, by decide +kernel⟩
theorem ok_doNear {f : Addr} {fd : FuncData} (F : Fun K "do_near" "do_near" (sDo 8) f fd) (CA : Met P w K mg base 4 CH "near" (spHNear K CH)) (CS : Met P w K mg base 3 CR "sentences" (spSentences CR)) : FnOk P w K mg base CX0 9 f fd ["house", "reader"] (spDeed K CH CR 8) := by
  refine F.ok scDoNear spDeed_len (fun cdv A outer s H vs Q E hr h => ?_)
  obtain ⟨D, a, fl, r, nl, ms, g, spot, c, t, rfl, O, hop, hm, hl, hf, k⟩ := h
  refine ⟨_, pss_one (ps_ret (C8.pe_mt CA hr (by decide) (pv 0) (pa_cons (C8.pe_mt0 CS hr (by decide) (pv 1)) pa_nil))), ?_⟩
  obtain ⟨s0, d1, d2, dx, ml, bl, fv, h1, h2, h3, h4, h5⟩ := id O.ha
  obtain ⟨dxr, q1, q2⟩ := id O.rd
  obtain ⟨x, y, rfl⟩ := op_near hop
  have hm : ms.drop spot = (enc [x, y]).length :: (enc [x, y] ++ t) := hm
  have es : spot + (tailOf (.near x y)).length = spot + 1 + (enc [x, y]).length := by
    show spot + ((enc [x, y]).length + 1) = _
    omega
  rw [es] at k
  refine ⟨_, rfl, a, dx, _, rfl, h1, hF_no (by decide +kernel), _, rfl, r, dxr, _, rfl, q1, rF_no (by decide +kernel), r, nl, ms, spot, [x, y], t, rfl, O.rd, hm, hl, fun H1 E1 p R1 k1 sE en hs => ?_⟩
  obtain ⟨D1, HA1, sED, W⟩ := O.go k1 R1 sE en k
  exact ⟨D1, a, fl, g, p, x, y, rfl, HA1, O.gd, hs.same sED, W⟩
theorem scDoShows : FnScope ["house", "reader"] ["house", "reader"] (defScope (sDo 9)) := ⟨rfl, rfl, rfl, by decide +kernel, rfl, by decide +kernel, by decide +kernel⟩
theorem ok_doShows {f : Addr} {fd : FuncData} (F : Fun K "do_shows" "do_shows" (sDo 9) f fd) (CA : Met P w K mg base 1 CH "shows" (spShows K CH)) : FnOk P w K mg base CX0 9 f fd ["house", "reader"] (spDeed K CH CR 9) := by
  refine F.ok scDoShows spDeed_len (fun cdv A outer s H vs Q E hr h => ?_)
  obtain ⟨D, a, fl, r, nl, ms, g, spot, c, t, rfl, O, hop, hm, hl, hf, k⟩ := h
  refine ⟨_, pss_one (ps_ret (C8.pe_mt0 CA hr (by decide) (pv 0))), ?_⟩
  obtain ⟨s0, d1, d2, dx, ml, bl, fv, h1, h2, h3, h4, h5⟩ := id O.ha
  cases op_shows hop
  obtain ⟨D1, HA1, sED, W⟩ := O.go (E := fun _ => none) (Same.kept (Same.refl H)) O.rd (fun b o e => by cases e) (fun _ _ _ => rfl) k
  exact ⟨_, rfl, a, dx, _, rfl, h1, hF_no (by decide +kernel), D1, a, fl, g, rfl, HA1, O.gd, W⟩
end
end Wc

set_option Elab.async false
set_option linter.all false
set_option maxRecDepth 100000
set_option maxHeartbeats 2000000
namespace Wc
open PySem PySem.Spec PyProof.Rows L2
theorem lt_big {n : Nat} (h : n ≤ 10000000) : n < sizeLine := Nat.lt_of_le_of_lt h (by decide)
theorem out_cons (g : Ut10.St) (c : Ut10.Call) (cs : List Ut10.Call) : out g (c :: cs) = ((Ut10.step g c).2.length : Int) :: ((Ut10.step g c).2 ++ out (Ut10.step g c).1 cs) := rfl
section
variable {P : Program} {w : World} {K : PySem.W.Frag} {mg : Str → Option Value} {base : Heap} {CH CR : Addr}
/-- the text's DEEDS -/
structure TD (P : Program) (w : World) (K : PySem.W.Frag) (mg : Str → Option Value) (base : Heap) (CH CR : Addr) : Prop where
  ex : ∃ (t : Addr) (fs : List Addr), mg "DEEDS" = some (.ref t) ∧ KT K t (fs.map V.ref) ∧ fs.length = 10 ∧ ∀ i f, fs[i]? = some f → Held P w K mg base 9 f (spDeed K CH CR i)
def spAns (K : PySem.W.Frag) : Sp := fun vs H Q _ => ∃ (a : Addr) (ms : List Nat), vs = [.ref a] ∧ SqL K H a (nvs ms) ∧ ms.length ≤ 8000 ∧ PyUt10.answers_asked (zs ms) = true ∧ ∀ (H' : Hp) (p : Addr), H' p = some (.lst ((PyUt10.answers (zs ms)).map V.int)) → Q (.ref p) H'
theorem scAns : FnScope ["calls", "house", "reader", "found", "deed", "told"] ["calls"] (defScope sAnswers) := ⟨rfl, rfl, rfl, by decide +kernel, rfl, by decide +kernel, by decide +kernel⟩
/-- a store to another list leaves the office as it is -/
theorem Off.other {D H : Hp} {a fl r nl : Addr} {ms : List Nat} {g : Ut10.St} {spot : Nat} {b : Addr} {o : HO} (O : Off K CH CR D H a fl r nl ms g spot) (h1 : a ≠ b) (h2 : fl ≠ b) (h3 : r ≠ b) (h4 : nl ≠ b) (h5 : D b = none) : Off K CH CR D (upd H b o) a fl r nl ms g spot := by
  obtain ⟨s0, d1, d2, dx, ml, bl, fv, q1, q2, q3, q4, q5⟩ := O.ha
  obtain ⟨dxr, p1, p2⟩ := O.rd
  exact ⟨⟨same_own s0 h5, d1, d2, dx, ml, bl, fv, by rw [upd_ne h1]; exact q1, by rw [upd_ne h2]; exact q2, q3, q4, q5⟩, O.gd, ⟨dxr, by rw [upd_ne h3]; exact p1, by rw [upd_ne h4]; exact p2⟩, O.ar, O.nf, O.dr⟩
theorem ok_ans {f fH fR : Addr} {fd fdH fdR : FuncData} (F : Fun K "answers" "answers" sAnswers f fd) (T : Txt mg) (gH : mg "House" = some (.ref CH)) (gR : mg "Reader" = some (.ref CR))
    (MH : Mk K CH fH) (GH : FnOk P w K mg base CX0 1 fH fdH ["self"] (spHInit K CH)) (bH : Binds K fdH ["self"] []) (MR : Mk K CR fR) (GR : FnOk P w K mg base CX0 1 fR fdR ["self", "numbers"] (spRInit CR)) (bR : Binds K fdR ["self", "numbers"] [])
    (CL : Met P w K mg base 1 CR "is_left" (spIsLeft CR)) (CT : Met P w K mg base 1 CR "taken" (spTaken CR)) (DD : TD P w K mg base CH CR) : FnOk P w K mg base CX0 10 f fd ["calls"] (spAns K) := by
  refine F.ok scAns (fun vs H Q E h => ?_) (fun cdv A outer s H vs Q E hr h => ?_)
  · obtain ⟨a, ms, rfl, _⟩ := h
    rfl
  · obtain ⟨c0, ms, rfl, hS, hlen, hask, k⟩ := h
    obtain ⟨td, fs, hmg, ktd, hfs, held⟩ := DD.ex
    refine ⟨_, pss_cons (ps_par (i := 1) (j := 2) rfl scAns.nd rfl rfl (by decide) rfl rfl (pa_cons (pe_make0 MH GH (hr.mono (by decide)) (by rfl) gH bH .nil pass0) (pa_cons (pe_make MR GR (hr.mono (by decide)) (by rfl) gR bR .nil pass0 (pa_cons (pe_callTy call_list_of (by rfl) T.list (by decide +kernel) (pa_cons (pv 0) pa_nil)) pa_nil)) pa_nil)) (by rfl))
      (pss_cons (ps_set (i := 3) scAns.nd rfl (Or.inl rfl) (pe_lst pa_nil))
      (pss_cons (ps_while PassesOwn.never (pt_val (C8.pe_mt0 CL hr (by decide) (pv 2)))
        (pss_cons (ps_set (i := 4) scAns.nd rfl (Or.inl rfl) (pe_ix ix_tup (pe_glob (v := .ref td) (by rfl) hmg rfl) (C8.pe_mt0 CT hr (by decide) (pv 2)) (fun _ _ => rfl)))
        (pss_cons (ps_set (i := 5) scAns.nd rfl (Or.inl rfl) (pe_callH (i := 4) hr rfl (by exact Or.inl rfl) (pa_cons (pv 1) (pa_cons (pv 2) pa_nil))))
        (pss_cons (ps_expr (pe_bm PySem.F.plainAttrs_list PySem.F.slot_list_append PySem.F.type_list_append mt_append (pv 3) (pa_cons (pe_callB call_len_seq (by rfl) T.len PySem.boot_len (pa_cons (pv 5) pa_nil)) pa_nil)))
        (pss_one (ps_expr (pe_bm PySem.F.plainAttrs_list PySem.F.slot_list_extend PySem.F.type_list_extend mt_extend (pv 3) (pa_cons (pv 5) pa_nil))))))))
      (pss_one (ps_ret (pv 3))))), ?_⟩
    -- House()
    intro x dx nx ndx nex
    have s0 : Same H (upd (upd H dx (.own x)) x (.ins CH dx [])) := fun b o e => by
      rw [upd_ne (ne_of_none e nx), upd_ne (ne_of_none e ndx)]
      exact e
    refine ⟨x, dx, rfl, upd_same, fun H1 D fl HA kp1 en1 hfl => ⟨rfl, ?_⟩⟩
    have s1 : Same H H1 := fun b o e => kp1 b o (s0 b o e) (ne_of_none e nx)
    have nDx : ∀ b o, H b = some o → D b = none := fun b o e => en1 b o (s0 b o e)
    -- list(calls), Reader(..)
    refine ⟨_, rfl, c0, _, rfl, .inl (s1.seq hS), fun nl hnl => ?_⟩
    have s2 := same_new (o := .lst (nvs ms)) hnl
    intro r dr nr ndr ner
    have s3 : Same (upd H1 nl (.lst (nvs ms))) (upd (upd (upd H1 nl (.lst (nvs ms))) dr (.own r)) r (.ins CR dr [])) := fun b o e => by
      rw [upd_ne (ne_of_none e nr), upd_ne (ne_of_none e ndr)]
      exact e
    refine ⟨r, dr, nl, ms, rfl, upd_same, s3 _ _ upd_same, fun H4 R4 kp4 => ⟨rfl, _, _, rfl, ?_⟩⟩
    have nrl : r ≠ nl := fun z => by
      rw [z, upd_same] at nr
      cases nr
    have s4 : Same H1 H4 := fun b o e => kp4 b o (s3 _ _ (s2 _ _ e)) (fun z => by
      have := s2 _ _ e
      rw [z, nr] at this
      cases this)
    have HA4 := HA.same s4
    obtain ⟨q0, q1, q2, dxh, ml, bl, fv, q3, q4, _⟩ := id HA
    have nrx : x ≠ r := fun z => by
      have := s2 _ _ q3
      rw [z, nr] at this
      cases this
    have nlf : nl ≠ fl := (ne_of_none q4 hnl).symm
    have nH1r : H1 r = none := by
      cases q : H1 r with
      | none => rfl
      | some o =>
        have := s2 _ _ q
        rw [nr] at this
        cases this
    have O4 : Off K CH CR D H4 x fl r nl ms Ut10.init 0 := ⟨HA4, good_init, R4, nrx, nlf, q0.free nH1r⟩
    -- found = []
    refine ⟨Nat.zero_le _, fun fo hfo => ?_⟩
    obtain ⟨dxr, p1, p2⟩ := id R4
    have nxf : x ≠ fo := ne_of_none (s4 _ _ q3) hfo
    have nff : fl ≠ fo := ne_of_none (s4 _ _ q4) hfo
    have nrf : r ≠ fo := ne_of_none p1 hfo
    have nnf : nl ≠ fo := ne_of_none p2 hfo
    have dfo : D fo = none := HA4.1.free hfo
    obtain ⟨cs, ecs, hfit, eans, hout⟩ := asked_calls hask
    refine ⟨fun m σ H' => ∃ (g : Ut10.St) (cs : List Ut10.Call) (fl : Addr) (D : Hp) (spot : Nat) (acc : List Int) (u v : Option V), m = cs.length ∧ σ = [some (.ref c0), some (.ref x), some (.ref r), some (.ref fo), u, v] ∧ Off K CH CR D H' x fl r nl ms g spot ∧
      ms.drop spot = cs.flatMap encC ∧ (∀ c ∈ cs, fits c) ∧ H' fo = some (.lst (acc.map V.int)) ∧ D fo = none ∧ fl ≠ fo ∧ acc ++ out g cs = PyUt10.answers (zs ms),
      ⟨cs.length, Ut10.init, cs, fl, D, 0, [], none, none, rfl, rfl, O4.other nxf nff nrf nnf dfo, ecs, hfit, upd_same, dfo, nff, eans.symm⟩, ?_⟩
    rintro m σ H5 ⟨g, cs, fl, D, spot, acc, u, v, rfl, rfl, O, hm, hft, hfo5, dfo5, nff5, htot⟩
    obtain ⟨dx5, r1, r2⟩ := id O.rd
    refine ⟨_, rfl, r, dx5, _, rfl, r1, rF_no (by decide +kernel), r, nl, ms, spot, rfl, O.rd, _, rfl, ?_⟩
    cases cs with
    | nil =>
      have hs : ¬ spot < ms.length := by
        have := congrArg List.length hm
        rw [List.length_drop] at this
        have e : (([] : List Ut10.Call).flatMap encC).length = 0 := rfl
        omega
      refine ifF (decide_eq_false hs) ⟨_, rfl, k _ fo ?_⟩
      have e : out g [] = [] := rfl
      rw [e, List.append_nil] at htot
      rw [hfo5, htot]
    | cons c cs =>
      rw [List.flatMap_cons, enc_op, List.cons_append] at hm
      obtain ⟨hx, hm1, hlt⟩ := drop_at hm
      have hol := op_lt c
      have efs : fs[opOf c]? = some fs[opOf c] := List.getElem?_eq_getElem (by omega)
      refine ifT (decide_eq_true hlt) ?_
      refine ⟨fun σ' H' => ∃ m', m' < (c :: cs).length ∧ ∃ (g : Ut10.St) (cs : List Ut10.Call) (fl : Addr) (D : Hp) (spot : Nat) (acc : List Int) (u v : Option V), m' = cs.length ∧ σ' = [some (.ref c0), some (.ref x), some (.ref r), some (.ref fo), u, v] ∧ Off K CH CR D H' x fl r nl ms g spot ∧
        ms.drop spot = cs.flatMap encC ∧ (∀ c ∈ cs, fits c) ∧ H' fo = some (.lst (acc.map V.int)) ∧ D fo = none ∧ fl ≠ fo ∧ acc ++ out g cs = PyUt10.answers (zs ms), fun σ' H' z => z, ?_⟩
      refine ⟨_, rfl, r, dx5, _, rfl, r1, rF_no (by decide +kernel), r, nl, ms, spot, opOf c, rfl, O.rd, hx, fun H6 R6 k6 => ?_⟩
      have eft : (fs.map V.ref)[opOf c]? = some (V.ref fs[opOf c]) := by rw [List.getElem?_map, efs]; rfl
      refine ⟨td, _, (opOf c : Int), .ref fs[opOf c], rfl, rfl, ktd.sq, atI_nat eft, ?_⟩
      -- the deed
      obtain ⟨D6, HA6, sE6, W6⟩ : ∃ D6, Off K CH CR D6 H6 x fl r nl ms g (spot + 1) ∧ D6 = D ∧ True := by
        refine ⟨D, ⟨?_, O.gd, R6, O.ar, O.nf, O.dr⟩, rfl, trivial⟩
        obtain ⟨z0, z1, z2, dxz, mlz, blz, fvz, z3, z4, z5, z6, z7⟩ := id O.ha
        exact ⟨fun b o e => k6 b o (z0 b o e) (fun y => by rw [y, O.dr] at e; cases e), z1, z2, dxz, mlz, blz, fvz, k6 _ _ z3 O.ar, k6 _ _ z4 (ne_of z4 r1 (by intro y; cases y)), z5, z6, z7⟩
      subst sE6
      have hfo6 := k6 _ _ hfo5 nrf.symm
      refine ⟨fs[opOf c], spDeed K CH CR (opOf c), rfl, held _ _ efs, _, rfl, _, rfl, D6, x, fl, r, nl, ms, g, spot + 1, c, cs.flatMap encC, rfl, HA6, rfl, hm1, by omega, hft c List.mem_cons_self, fun H7 D7 fl7 p O7 ke7 nD7 nf7 hp hans => ?_⟩
      have hfo7 := ke7 _ _ hfo6 nxf.symm nff5.symm nrf.symm
      have npf : p ≠ fo := (ne_of_none hfo6 hp).symm
      have nff7 : fl7 ≠ fo := by
        rcases nf7 with z | z
        · rw [z]; exact nff5
        · exact (ne_of_none hfo6 z).symm
      have dfo7 : D7 fo = none := nD7 _ _ hfo6 dfo5
      have hlen2 : (acc ++ out g (c :: cs)).length ≤ 10000000 := by rw [htot, eans]; exact hout
      rw [out_cons, List.length_append, List.length_cons, List.length_append] at hlen2
      refine ⟨_, rfl, .inl ⟨rfl, _, SqL.of hfo7⟩, _, rfl, p, _, rfl, .inl (SqL.of hans), fo, _, _, rfl, rfl, hfo7, ?_, ?_⟩
      · rw [List.length_map]
        exact lt_big (by omega)
      refine ⟨_, rfl, .inl ⟨rfl, _, SqL.of upd_same⟩, _, rfl, fo, p, _, _, rfl, rfl, upd_same, by rw [upd_ne npf]; exact hans, ?_, ?_⟩
      · rw [List.length_append, List.length_map, List.length_singleton, List.length_map]
        exact Nat.le_of_lt (lt_big (by omega))
      rw [upd_upd]
      refine ⟨cs.length, Nat.lt_succ_self _, (Ut10.step g c).1, cs, fl7, D7, spot + 1 + (tailOf c).length, acc ++ (((Ut10.step g c).2.length : Int) :: (Ut10.step g c).2), _, _, rfl, rfl, O7.other nxf nff7 nrf nnf dfo7, drop_app hm1, fun y hy => hft y (List.mem_cons_of_mem _ hy), ?_, dfo7, nff7, ?_⟩
      · rw [upd_same, List.map_append, List.map_cons, List.length_map, List.append_assoc]
        rfl
      · rw [List.append_assoc, List.cons_append, ← out_cons]
        exact htot
end
end Wc

set_option Elab.async false
set_option linter.all false
set_option maxRecDepth 100000
set_option maxHeartbeats 8000000
namespace Wc
open PySem PySem.Spec PyProof.Rows L2
theorem kt_mk {K : PySem.W.Frag} {a : Addr} {xs : List V} {us : List Value} {od : Option Addr} {n : Nat} {sl : Array (Option Value)} (l : K.lookup a = some ⟨.type "tuple", od, .seq (Array.mk us) n, sl⟩) (h : us.length ≤ sizeLine) (r : Vals xs us) : KT K a xs := ⟨_, _, _, l, rfl, rfl, h, r⟩
theorem nvs_zs (ms : List Nat) : nvs ms = (zs ms).map V.int := nvs_ints ms
theorem of_bounds : ∀ l : List Int, l.all (PySem.W.Codec.inInt 0 4294967295) = true → ∃ ms, l = zs ms
  | [], _ => ⟨[], rfl⟩
  | z :: l, h => by
    rw [List.all_cons, Bool.and_eq_true] at h
    obtain ⟨ms, e⟩ := of_bounds l h.2
    have hz := (PySem.W.Codec.inInt_iff.mp h.1).1
    refine ⟨z.toNat :: ms, ?_⟩
    show z :: l = ((z.toNat : Nat) : Int) :: zs ms
    rw [e]
    have : ((z.toNat : Nat) : Int) = z := by omega
    rw [this]
/-! ### what the top has written. Every address is a letter -/
theorem all_mk {P : Program} {w : World} {K : PySem.W.Frag} {h : Heap} {mg : Str → Option Value} {fa CH CR tB tB1 tB2 tD f_allDeals f_loads f_isBetter f_bestDeal f_nextRow f_changes f_near f_nearest f_bandOf f_kindOf f_kindsOf f_paid f_counted f_weight f_countsOf f_isSentence f_areSentences f_areBands f_wordsIn f_do0 f_do1 f_do2 f_do3 f_do4 f_do5 f_do6 f_do7 f_do8 f_do9 f_answers f_hInit f_fileOf f_fileNumbers f_addFile f_gone f_setMemory f_done f_rates f_areFiles f_job f_count f_kinds f_part f_hNear f_shows f_rInit f_isLeft f_taken f_row f_sentences f_pairs : Addr} (X : K.In h) (G : h.Ns mainGlobals mg) (hfa : mg "answers" = some (.ref fa))
    {od_allDeals an_allDeals od_loads an_loads od_isBetter an_isBetter od_bestDeal an_bestDeal od_nextRow an_nextRow od_changes an_changes od_near an_near od_nearest an_nearest od_bandOf an_bandOf od_kindOf an_kindOf od_kindsOf an_kindsOf od_paid an_paid od_counted an_counted od_weight an_weight od_countsOf an_countsOf od_isSentence an_isSentence od_areSentences an_areSentences od_areBands an_areBands od_wordsIn an_wordsIn od_do0 an_do0 od_do1 an_do1 od_do2 an_do2 od_do3 an_do3 od_do4 an_do4 od_do5 an_do5 od_do6 an_do6 od_do7 an_do7 od_do8 an_do8 od_do9 an_do9 od_answers an_answers od_hInit an_hInit od_fileOf an_fileOf od_fileNumbers an_fileNumbers od_addFile an_addFile od_gone an_gone od_setMemory an_setMemory od_done an_done od_rates an_rates od_areFiles an_areFiles od_job an_job od_count an_count od_kinds an_kinds od_part an_part od_hNear an_hNear od_shows an_shows od_rInit an_rInit od_isLeft an_isLeft od_taken an_taken od_row an_row od_sentences an_sentences od_pairs an_pairs : Option Addr} {od_tB od_tB1 od_tB2 od_tD : Option Addr} {n_tB n_tB1 n_tB2 n_tD : Nat} {sl_tB sl_tB1 sl_tB2 sl_tD : Array (Option Value)} {t_1 t_2 t_3 t_4 t_HUNDRED t_REPEATED t_MOST_SENTENCES t_MOST_WORDS t_MOST_WORD t_MOST_FILES t_MOST_MEMORY t_MOST_BANDS t_MOST_HANDS t_HUNDREDTHS t_AGAIN : Tok}
    {sl_allDeals sl_loads sl_isBetter sl_bestDeal sl_nextRow sl_changes sl_near sl_nearest sl_bandOf sl_kindOf sl_kindsOf sl_paid sl_counted sl_weight sl_countsOf sl_isSentence sl_areSentences sl_areBands sl_wordsIn sl_do0 sl_do1 sl_do2 sl_do3 sl_do4 sl_do5 sl_do6 sl_do7 sl_do8 sl_do9 sl_answers sl_hInit sl_fileOf sl_fileNumbers sl_addFile sl_gone sl_setMemory sl_done sl_rates sl_areFiles sl_job sl_count sl_kinds sl_part sl_hNear sl_shows sl_rInit sl_isLeft sl_taken sl_row sl_sentences sl_pairs : Array (Option Value)}
    {oc_allDeals kV_allDeals dc_allDeals pm_allDeals cd_allDeals ct_allDeals oc_loads kV_loads dc_loads pm_loads cd_loads ct_loads oc_isBetter kV_isBetter dc_isBetter pm_isBetter cd_isBetter ct_isBetter oc_bestDeal kV_bestDeal dc_bestDeal pm_bestDeal cd_bestDeal ct_bestDeal oc_nextRow kV_nextRow dc_nextRow pm_nextRow cd_nextRow ct_nextRow oc_changes kV_changes dc_changes pm_changes cd_changes ct_changes oc_near kV_near dc_near pm_near cd_near ct_near oc_nearest kV_nearest dc_nearest pm_nearest cd_nearest ct_nearest oc_bandOf kV_bandOf dc_bandOf pm_bandOf cd_bandOf ct_bandOf oc_kindOf kV_kindOf dc_kindOf pm_kindOf cd_kindOf ct_kindOf oc_kindsOf kV_kindsOf dc_kindsOf pm_kindsOf cd_kindsOf ct_kindsOf oc_paid kV_paid dc_paid pm_paid cd_paid ct_paid oc_counted kV_counted dc_counted pm_counted cd_counted ct_counted oc_weight kV_weight dc_weight pm_weight cd_weight ct_weight oc_countsOf kV_countsOf dc_countsOf pm_countsOf cd_countsOf ct_countsOf oc_isSentence kV_isSentence dc_isSentence pm_isSentence cd_isSentence ct_isSentence oc_areSentences kV_areSentences dc_areSentences pm_areSentences cd_areSentences ct_areSentences oc_areBands kV_areBands dc_areBands pm_areBands cd_areBands ct_areBands oc_wordsIn kV_wordsIn dc_wordsIn pm_wordsIn cd_wordsIn ct_wordsIn oc_do0 kV_do0 dc_do0 pm_do0 cd_do0 ct_do0 oc_do1 kV_do1 dc_do1 pm_do1 cd_do1 ct_do1 oc_do2 kV_do2 dc_do2 pm_do2 cd_do2 ct_do2 oc_do3 kV_do3 dc_do3 pm_do3 cd_do3 ct_do3 oc_do4 kV_do4 dc_do4 pm_do4 cd_do4 ct_do4 oc_do5 kV_do5 dc_do5 pm_do5 cd_do5 ct_do5 oc_do6 kV_do6 dc_do6 pm_do6 cd_do6 ct_do6 oc_do7 kV_do7 dc_do7 pm_do7 cd_do7 ct_do7 oc_do8 kV_do8 dc_do8 pm_do8 cd_do8 ct_do8 oc_do9 kV_do9 dc_do9 pm_do9 cd_do9 ct_do9 oc_answers kV_answers dc_answers pm_answers cd_answers ct_answers oc_hInit kV_hInit dc_hInit pm_hInit cd_hInit ct_hInit oc_fileOf kV_fileOf dc_fileOf pm_fileOf cd_fileOf ct_fileOf oc_fileNumbers kV_fileNumbers dc_fileNumbers pm_fileNumbers cd_fileNumbers ct_fileNumbers oc_addFile kV_addFile dc_addFile pm_addFile cd_addFile ct_addFile oc_gone kV_gone dc_gone pm_gone cd_gone ct_gone oc_setMemory kV_setMemory dc_setMemory pm_setMemory cd_setMemory ct_setMemory oc_done kV_done dc_done pm_done cd_done ct_done oc_rates kV_rates dc_rates pm_rates cd_rates ct_rates oc_areFiles kV_areFiles dc_areFiles pm_areFiles cd_areFiles ct_areFiles oc_job kV_job dc_job pm_job cd_job ct_job oc_count kV_count dc_count pm_count cd_count ct_count oc_kinds kV_kinds dc_kinds pm_kinds cd_kinds ct_kinds oc_part kV_part dc_part pm_part cd_part ct_part oc_hNear kV_hNear dc_hNear pm_hNear cd_hNear ct_hNear oc_shows kV_shows dc_shows pm_shows cd_shows ct_shows oc_rInit kV_rInit dc_rInit pm_rInit cd_rInit ct_rInit oc_isLeft kV_isLeft dc_isLeft pm_isLeft cd_isLeft ct_isLeft oc_taken kV_taken dc_taken pm_taken cd_taken ct_taken oc_row kV_row dc_row pm_row cd_row ct_row oc_sentences kV_sentences dc_sentences pm_sentences cd_sentences ct_sentences oc_pairs kV_pairs dc_pairs pm_pairs cd_pairs ct_pairs : Value}
    (a_allDeals : PySem.W.nsIn K mainGlobals "all_deals" = some (some (.ref f_allDeals)))
    (l_allDeals : K.lookup f_allDeals = some ⟨oc_allDeals, od_allDeals, .func (PySem.W.fnOf "all_deals" "all_deals" (defArgs sAllDeals) (defBody sAllDeals) (defScope sAllDeals) .none kV_allDeals dc_allDeals pm_allDeals an_allDeals cd_allDeals ct_allDeals), sl_allDeals⟩)
    (c_allDeals : PySem.W.codeIn K cd_allDeals "all_deals" = true)
    (k_allDeals : PySem.W.keepIn K (.ref f_allDeals) = true)
    (a_loads : PySem.W.nsIn K mainGlobals "loads" = some (some (.ref f_loads)))
    (l_loads : K.lookup f_loads = some ⟨oc_loads, od_loads, .func (PySem.W.fnOf "loads" "loads" (defArgs sLoads) (defBody sLoads) (defScope sLoads) .none kV_loads dc_loads pm_loads an_loads cd_loads ct_loads), sl_loads⟩)
    (c_loads : PySem.W.codeIn K cd_loads "loads" = true)
    (k_loads : PySem.W.keepIn K (.ref f_loads) = true)
    (a_isBetter : PySem.W.nsIn K mainGlobals "is_better" = some (some (.ref f_isBetter)))
    (l_isBetter : K.lookup f_isBetter = some ⟨oc_isBetter, od_isBetter, .func (PySem.W.fnOf "is_better" "is_better" (defArgs sIsBetter) (defBody sIsBetter) (defScope sIsBetter) .none kV_isBetter dc_isBetter pm_isBetter an_isBetter cd_isBetter ct_isBetter), sl_isBetter⟩)
    (c_isBetter : PySem.W.codeIn K cd_isBetter "is_better" = true)
    (k_isBetter : PySem.W.keepIn K (.ref f_isBetter) = true)
    (a_bestDeal : PySem.W.nsIn K mainGlobals "best_deal" = some (some (.ref f_bestDeal)))
    (l_bestDeal : K.lookup f_bestDeal = some ⟨oc_bestDeal, od_bestDeal, .func (PySem.W.fnOf "best_deal" "best_deal" (defArgs sBestDeal) (defBody sBestDeal) (defScope sBestDeal) .none kV_bestDeal dc_bestDeal pm_bestDeal an_bestDeal cd_bestDeal ct_bestDeal), sl_bestDeal⟩)
    (c_bestDeal : PySem.W.codeIn K cd_bestDeal "best_deal" = true)
    (k_bestDeal : PySem.W.keepIn K (.ref f_bestDeal) = true)
    (a_nextRow : PySem.W.nsIn K mainGlobals "next_row" = some (some (.ref f_nextRow)))
    (l_nextRow : K.lookup f_nextRow = some ⟨oc_nextRow, od_nextRow, .func (PySem.W.fnOf "next_row" "next_row" (defArgs sNextRow) (defBody sNextRow) (defScope sNextRow) .none kV_nextRow dc_nextRow pm_nextRow an_nextRow cd_nextRow ct_nextRow), sl_nextRow⟩)
    (c_nextRow : PySem.W.codeIn K cd_nextRow "next_row" = true)
    (k_nextRow : PySem.W.keepIn K (.ref f_nextRow) = true)
    (a_changes : PySem.W.nsIn K mainGlobals "changes" = some (some (.ref f_changes)))
    (l_changes : K.lookup f_changes = some ⟨oc_changes, od_changes, .func (PySem.W.fnOf "changes" "changes" (defArgs sChanges) (defBody sChanges) (defScope sChanges) .none kV_changes dc_changes pm_changes an_changes cd_changes ct_changes), sl_changes⟩)
    (c_changes : PySem.W.codeIn K cd_changes "changes" = true)
    (k_changes : PySem.W.keepIn K (.ref f_changes) = true)
    (a_near : PySem.W.nsIn K mainGlobals "near" = some (some (.ref f_near)))
    (l_near : K.lookup f_near = some ⟨oc_near, od_near, .func (PySem.W.fnOf "near" "near" (defArgs sNear) (defBody sNear) (defScope sNear) .none kV_near dc_near pm_near an_near cd_near ct_near), sl_near⟩)
    (c_near : PySem.W.codeIn K cd_near "near" = true)
    (k_near : PySem.W.keepIn K (.ref f_near) = true)
    (a_nearest : PySem.W.nsIn K mainGlobals "nearest" = some (some (.ref f_nearest)))
    (l_nearest : K.lookup f_nearest = some ⟨oc_nearest, od_nearest, .func (PySem.W.fnOf "nearest" "nearest" (defArgs sNearest) (defBody sNearest) (defScope sNearest) .none kV_nearest dc_nearest pm_nearest an_nearest cd_nearest ct_nearest), sl_nearest⟩)
    (c_nearest : PySem.W.codeIn K cd_nearest "nearest" = true)
    (k_nearest : PySem.W.keepIn K (.ref f_nearest) = true)
    (a_bandOf : PySem.W.nsIn K mainGlobals "band_of" = some (some (.ref f_bandOf)))
    (l_bandOf : K.lookup f_bandOf = some ⟨oc_bandOf, od_bandOf, .func (PySem.W.fnOf "band_of" "band_of" (defArgs sBandOf) (defBody sBandOf) (defScope sBandOf) .none kV_bandOf dc_bandOf pm_bandOf an_bandOf cd_bandOf ct_bandOf), sl_bandOf⟩)
    (c_bandOf : PySem.W.codeIn K cd_bandOf "band_of" = true)
    (k_bandOf : PySem.W.keepIn K (.ref f_bandOf) = true)
    (a_kindOf : PySem.W.nsIn K mainGlobals "kind_of" = some (some (.ref f_kindOf)))
    (l_kindOf : K.lookup f_kindOf = some ⟨oc_kindOf, od_kindOf, .func (PySem.W.fnOf "kind_of" "kind_of" (defArgs sKindOf) (defBody sKindOf) (defScope sKindOf) .none kV_kindOf dc_kindOf pm_kindOf an_kindOf cd_kindOf ct_kindOf), sl_kindOf⟩)
    (c_kindOf : PySem.W.codeIn K cd_kindOf "kind_of" = true)
    (k_kindOf : PySem.W.keepIn K (.ref f_kindOf) = true)
    (a_kindsOf : PySem.W.nsIn K mainGlobals "kinds_of" = some (some (.ref f_kindsOf)))
    (l_kindsOf : K.lookup f_kindsOf = some ⟨oc_kindsOf, od_kindsOf, .func (PySem.W.fnOf "kinds_of" "kinds_of" (defArgs sKindsOf) (defBody sKindsOf) (defScope sKindsOf) .none kV_kindsOf dc_kindsOf pm_kindsOf an_kindsOf cd_kindsOf ct_kindsOf), sl_kindsOf⟩)
    (c_kindsOf : PySem.W.codeIn K cd_kindsOf "kinds_of" = true)
    (k_kindsOf : PySem.W.keepIn K (.ref f_kindsOf) = true)
    (a_paid : PySem.W.nsIn K mainGlobals "paid" = some (some (.ref f_paid)))
    (l_paid : K.lookup f_paid = some ⟨oc_paid, od_paid, .func (PySem.W.fnOf "paid" "paid" (defArgs sPaid) (defBody sPaid) (defScope sPaid) .none kV_paid dc_paid pm_paid an_paid cd_paid ct_paid), sl_paid⟩)
    (c_paid : PySem.W.codeIn K cd_paid "paid" = true)
    (k_paid : PySem.W.keepIn K (.ref f_paid) = true)
    (a_counted : PySem.W.nsIn K mainGlobals "counted" = some (some (.ref f_counted)))
    (l_counted : K.lookup f_counted = some ⟨oc_counted, od_counted, .func (PySem.W.fnOf "counted" "counted" (defArgs sCounted) (defBody sCounted) (defScope sCounted) .none kV_counted dc_counted pm_counted an_counted cd_counted ct_counted), sl_counted⟩)
    (c_counted : PySem.W.codeIn K cd_counted "counted" = true)
    (k_counted : PySem.W.keepIn K (.ref f_counted) = true)
    (a_weight : PySem.W.nsIn K mainGlobals "weight" = some (some (.ref f_weight)))
    (l_weight : K.lookup f_weight = some ⟨oc_weight, od_weight, .func (PySem.W.fnOf "weight" "weight" (defArgs sWeight) (defBody sWeight) (defScope sWeight) .none kV_weight dc_weight pm_weight an_weight cd_weight ct_weight), sl_weight⟩)
    (c_weight : PySem.W.codeIn K cd_weight "weight" = true)
    (k_weight : PySem.W.keepIn K (.ref f_weight) = true)
    (a_countsOf : PySem.W.nsIn K mainGlobals "counts_of" = some (some (.ref f_countsOf)))
    (l_countsOf : K.lookup f_countsOf = some ⟨oc_countsOf, od_countsOf, .func (PySem.W.fnOf "counts_of" "counts_of" (defArgs sCountsOf) (defBody sCountsOf) (defScope sCountsOf) .none kV_countsOf dc_countsOf pm_countsOf an_countsOf cd_countsOf ct_countsOf), sl_countsOf⟩)
    (c_countsOf : PySem.W.codeIn K cd_countsOf "counts_of" = true)
    (k_countsOf : PySem.W.keepIn K (.ref f_countsOf) = true)
    (a_isSentence : PySem.W.nsIn K mainGlobals "is_sentence" = some (some (.ref f_isSentence)))
    (l_isSentence : K.lookup f_isSentence = some ⟨oc_isSentence, od_isSentence, .func (PySem.W.fnOf "is_sentence" "is_sentence" (defArgs sIsSentence) (defBody sIsSentence) (defScope sIsSentence) .none kV_isSentence dc_isSentence pm_isSentence an_isSentence cd_isSentence ct_isSentence), sl_isSentence⟩)
    (c_isSentence : PySem.W.codeIn K cd_isSentence "is_sentence" = true)
    (k_isSentence : PySem.W.keepIn K (.ref f_isSentence) = true)
    (a_areSentences : PySem.W.nsIn K mainGlobals "are_sentences" = some (some (.ref f_areSentences)))
    (l_areSentences : K.lookup f_areSentences = some ⟨oc_areSentences, od_areSentences, .func (PySem.W.fnOf "are_sentences" "are_sentences" (defArgs sAreSentences) (defBody sAreSentences) (defScope sAreSentences) .none kV_areSentences dc_areSentences pm_areSentences an_areSentences cd_areSentences ct_areSentences), sl_areSentences⟩)
    (c_areSentences : PySem.W.codeIn K cd_areSentences "are_sentences" = true)
    (k_areSentences : PySem.W.keepIn K (.ref f_areSentences) = true)
    (a_areBands : PySem.W.nsIn K mainGlobals "are_bands" = some (some (.ref f_areBands)))
    (l_areBands : K.lookup f_areBands = some ⟨oc_areBands, od_areBands, .func (PySem.W.fnOf "are_bands" "are_bands" (defArgs sAreBands) (defBody sAreBands) (defScope sAreBands) .none kV_areBands dc_areBands pm_areBands an_areBands cd_areBands ct_areBands), sl_areBands⟩)
    (c_areBands : PySem.W.codeIn K cd_areBands "are_bands" = true)
    (k_areBands : PySem.W.keepIn K (.ref f_areBands) = true)
    (a_wordsIn : PySem.W.nsIn K mainGlobals "words_in" = some (some (.ref f_wordsIn)))
    (l_wordsIn : K.lookup f_wordsIn = some ⟨oc_wordsIn, od_wordsIn, .func (PySem.W.fnOf "words_in" "words_in" (defArgs sWordsIn) (defBody sWordsIn) (defScope sWordsIn) .none kV_wordsIn dc_wordsIn pm_wordsIn an_wordsIn cd_wordsIn ct_wordsIn), sl_wordsIn⟩)
    (c_wordsIn : PySem.W.codeIn K cd_wordsIn "words_in" = true)
    (k_wordsIn : PySem.W.keepIn K (.ref f_wordsIn) = true)
    (a_do0 : PySem.W.nsIn K mainGlobals "do_file" = some (some (.ref f_do0)))
    (l_do0 : K.lookup f_do0 = some ⟨oc_do0, od_do0, .func (PySem.W.fnOf "do_file" "do_file" (defArgs (sDo 0)) (defBody (sDo 0)) (defScope (sDo 0)) .none kV_do0 dc_do0 pm_do0 an_do0 cd_do0 ct_do0), sl_do0⟩)
    (c_do0 : PySem.W.codeIn K cd_do0 "do_file" = true)
    (k_do0 : PySem.W.keepIn K (.ref f_do0) = true)
    (a_do1 : PySem.W.nsIn K mainGlobals "do_gone" = some (some (.ref f_do1)))
    (l_do1 : K.lookup f_do1 = some ⟨oc_do1, od_do1, .func (PySem.W.fnOf "do_gone" "do_gone" (defArgs (sDo 1)) (defBody (sDo 1)) (defScope (sDo 1)) .none kV_do1 dc_do1 pm_do1 an_do1 cd_do1 ct_do1), sl_do1⟩)
    (c_do1 : PySem.W.codeIn K cd_do1 "do_gone" = true)
    (k_do1 : PySem.W.keepIn K (.ref f_do1) = true)
    (a_do2 : PySem.W.nsIn K mainGlobals "do_memory" = some (some (.ref f_do2)))
    (l_do2 : K.lookup f_do2 = some ⟨oc_do2, od_do2, .func (PySem.W.fnOf "do_memory" "do_memory" (defArgs (sDo 2)) (defBody (sDo 2)) (defScope (sDo 2)) .none kV_do2 dc_do2 pm_do2 an_do2 cd_do2 ct_do2), sl_do2⟩)
    (c_do2 : PySem.W.codeIn K cd_do2 "do_memory" = true)
    (k_do2 : PySem.W.keepIn K (.ref f_do2) = true)
    (a_do3 : PySem.W.nsIn K mainGlobals "do_done" = some (some (.ref f_do3)))
    (l_do3 : K.lookup f_do3 = some ⟨oc_do3, od_do3, .func (PySem.W.fnOf "do_done" "do_done" (defArgs (sDo 3)) (defBody (sDo 3)) (defScope (sDo 3)) .none kV_do3 dc_do3 pm_do3 an_do3 cd_do3 ct_do3), sl_do3⟩)
    (c_do3 : PySem.W.codeIn K cd_do3 "do_done" = true)
    (k_do3 : PySem.W.keepIn K (.ref f_do3) = true)
    (a_do4 : PySem.W.nsIn K mainGlobals "do_rates" = some (some (.ref f_do4)))
    (l_do4 : K.lookup f_do4 = some ⟨oc_do4, od_do4, .func (PySem.W.fnOf "do_rates" "do_rates" (defArgs (sDo 4)) (defBody (sDo 4)) (defScope (sDo 4)) .none kV_do4 dc_do4 pm_do4 an_do4 cd_do4 ct_do4), sl_do4⟩)
    (c_do4 : PySem.W.codeIn K cd_do4 "do_rates" = true)
    (k_do4 : PySem.W.keepIn K (.ref f_do4) = true)
    (a_do5 : PySem.W.nsIn K mainGlobals "do_count" = some (some (.ref f_do5)))
    (l_do5 : K.lookup f_do5 = some ⟨oc_do5, od_do5, .func (PySem.W.fnOf "do_count" "do_count" (defArgs (sDo 5)) (defBody (sDo 5)) (defScope (sDo 5)) .none kV_do5 dc_do5 pm_do5 an_do5 cd_do5 ct_do5), sl_do5⟩)
    (c_do5 : PySem.W.codeIn K cd_do5 "do_count" = true)
    (k_do5 : PySem.W.keepIn K (.ref f_do5) = true)
    (a_do6 : PySem.W.nsIn K mainGlobals "do_kinds" = some (some (.ref f_do6)))
    (l_do6 : K.lookup f_do6 = some ⟨oc_do6, od_do6, .func (PySem.W.fnOf "do_kinds" "do_kinds" (defArgs (sDo 6)) (defBody (sDo 6)) (defScope (sDo 6)) .none kV_do6 dc_do6 pm_do6 an_do6 cd_do6 ct_do6), sl_do6⟩)
    (c_do6 : PySem.W.codeIn K cd_do6 "do_kinds" = true)
    (k_do6 : PySem.W.keepIn K (.ref f_do6) = true)
    (a_do7 : PySem.W.nsIn K mainGlobals "do_part" = some (some (.ref f_do7)))
    (l_do7 : K.lookup f_do7 = some ⟨oc_do7, od_do7, .func (PySem.W.fnOf "do_part" "do_part" (defArgs (sDo 7)) (defBody (sDo 7)) (defScope (sDo 7)) .none kV_do7 dc_do7 pm_do7 an_do7 cd_do7 ct_do7), sl_do7⟩)
    (c_do7 : PySem.W.codeIn K cd_do7 "do_part" = true)
    (k_do7 : PySem.W.keepIn K (.ref f_do7) = true)
    (a_do8 : PySem.W.nsIn K mainGlobals "do_near" = some (some (.ref f_do8)))
    (l_do8 : K.lookup f_do8 = some ⟨oc_do8, od_do8, .func (PySem.W.fnOf "do_near" "do_near" (defArgs (sDo 8)) (defBody (sDo 8)) (defScope (sDo 8)) .none kV_do8 dc_do8 pm_do8 an_do8 cd_do8 ct_do8), sl_do8⟩)
    (c_do8 : PySem.W.codeIn K cd_do8 "do_near" = true)
    (k_do8 : PySem.W.keepIn K (.ref f_do8) = true)
    (a_do9 : PySem.W.nsIn K mainGlobals "do_shows" = some (some (.ref f_do9)))
    (l_do9 : K.lookup f_do9 = some ⟨oc_do9, od_do9, .func (PySem.W.fnOf "do_shows" "do_shows" (defArgs (sDo 9)) (defBody (sDo 9)) (defScope (sDo 9)) .none kV_do9 dc_do9 pm_do9 an_do9 cd_do9 ct_do9), sl_do9⟩)
    (c_do9 : PySem.W.codeIn K cd_do9 "do_shows" = true)
    (k_do9 : PySem.W.keepIn K (.ref f_do9) = true)
    (a_answers : PySem.W.nsIn K mainGlobals "answers" = some (some (.ref f_answers)))
    (l_answers : K.lookup f_answers = some ⟨oc_answers, od_answers, .func (PySem.W.fnOf "answers" "answers" (defArgs sAnswers) (defBody sAnswers) (defScope sAnswers) .none kV_answers dc_answers pm_answers an_answers cd_answers ct_answers), sl_answers⟩)
    (c_answers : PySem.W.codeIn K cd_answers "answers" = true)
    (k_answers : PySem.W.keepIn K (.ref f_answers) = true)
    (a_CH : PySem.W.nsIn K mainGlobals "House" = some (some (.ref CH)))
    (a_hInit : PySem.W.findIn K (.ref CH) "__init__" = some (some (.ref f_hInit)))
    (i_hInit : PySem.W.isFn K (.ref f_hInit) = true)
    (l_hInit : K.lookup f_hInit = some ⟨oc_hInit, od_hInit, .func (PySem.W.fnOf "__init__" "House.__init__" (defArgs sHInit) (defBody sHInit) (defScope sHInit) .none kV_hInit dc_hInit pm_hInit an_hInit cd_hInit ct_hInit), sl_hInit⟩)
    (c_hInit : PySem.W.codeIn K cd_hInit "House.__init__" = true)
    (k_hInit : PySem.W.keepIn K (.ref f_hInit) = true)
    (a_fileOf : PySem.W.findIn K (.ref CH) "file_of" = some (some (.ref f_fileOf)))
    (i_fileOf : PySem.W.isFn K (.ref f_fileOf) = true)
    (l_fileOf : K.lookup f_fileOf = some ⟨oc_fileOf, od_fileOf, .func (PySem.W.fnOf "file_of" "House.file_of" (defArgs sFileOf) (defBody sFileOf) (defScope sFileOf) .none kV_fileOf dc_fileOf pm_fileOf an_fileOf cd_fileOf ct_fileOf), sl_fileOf⟩)
    (c_fileOf : PySem.W.codeIn K cd_fileOf "House.file_of" = true)
    (k_fileOf : PySem.W.keepIn K (.ref f_fileOf) = true)
    (a_fileNumbers : PySem.W.findIn K (.ref CH) "file_numbers" = some (some (.ref f_fileNumbers)))
    (i_fileNumbers : PySem.W.isFn K (.ref f_fileNumbers) = true)
    (l_fileNumbers : K.lookup f_fileNumbers = some ⟨oc_fileNumbers, od_fileNumbers, .func (PySem.W.fnOf "file_numbers" "House.file_numbers" (defArgs sFileNumbers) (defBody sFileNumbers) (defScope sFileNumbers) .none kV_fileNumbers dc_fileNumbers pm_fileNumbers an_fileNumbers cd_fileNumbers ct_fileNumbers), sl_fileNumbers⟩)
    (c_fileNumbers : PySem.W.codeIn K cd_fileNumbers "House.file_numbers" = true)
    (k_fileNumbers : PySem.W.keepIn K (.ref f_fileNumbers) = true)
    (a_addFile : PySem.W.findIn K (.ref CH) "add_file" = some (some (.ref f_addFile)))
    (i_addFile : PySem.W.isFn K (.ref f_addFile) = true)
    (l_addFile : K.lookup f_addFile = some ⟨oc_addFile, od_addFile, .func (PySem.W.fnOf "add_file" "House.add_file" (defArgs sAddFile) (defBody sAddFile) (defScope sAddFile) .none kV_addFile dc_addFile pm_addFile an_addFile cd_addFile ct_addFile), sl_addFile⟩)
    (c_addFile : PySem.W.codeIn K cd_addFile "House.add_file" = true)
    (k_addFile : PySem.W.keepIn K (.ref f_addFile) = true)
    (a_gone : PySem.W.findIn K (.ref CH) "gone" = some (some (.ref f_gone)))
    (i_gone : PySem.W.isFn K (.ref f_gone) = true)
    (l_gone : K.lookup f_gone = some ⟨oc_gone, od_gone, .func (PySem.W.fnOf "gone" "House.gone" (defArgs sGone) (defBody sGone) (defScope sGone) .none kV_gone dc_gone pm_gone an_gone cd_gone ct_gone), sl_gone⟩)
    (c_gone : PySem.W.codeIn K cd_gone "House.gone" = true)
    (k_gone : PySem.W.keepIn K (.ref f_gone) = true)
    (a_setMemory : PySem.W.findIn K (.ref CH) "set_memory" = some (some (.ref f_setMemory)))
    (i_setMemory : PySem.W.isFn K (.ref f_setMemory) = true)
    (l_setMemory : K.lookup f_setMemory = some ⟨oc_setMemory, od_setMemory, .func (PySem.W.fnOf "set_memory" "House.set_memory" (defArgs sSetMemory) (defBody sSetMemory) (defScope sSetMemory) .none kV_setMemory dc_setMemory pm_setMemory an_setMemory cd_setMemory ct_setMemory), sl_setMemory⟩)
    (c_setMemory : PySem.W.codeIn K cd_setMemory "House.set_memory" = true)
    (k_setMemory : PySem.W.keepIn K (.ref f_setMemory) = true)
    (a_done : PySem.W.findIn K (.ref CH) "done" = some (some (.ref f_done)))
    (i_done : PySem.W.isFn K (.ref f_done) = true)
    (l_done : K.lookup f_done = some ⟨oc_done, od_done, .func (PySem.W.fnOf "done" "House.done" (defArgs sDone) (defBody sDone) (defScope sDone) .none kV_done dc_done pm_done an_done cd_done ct_done), sl_done⟩)
    (c_done : PySem.W.codeIn K cd_done "House.done" = true)
    (k_done : PySem.W.keepIn K (.ref f_done) = true)
    (a_rates : PySem.W.findIn K (.ref CH) "rates" = some (some (.ref f_rates)))
    (i_rates : PySem.W.isFn K (.ref f_rates) = true)
    (l_rates : K.lookup f_rates = some ⟨oc_rates, od_rates, .func (PySem.W.fnOf "rates" "House.rates" (defArgs sRates) (defBody sRates) (defScope sRates) .none kV_rates dc_rates pm_rates an_rates cd_rates ct_rates), sl_rates⟩)
    (c_rates : PySem.W.codeIn K cd_rates "House.rates" = true)
    (k_rates : PySem.W.keepIn K (.ref f_rates) = true)
    (a_areFiles : PySem.W.findIn K (.ref CH) "are_files" = some (some (.ref f_areFiles)))
    (i_areFiles : PySem.W.isFn K (.ref f_areFiles) = true)
    (l_areFiles : K.lookup f_areFiles = some ⟨oc_areFiles, od_areFiles, .func (PySem.W.fnOf "are_files" "House.are_files" (defArgs sAreFiles) (defBody sAreFiles) (defScope sAreFiles) .none kV_areFiles dc_areFiles pm_areFiles an_areFiles cd_areFiles ct_areFiles), sl_areFiles⟩)
    (c_areFiles : PySem.W.codeIn K cd_areFiles "House.are_files" = true)
    (k_areFiles : PySem.W.keepIn K (.ref f_areFiles) = true)
    (a_job : PySem.W.findIn K (.ref CH) "job" = some (some (.ref f_job)))
    (i_job : PySem.W.isFn K (.ref f_job) = true)
    (l_job : K.lookup f_job = some ⟨oc_job, od_job, .func (PySem.W.fnOf "job" "House.job" (defArgs sJob) (defBody sJob) (defScope sJob) .none kV_job dc_job pm_job an_job cd_job ct_job), sl_job⟩)
    (c_job : PySem.W.codeIn K cd_job "House.job" = true)
    (k_job : PySem.W.keepIn K (.ref f_job) = true)
    (a_count : PySem.W.findIn K (.ref CH) "count" = some (some (.ref f_count)))
    (i_count : PySem.W.isFn K (.ref f_count) = true)
    (l_count : K.lookup f_count = some ⟨oc_count, od_count, .func (PySem.W.fnOf "count" "House.count" (defArgs sCount) (defBody sCount) (defScope sCount) .none kV_count dc_count pm_count an_count cd_count ct_count), sl_count⟩)
    (c_count : PySem.W.codeIn K cd_count "House.count" = true)
    (k_count : PySem.W.keepIn K (.ref f_count) = true)
    (a_kinds : PySem.W.findIn K (.ref CH) "kinds" = some (some (.ref f_kinds)))
    (i_kinds : PySem.W.isFn K (.ref f_kinds) = true)
    (l_kinds : K.lookup f_kinds = some ⟨oc_kinds, od_kinds, .func (PySem.W.fnOf "kinds" "House.kinds" (defArgs sKinds) (defBody sKinds) (defScope sKinds) .none kV_kinds dc_kinds pm_kinds an_kinds cd_kinds ct_kinds), sl_kinds⟩)
    (c_kinds : PySem.W.codeIn K cd_kinds "House.kinds" = true)
    (k_kinds : PySem.W.keepIn K (.ref f_kinds) = true)
    (a_part : PySem.W.findIn K (.ref CH) "part" = some (some (.ref f_part)))
    (i_part : PySem.W.isFn K (.ref f_part) = true)
    (l_part : K.lookup f_part = some ⟨oc_part, od_part, .func (PySem.W.fnOf "part" "House.part" (defArgs sPart) (defBody sPart) (defScope sPart) .none kV_part dc_part pm_part an_part cd_part ct_part), sl_part⟩)
    (c_part : PySem.W.codeIn K cd_part "House.part" = true)
    (k_part : PySem.W.keepIn K (.ref f_part) = true)
    (a_hNear : PySem.W.findIn K (.ref CH) "near" = some (some (.ref f_hNear)))
    (i_hNear : PySem.W.isFn K (.ref f_hNear) = true)
    (l_hNear : K.lookup f_hNear = some ⟨oc_hNear, od_hNear, .func (PySem.W.fnOf "near" "House.near" (defArgs sHNear) (defBody sHNear) (defScope sHNear) .none kV_hNear dc_hNear pm_hNear an_hNear cd_hNear ct_hNear), sl_hNear⟩)
    (c_hNear : PySem.W.codeIn K cd_hNear "House.near" = true)
    (k_hNear : PySem.W.keepIn K (.ref f_hNear) = true)
    (a_shows : PySem.W.findIn K (.ref CH) "shows" = some (some (.ref f_shows)))
    (i_shows : PySem.W.isFn K (.ref f_shows) = true)
    (l_shows : K.lookup f_shows = some ⟨oc_shows, od_shows, .func (PySem.W.fnOf "shows" "House.shows" (defArgs sShows) (defBody sShows) (defScope sShows) .none kV_shows dc_shows pm_shows an_shows cd_shows ct_shows), sl_shows⟩)
    (c_shows : PySem.W.codeIn K cd_shows "House.shows" = true)
    (k_shows : PySem.W.keepIn K (.ref f_shows) = true)
    (pg_CH : PySem.W.plainGet K CH Str.empty = true)
    (hd_CH : PySem.W.hasDictIn K CH = true)
    (po_CH : PySem.W.plainOver K CH = true)
    (sa_CH : PySem.W.findIn K (.ref CH) "__setattr__" = some (some (.builtin "object.__setattr__")))
    (mk_CH : PySem.W.makesIn K CH = true)
    (kc_CH : PySem.W.keepIn K (.ref CH) = true)
    (n_CH_files : PySem.W.findIn K (.ref CH) "files" = some none)
    (n_CH_given : PySem.W.findIn K (.ref CH) "given" = some none)
    (n_CH_memory : PySem.W.findIn K (.ref CH) "memory" = some none)
    (n_CH_bands : PySem.W.findIn K (.ref CH) "bands" = some none)
    (n_CH_again : PySem.W.findIn K (.ref CH) "again" = some none)
    (a_CR : PySem.W.nsIn K mainGlobals "Reader" = some (some (.ref CR)))
    (a_rInit : PySem.W.findIn K (.ref CR) "__init__" = some (some (.ref f_rInit)))
    (i_rInit : PySem.W.isFn K (.ref f_rInit) = true)
    (l_rInit : K.lookup f_rInit = some ⟨oc_rInit, od_rInit, .func (PySem.W.fnOf "__init__" "Reader.__init__" (defArgs sRInit) (defBody sRInit) (defScope sRInit) .none kV_rInit dc_rInit pm_rInit an_rInit cd_rInit ct_rInit), sl_rInit⟩)
    (c_rInit : PySem.W.codeIn K cd_rInit "Reader.__init__" = true)
    (k_rInit : PySem.W.keepIn K (.ref f_rInit) = true)
    (a_isLeft : PySem.W.findIn K (.ref CR) "is_left" = some (some (.ref f_isLeft)))
    (i_isLeft : PySem.W.isFn K (.ref f_isLeft) = true)
    (l_isLeft : K.lookup f_isLeft = some ⟨oc_isLeft, od_isLeft, .func (PySem.W.fnOf "is_left" "Reader.is_left" (defArgs sIsLeft) (defBody sIsLeft) (defScope sIsLeft) .none kV_isLeft dc_isLeft pm_isLeft an_isLeft cd_isLeft ct_isLeft), sl_isLeft⟩)
    (c_isLeft : PySem.W.codeIn K cd_isLeft "Reader.is_left" = true)
    (k_isLeft : PySem.W.keepIn K (.ref f_isLeft) = true)
    (a_taken : PySem.W.findIn K (.ref CR) "taken" = some (some (.ref f_taken)))
    (i_taken : PySem.W.isFn K (.ref f_taken) = true)
    (l_taken : K.lookup f_taken = some ⟨oc_taken, od_taken, .func (PySem.W.fnOf "taken" "Reader.taken" (defArgs sTaken) (defBody sTaken) (defScope sTaken) .none kV_taken dc_taken pm_taken an_taken cd_taken ct_taken), sl_taken⟩)
    (c_taken : PySem.W.codeIn K cd_taken "Reader.taken" = true)
    (k_taken : PySem.W.keepIn K (.ref f_taken) = true)
    (a_row : PySem.W.findIn K (.ref CR) "row" = some (some (.ref f_row)))
    (i_row : PySem.W.isFn K (.ref f_row) = true)
    (l_row : K.lookup f_row = some ⟨oc_row, od_row, .func (PySem.W.fnOf "row" "Reader.row" (defArgs sRow) (defBody sRow) (defScope sRow) .none kV_row dc_row pm_row an_row cd_row ct_row), sl_row⟩)
    (c_row : PySem.W.codeIn K cd_row "Reader.row" = true)
    (k_row : PySem.W.keepIn K (.ref f_row) = true)
    (a_sentences : PySem.W.findIn K (.ref CR) "sentences" = some (some (.ref f_sentences)))
    (i_sentences : PySem.W.isFn K (.ref f_sentences) = true)
    (l_sentences : K.lookup f_sentences = some ⟨oc_sentences, od_sentences, .func (PySem.W.fnOf "sentences" "Reader.sentences" (defArgs sSentences) (defBody sSentences) (defScope sSentences) .none kV_sentences dc_sentences pm_sentences an_sentences cd_sentences ct_sentences), sl_sentences⟩)
    (c_sentences : PySem.W.codeIn K cd_sentences "Reader.sentences" = true)
    (k_sentences : PySem.W.keepIn K (.ref f_sentences) = true)
    (a_pairs : PySem.W.findIn K (.ref CR) "pairs" = some (some (.ref f_pairs)))
    (i_pairs : PySem.W.isFn K (.ref f_pairs) = true)
    (l_pairs : K.lookup f_pairs = some ⟨oc_pairs, od_pairs, .func (PySem.W.fnOf "pairs" "Reader.pairs" (defArgs sPairs) (defBody sPairs) (defScope sPairs) .none kV_pairs dc_pairs pm_pairs an_pairs cd_pairs ct_pairs), sl_pairs⟩)
    (c_pairs : PySem.W.codeIn K cd_pairs "Reader.pairs" = true)
    (k_pairs : PySem.W.keepIn K (.ref f_pairs) = true)
    (pg_CR : PySem.W.plainGet K CR Str.empty = true)
    (hd_CR : PySem.W.hasDictIn K CR = true)
    (po_CR : PySem.W.plainOver K CR = true)
    (sa_CR : PySem.W.findIn K (.ref CR) "__setattr__" = some (some (.builtin "object.__setattr__")))
    (mk_CR : PySem.W.makesIn K CR = true)
    (kc_CR : PySem.W.keepIn K (.ref CR) = true)
    (n_CR_numbers : PySem.W.findIn K (.ref CR) "numbers" = some none)
    (n_CR_spot : PySem.W.findIn K (.ref CR) "spot" = some none)
    (z_len : PySem.W.nsIn K mainGlobals "len" = some none)
    (z_max : PySem.W.nsIn K mainGlobals "max" = some none)
    (z_min : PySem.W.nsIn K mainGlobals "min" = some none)
    (z_sum : PySem.W.nsIn K mainGlobals "sum" = some none)
    (z_all : PySem.W.nsIn K mainGlobals "all" = some none)
    (z_int : PySem.W.nsIn K mainGlobals "int" = some none)
    (z_list : PySem.W.nsIn K mainGlobals "list" = some none)
    (z_set : PySem.W.nsIn K mainGlobals "set" = some none)
    (z_range : PySem.W.nsIn K mainGlobals "range" = some none)
    (z_enumerate : PySem.W.nsIn K mainGlobals "enumerate" = some none)
    (z_zip : PySem.W.nsIn K mainGlobals "zip" = some none)
    (n_HUNDRED : PySem.W.nsIn K mainGlobals "HUNDRED" = some (some (.int 100 t_HUNDRED)))
    (n_REPEATED : PySem.W.nsIn K mainGlobals "REPEATED" = some (some (.int 0 t_REPEATED)))
    (n_MOST_SENTENCES : PySem.W.nsIn K mainGlobals "MOST_SENTENCES" = some (some (.int 8 t_MOST_SENTENCES)))
    (n_MOST_WORDS : PySem.W.nsIn K mainGlobals "MOST_WORDS" = some (some (.int 10 t_MOST_WORDS)))
    (n_MOST_WORD : PySem.W.nsIn K mainGlobals "MOST_WORD" = some (some (.int 999 t_MOST_WORD)))
    (n_MOST_FILES : PySem.W.nsIn K mainGlobals "MOST_FILES" = some (some (.int 6 t_MOST_FILES)))
    (n_MOST_MEMORY : PySem.W.nsIn K mainGlobals "MOST_MEMORY" = some (some (.int 20 t_MOST_MEMORY)))
    (n_MOST_BANDS : PySem.W.nsIn K mainGlobals "MOST_BANDS" = some (some (.int 4 t_MOST_BANDS)))
    (n_MOST_HANDS : PySem.W.nsIn K mainGlobals "MOST_HANDS" = some (some (.int 4 t_MOST_HANDS)))
    (n_HUNDREDTHS : PySem.W.nsIn K mainGlobals "HUNDREDTHS" = some (some (.int 100 t_HUNDREDTHS)))
    (n_AGAIN : PySem.W.nsIn K mainGlobals "AGAIN" = some (some (.int 20 t_AGAIN)))
    (a_near2 : PySem.W.nsIn K mainGlobals "near_nearness" = some (some (.ref f_near)))
    (a_BANDS : PySem.W.nsIn K mainGlobals "BANDS" = some (some (.ref tB)))
    (l_tB : K.lookup tB = some ⟨.type "tuple", od_tB, .seq (Array.mk [.ref tB1, .ref tB2]) n_tB, sl_tB⟩)
    (l_tB1 : K.lookup tB1 = some ⟨.type "tuple", od_tB1, .seq (Array.mk [.int 100 t_1, .int 10 t_2]) n_tB1, sl_tB1⟩)
    (l_tB2 : K.lookup tB2 = some ⟨.type "tuple", od_tB2, .seq (Array.mk [.int 75 t_3, .int 60 t_4]) n_tB2, sl_tB2⟩)
    (a_DEEDS : PySem.W.nsIn K mainGlobals "DEEDS" = some (some (.ref tD)))
    (l_tD : K.lookup tD = some ⟨.type "tuple", od_tD, .seq (Array.mk [.ref f_do0, .ref f_do1, .ref f_do2, .ref f_do3, .ref f_do4, .ref f_do5, .ref f_do6, .ref f_do7, .ref f_do8, .ref f_do9]) n_tD, sl_tD⟩)
    : ∃ fd : FuncData, (∀ (s : Shared) (us : List Value), us.length = (["calls"] : List Str).length → BindsTo s fd ⟨us, []⟩ ((["calls"] : List Str).zip us)) ∧ ∀ base : Heap, K.In base → base.Ns mainGlobals mg → FnOk P w K mg base CX0 10 fa fd ["calls"] (spAns K) := by
  have e := hfa.symm.trans (PySem.W.mg_of X G a_answers)
  cases e
  have T : Txt mg := ⟨PySem.W.mg_none_of X G z_len, PySem.W.mg_none_of X G z_max, PySem.W.mg_none_of X G z_min, PySem.W.mg_none_of X G z_sum, PySem.W.mg_none_of X G z_all, PySem.W.mg_none_of X G z_int, PySem.W.mg_none_of X G z_list, PySem.W.mg_none_of X G z_set, PySem.W.mg_none_of X G z_range, PySem.W.mg_none_of X G z_enumerate, PySem.W.mg_none_of X G z_zip⟩
  have N_HUNDRED : Num mg "HUNDRED" 100 := ⟨_, PySem.W.mg_of X G n_HUNDRED, ⟨_, rfl⟩⟩
  have N_REPEATED : Num mg "REPEATED" 0 := ⟨_, PySem.W.mg_of X G n_REPEATED, ⟨_, rfl⟩⟩
  have N_MOST_SENTENCES : Num mg "MOST_SENTENCES" 8 := ⟨_, PySem.W.mg_of X G n_MOST_SENTENCES, ⟨_, rfl⟩⟩
  have N_MOST_WORDS : Num mg "MOST_WORDS" 10 := ⟨_, PySem.W.mg_of X G n_MOST_WORDS, ⟨_, rfl⟩⟩
  have N_MOST_WORD : Num mg "MOST_WORD" 999 := ⟨_, PySem.W.mg_of X G n_MOST_WORD, ⟨_, rfl⟩⟩
  have N_MOST_FILES : Num mg "MOST_FILES" 6 := ⟨_, PySem.W.mg_of X G n_MOST_FILES, ⟨_, rfl⟩⟩
  have N_MOST_MEMORY : Num mg "MOST_MEMORY" 20 := ⟨_, PySem.W.mg_of X G n_MOST_MEMORY, ⟨_, rfl⟩⟩
  have N_MOST_BANDS : Num mg "MOST_BANDS" 4 := ⟨_, PySem.W.mg_of X G n_MOST_BANDS, ⟨_, rfl⟩⟩
  have N_MOST_HANDS : Num mg "MOST_HANDS" 4 := ⟨_, PySem.W.mg_of X G n_MOST_HANDS, ⟨_, rfl⟩⟩
  have N_HUNDREDTHS : Num mg "HUNDREDTHS" 100 := ⟨_, PySem.W.mg_of X G n_HUNDREDTHS, ⟨_, rfl⟩⟩
  have N_AGAIN : Num mg "AGAIN" 20 := ⟨_, PySem.W.mg_of X G n_AGAIN, ⟨_, rfl⟩⟩
  have TCH : TH K CH := ⟨⟨pg_CH, hd_CH, po_CH, sa_CH⟩, n_CH_files, n_CH_given, n_CH_memory, n_CH_bands, n_CH_again⟩
  have TCR : TR K CR := ⟨⟨pg_CR, hd_CR, po_CR, sa_CR⟩, n_CR_numbers, n_CR_spot⟩
  have TBb : TB K mg := ⟨tB, tB1, tB2, PySem.W.mg_of X G a_BANDS, kt_mk l_tB (by show 2 ≤ sizeLine; decide) (.cons rfl (.cons rfl .nil)), kt_mk l_tB1 (by show 2 ≤ sizeLine; decide) (.cons ⟨_, rfl⟩ (.cons ⟨_, rfl⟩ .nil)), kt_mk l_tB2 (by show 2 ≤ sizeLine; decide) (.cons ⟨_, rfl⟩ (.cons ⟨_, rfl⟩ .nil))⟩
  have F_allDeals := fun_mk (st := sAllDeals) l_allDeals c_allDeals k_allDeals
  have b_allDeals := F_allDeals.binds (ps := ["files", "hands"]) fun _ _ _ _ _ _ us hl => match us, hl with | [_, _], _ => rfl
  have F_loads := fun_mk (st := sLoads) l_loads c_loads k_loads
  have b_loads := F_loads.binds (ps := ["deal", "weights", "hands"]) fun _ _ _ _ _ _ us hl => match us, hl with | [_, _, _], _ => rfl
  have F_isBetter := fun_mk (st := sIsBetter) l_isBetter c_isBetter k_isBetter
  have b_isBetter := F_isBetter.binds (ps := ["one", "other"]) fun _ _ _ _ _ _ us hl => match us, hl with | [_, _], _ => rfl
  have F_bestDeal := fun_mk (st := sBestDeal) l_bestDeal c_bestDeal k_bestDeal
  have b_bestDeal := F_bestDeal.binds (ps := ["weights", "hands"]) fun _ _ _ _ _ _ us hl => match us, hl with | [_, _], _ => rfl
  have F_nextRow := fun_mk (st := sNextRow) l_nextRow c_nextRow k_nextRow
  have b_nextRow := F_nextRow.binds (ps := ["row", "word", "other"]) fun _ _ _ _ _ _ us hl => match us, hl with | [_, _, _], _ => rfl
  have F_changes := fun_mk (st := sChanges) l_changes c_changes k_changes
  have b_changes := F_changes.binds (ps := ["one", "other"]) fun _ _ _ _ _ _ us hl => match us, hl with | [_, _], _ => rfl
  have F_near := fun_mk (st := sNear) l_near c_near k_near
  have b_near := F_near.binds (ps := ["one", "other"]) fun _ _ _ _ _ _ us hl => match us, hl with | [_, _], _ => rfl
  have F_nearest := fun_mk (st := sNearest) l_nearest c_nearest k_nearest
  have b_nearest := F_nearest.binds (ps := ["sentence", "others"]) fun _ _ _ _ _ _ us hl => match us, hl with | [_, _], _ => rfl
  have F_bandOf := fun_mk (st := sBandOf) l_bandOf c_bandOf k_bandOf
  have b_bandOf := F_bandOf.binds (ps := ["bands", "how_near"]) fun _ _ _ _ _ _ us hl => match us, hl with | [_, _], _ => rfl
  have F_kindOf := fun_mk (st := sKindOf) l_kindOf c_kindOf k_kindOf
  have b_kindOf := F_kindOf.binds (ps := ["sentence", "ahead", "memory", "bands"]) fun _ _ _ _ _ _ us hl => match us, hl with | [_, _, _, _], _ => rfl
  have F_kindsOf := fun_mk (st := sKindsOf) l_kindsOf c_kindsOf k_kindsOf
  have b_kindsOf := F_kindsOf.binds (ps := ["job", "memory", "bands"]) fun _ _ _ _ _ _ us hl => match us, hl with | [_, _, _], _ => rfl
  have F_paid := fun_mk (st := sPaid) l_paid c_paid k_paid
  have b_paid := F_paid.binds (ps := ["kind", "again", "bands"]) fun _ _ _ _ _ _ us hl => match us, hl with | [_, _, _], _ => rfl
  have F_counted := fun_mk (st := sCounted) l_counted c_counted k_counted
  have b_counted := F_counted.binds (ps := ["job", "kinds", "many"]) fun _ _ _ _ _ _ us hl => match us, hl with | [_, _, _], _ => rfl
  have F_weight := fun_mk (st := sWeight) l_weight c_weight k_weight
  have b_weight := F_weight.binds (ps := ["counts", "again", "bands"]) fun _ _ _ _ _ _ us hl => match us, hl with | [_, _, _], _ => rfl
  have F_countsOf := fun_mk (st := sCountsOf) l_countsOf c_countsOf k_countsOf
  have b_countsOf := F_countsOf.binds (ps := ["job", "memory", "bands"]) fun _ _ _ _ _ _ us hl => match us, hl with | [_, _, _], _ => rfl
  have F_isSentence := fun_mk (st := sIsSentence) l_isSentence c_isSentence k_isSentence
  have b_isSentence := F_isSentence.binds (ps := ["words"]) fun _ _ _ _ _ _ us hl => match us, hl with | [_], _ => rfl
  have F_areSentences := fun_mk (st := sAreSentences) l_areSentences c_areSentences k_areSentences
  have b_areSentences := F_areSentences.binds (ps := ["some", "most"]) fun _ _ _ _ _ _ us hl => match us, hl with | [_, _], _ => rfl
  have F_areBands := fun_mk (st := sAreBands) l_areBands c_areBands k_areBands
  have b_areBands := F_areBands.binds (ps := ["bands"]) fun _ _ _ _ _ _ us hl => match us, hl with | [_], _ => rfl
  have F_wordsIn := fun_mk (st := sWordsIn) l_wordsIn c_wordsIn k_wordsIn
  have b_wordsIn := F_wordsIn.binds (ps := ["sentences"]) fun _ _ _ _ _ _ us hl => match us, hl with | [_], _ => rfl
  have F_do0 := fun_mk (st := (sDo 0)) l_do0 c_do0 k_do0
  have b_do0 := F_do0.binds (ps := ["house", "reader"]) fun _ _ _ _ _ _ us hl => match us, hl with | [_, _], _ => rfl
  have F_do1 := fun_mk (st := (sDo 1)) l_do1 c_do1 k_do1
  have b_do1 := F_do1.binds (ps := ["house", "reader"]) fun _ _ _ _ _ _ us hl => match us, hl with | [_, _], _ => rfl
  have F_do2 := fun_mk (st := (sDo 2)) l_do2 c_do2 k_do2
  have b_do2 := F_do2.binds (ps := ["house", "reader"]) fun _ _ _ _ _ _ us hl => match us, hl with | [_, _], _ => rfl
  have F_do3 := fun_mk (st := (sDo 3)) l_do3 c_do3 k_do3
  have b_do3 := F_do3.binds (ps := ["house", "reader"]) fun _ _ _ _ _ _ us hl => match us, hl with | [_, _], _ => rfl
  have F_do4 := fun_mk (st := (sDo 4)) l_do4 c_do4 k_do4
  have b_do4 := F_do4.binds (ps := ["house", "reader"]) fun _ _ _ _ _ _ us hl => match us, hl with | [_, _], _ => rfl
  have F_do5 := fun_mk (st := (sDo 5)) l_do5 c_do5 k_do5
  have b_do5 := F_do5.binds (ps := ["house", "reader"]) fun _ _ _ _ _ _ us hl => match us, hl with | [_, _], _ => rfl
  have F_do6 := fun_mk (st := (sDo 6)) l_do6 c_do6 k_do6
  have b_do6 := F_do6.binds (ps := ["house", "reader"]) fun _ _ _ _ _ _ us hl => match us, hl with | [_, _], _ => rfl
  have F_do7 := fun_mk (st := (sDo 7)) l_do7 c_do7 k_do7
  have b_do7 := F_do7.binds (ps := ["house", "reader"]) fun _ _ _ _ _ _ us hl => match us, hl with | [_, _], _ => rfl
  have F_do8 := fun_mk (st := (sDo 8)) l_do8 c_do8 k_do8
  have b_do8 := F_do8.binds (ps := ["house", "reader"]) fun _ _ _ _ _ _ us hl => match us, hl with | [_, _], _ => rfl
  have F_do9 := fun_mk (st := (sDo 9)) l_do9 c_do9 k_do9
  have b_do9 := F_do9.binds (ps := ["house", "reader"]) fun _ _ _ _ _ _ us hl => match us, hl with | [_, _], _ => rfl
  have F_answers := fun_mk (st := sAnswers) l_answers c_answers k_answers
  have b_answers := F_answers.binds (ps := ["calls"]) fun _ _ _ _ _ _ us hl => match us, hl with | [_], _ => rfl
  have F_hInit := fun_mk (st := sHInit) l_hInit c_hInit k_hInit
  have b_hInit := F_hInit.binds (ps := ["self"]) fun _ _ _ _ _ _ us hl => match us, hl with | [_], _ => rfl
  have F_fileOf := fun_mk (st := sFileOf) l_fileOf c_fileOf k_fileOf
  have b_fileOf := F_fileOf.binds (ps := ["self", "number"]) fun _ _ _ _ _ _ us hl => match us, hl with | [_, _], _ => rfl
  have F_fileNumbers := fun_mk (st := sFileNumbers) l_fileNumbers c_fileNumbers k_fileNumbers
  have b_fileNumbers := F_fileNumbers.binds (ps := ["self"]) fun _ _ _ _ _ _ us hl => match us, hl with | [_], _ => rfl
  have F_addFile := fun_mk (st := sAddFile) l_addFile c_addFile k_addFile
  have b_addFile := F_addFile.binds (ps := ["self", "sentences"]) fun _ _ _ _ _ _ us hl => match us, hl with | [_, _], _ => rfl
  have F_gone := fun_mk (st := sGone) l_gone c_gone k_gone
  have b_gone := F_gone.binds (ps := ["self", "number"]) fun _ _ _ _ _ _ us hl => match us, hl with | [_, _], _ => rfl
  have F_setMemory := fun_mk (st := sSetMemory) l_setMemory c_setMemory k_setMemory
  have b_setMemory := F_setMemory.binds (ps := ["self", "sentences"]) fun _ _ _ _ _ _ us hl => match us, hl with | [_, _], _ => rfl
  have F_done := fun_mk (st := sDone) l_done c_done k_done
  have b_done := F_done.binds (ps := ["self", "number"]) fun _ _ _ _ _ _ us hl => match us, hl with | [_, _], _ => rfl
  have F_rates := fun_mk (st := sRates) l_rates c_rates k_rates
  have b_rates := F_rates.binds (ps := ["self", "again", "bands"]) fun _ _ _ _ _ _ us hl => match us, hl with | [_, _, _], _ => rfl
  have F_areFiles := fun_mk (st := sAreFiles) l_areFiles c_areFiles k_areFiles
  have b_areFiles := F_areFiles.binds (ps := ["self", "numbers"]) fun _ _ _ _ _ _ us hl => match us, hl with | [_, _], _ => rfl
  have F_job := fun_mk (st := sJob) l_job c_job k_job
  have b_job := F_job.binds (ps := ["self", "numbers"]) fun _ _ _ _ _ _ us hl => match us, hl with | [_, _], _ => rfl
  have F_count := fun_mk (st := sCount) l_count c_count k_count
  have b_count := F_count.binds (ps := ["self", "numbers"]) fun _ _ _ _ _ _ us hl => match us, hl with | [_, _], _ => rfl
  have F_kinds := fun_mk (st := sKinds) l_kinds c_kinds k_kinds
  have b_kinds := F_kinds.binds (ps := ["self", "numbers"]) fun _ _ _ _ _ _ us hl => match us, hl with | [_, _], _ => rfl
  have F_part := fun_mk (st := sPart) l_part c_part k_part
  have b_part := F_part.binds (ps := ["self", "hands"]) fun _ _ _ _ _ _ us hl => match us, hl with | [_, _], _ => rfl
  have F_hNear := fun_mk (st := sHNear) l_hNear c_hNear k_hNear
  have b_hNear := F_hNear.binds (ps := ["self", "sentences"]) fun _ _ _ _ _ _ us hl => match us, hl with | [_, _], _ => rfl
  have F_shows := fun_mk (st := sShows) l_shows c_shows k_shows
  have b_shows := F_shows.binds (ps := ["self"]) fun _ _ _ _ _ _ us hl => match us, hl with | [_], _ => rfl
  have F_rInit := fun_mk (st := sRInit) l_rInit c_rInit k_rInit
  have b_rInit := F_rInit.binds (ps := ["self", "numbers"]) fun _ _ _ _ _ _ us hl => match us, hl with | [_, _], _ => rfl
  have F_isLeft := fun_mk (st := sIsLeft) l_isLeft c_isLeft k_isLeft
  have b_isLeft := F_isLeft.binds (ps := ["self"]) fun _ _ _ _ _ _ us hl => match us, hl with | [_], _ => rfl
  have F_taken := fun_mk (st := sTaken) l_taken c_taken k_taken
  have b_taken := F_taken.binds (ps := ["self"]) fun _ _ _ _ _ _ us hl => match us, hl with | [_], _ => rfl
  have F_row := fun_mk (st := sRow) l_row c_row k_row
  have b_row := F_row.binds (ps := ["self"]) fun _ _ _ _ _ _ us hl => match us, hl with | [_], _ => rfl
  have F_sentences := fun_mk (st := sSentences) l_sentences c_sentences k_sentences
  have b_sentences := F_sentences.binds (ps := ["self"]) fun _ _ _ _ _ _ us hl => match us, hl with | [_], _ => rfl
  have F_pairs := fun_mk (st := sPairs) l_pairs c_pairs k_pairs
  have b_pairs := F_pairs.binds (ps := ["self"]) fun _ _ _ _ _ _ us hl => match us, hl with | [_], _ => rfl
  refine ⟨PySem.W.fnOf "answers" "answers" (defArgs sAnswers) (defBody sAnswers) (defScope sAnswers) .none kV_answers dc_answers pm_answers an_answers cd_answers ct_answers, fun s us hu => match us, hu with | [_], _ => .of_eq rfl, fun base _ _ => ?_⟩
  have C_nextRow : Cal P w K mg base 1 "next_row" (spNextRow) := cal_mk F_nextRow (PySem.W.mg_of X G a_nextRow) b_nextRow (ok_nextRow F_nextRow T)
  have C_changes : Cal P w K mg base 2 "changes" (spChanges) := cal_mk F_changes (PySem.W.mg_of X G a_changes) b_changes (ok_changes F_changes T C_nextRow)
  have C_near : Cal P w K mg base 3 "near" (spNear) := cal_mk F_near (PySem.W.mg_of X G a_near) b_near (ok_near F_near T N_HUNDRED C_changes)
  have C_near2 : Cal P w K mg base 3 "near_nearness" spNear := ⟨f_near, _, _, [], ok_near F_near T N_HUNDRED C_changes, PySem.W.mg_of X G a_near2, F_near.kp, b_near, .nil⟩
  have C_nearest : Cal P w K mg base 4 "nearest" (spNearest) := cal_mk F_nearest (PySem.W.mg_of X G a_nearest) b_nearest (ok_nearest F_nearest T C_near2)
  have C_bandOf : Cal P w K mg base 1 "band_of" (spBandOf K) := cal_mk F_bandOf (PySem.W.mg_of X G a_bandOf) b_bandOf (ok_bandOf F_bandOf T)
  have C_kindOf : Cal P w K mg base 5 "kind_of" (spKindOf K) := cal_mk F_kindOf (PySem.W.mg_of X G a_kindOf) b_kindOf (ok_kindOf F_kindOf T N_REPEATED C_bandOf C_nearest)
  have C_kindsOf : Cal P w K mg base 6 "kinds_of" (spKindsOf K) := cal_mk F_kindsOf (PySem.W.mg_of X G a_kindsOf) b_kindsOf (ok_kindsOf F_kindsOf T C_kindOf)
  have C_paid : Cal P w K mg base 1 "paid" (spPaid K) := cal_mk F_paid (PySem.W.mg_of X G a_paid) b_paid (ok_paid F_paid T N_REPEATED N_HUNDRED)
  have C_counted : Cal P w K mg base 1 "counted" (spCounted) := cal_mk F_counted (PySem.W.mg_of X G a_counted) b_counted (ok_counted F_counted T)
  have C_weight : Cal P w K mg base 2 "weight" (spWeight K) := cal_mk F_weight (PySem.W.mg_of X G a_weight) b_weight (ok_weight F_weight T C_paid)
  have C_countsOf : Cal P w K mg base 7 "counts_of" (spCountsOf K) := cal_mk F_countsOf (PySem.W.mg_of X G a_countsOf) b_countsOf (ok_countsOf F_countsOf T C_counted C_kindsOf)
  have C_allDeals : Cal P w K mg base 1 "all_deals" (spAllDeals) := cal_mk F_allDeals (PySem.W.mg_of X G a_allDeals) b_allDeals (ok_allDeals F_allDeals T)
  have C_loads : Cal P w K mg base 1 "loads" (spLoads) := cal_mk F_loads (PySem.W.mg_of X G a_loads) b_loads (ok_loads F_loads T)
  have C_isBetter : Cal P w K mg base 1 "is_better" (spIsBetter) := cal_mk F_isBetter (PySem.W.mg_of X G a_isBetter) b_isBetter (ok_isBetter F_isBetter T)
  have C_bestDeal : Cal P w K mg base 2 "best_deal" (spBestDeal) := cal_mk F_bestDeal (PySem.W.mg_of X G a_bestDeal) b_bestDeal (ok_bestDeal F_bestDeal T C_allDeals C_loads C_isBetter)
  have C_isSentence : Cal P w K mg base 1 "is_sentence" (spIsSentence) := cal_mk F_isSentence (PySem.W.mg_of X G a_isSentence) b_isSentence (ok_isSentence F_isSentence T N_MOST_WORDS N_MOST_WORD)
  have C_areSentences : Cal P w K mg base 2 "are_sentences" (spAreSentences) := cal_mk F_areSentences (PySem.W.mg_of X G a_areSentences) b_areSentences (ok_areSentences F_areSentences T C_isSentence)
  have C_areBands : Cal P w K mg base 1 "are_bands" (spAreBands K) := cal_mk F_areBands (PySem.W.mg_of X G a_areBands) b_areBands (ok_areBands F_areBands T N_MOST_BANDS N_HUNDREDTHS)
  have C_wordsIn : Cal P w K mg base 1 "words_in" (spWordsIn) := cal_mk F_wordsIn (PySem.W.mg_of X G a_wordsIn) b_wordsIn (ok_wordsIn F_wordsIn T)
  have M_fileOf : Met P w K mg base 1 CH "file_of" (spFileOf K CH) := met_mk TCH.cl ⟨a_fileOf, i_fileOf, k_fileOf⟩ b_fileOf (ok_fileOf F_fileOf T TCH)
  have M_fileNumbers : Met P w K mg base 1 CH "file_numbers" (spFileNumbers K CH) := met_mk TCH.cl ⟨a_fileNumbers, i_fileNumbers, k_fileNumbers⟩ b_fileNumbers (ok_fileNumbers F_fileNumbers T TCH)
  have M_areFiles : Met P w K mg base 2 CH "are_files" (spAreFiles K CH) := met_mk TCH.cl ⟨a_areFiles, i_areFiles, k_areFiles⟩ b_areFiles (ok_areFiles F_areFiles T TCH M_fileNumbers)
  have M_job : Met P w K mg base 2 CH "job" (spJob K CH) := met_mk TCH.cl ⟨a_job, i_job, k_job⟩ b_job (ok_job F_job T TCH M_fileNumbers M_fileOf)
  have M_addFile : Met P w K mg base 3 CH "add_file" (spAddFile K CH) := met_mk TCH.cl ⟨a_addFile, i_addFile, k_addFile⟩ b_addFile (ok_addFile F_addFile T TCH N_MOST_SENTENCES N_MOST_FILES C_areSentences C_wordsIn)
  have M_gone : Met P w K mg base 2 CH "gone" (spGone K CH) := met_mk TCH.cl ⟨a_gone, i_gone, k_gone⟩ b_gone (ok_gone F_gone T TCH M_fileNumbers)
  have M_setMemory : Met P w K mg base 3 CH "set_memory" (spSetMemory K CH) := met_mk TCH.cl ⟨a_setMemory, i_setMemory, k_setMemory⟩ b_setMemory (ok_setMemory F_setMemory T TCH N_MOST_MEMORY C_areSentences)
  have M_done : Met P w K mg base 3 CH "done" (spDone K CH) := met_mk TCH.cl ⟨a_done, i_done, k_done⟩ b_done (ok_done F_done T TCH N_MOST_MEMORY M_fileNumbers M_fileOf M_gone)
  have M_rates : Met P w K mg base 2 CH "rates" (spRates K CH) := met_mk TCH.cl ⟨a_rates, i_rates, k_rates⟩ b_rates (ok_rates F_rates T TCH N_HUNDREDTHS C_areBands)
  have M_count : Met P w K mg base 8 CH "count" (spCount K CH) := met_mk TCH.cl ⟨a_count, i_count, k_count⟩ b_count (ok_count F_count T TCH M_areFiles M_job C_countsOf C_weight)
  have M_kinds : Met P w K mg base 7 CH "kinds" (spKinds K CH) := met_mk TCH.cl ⟨a_kinds, i_kinds, k_kinds⟩ b_kinds (ok_kinds F_kinds T TCH M_areFiles M_job C_kindsOf)
  have M_part : Met P w K mg base 8 CH "part" (spPart K CH) := met_mk TCH.cl ⟨a_part, i_part, k_part⟩ b_part (ok_part F_part T TCH N_MOST_HANDS C_countsOf C_weight C_bestDeal C_loads)
  have M_hNear : Met P w K mg base 4 CH "near" (spHNear K CH) := met_mk TCH.cl ⟨a_hNear, i_hNear, k_hNear⟩ b_hNear (ok_hNear F_hNear T TCH C_areSentences C_near2)
  have M_shows : Met P w K mg base 1 CH "shows" (spShows K CH) := met_mk TCH.cl ⟨a_shows, i_shows, k_shows⟩ b_shows (ok_shows F_shows T TCH)
  have M_isLeft : Met P w K mg base 1 CR "is_left" (spIsLeft CR) := met_mk TCR.cl ⟨a_isLeft, i_isLeft, k_isLeft⟩ b_isLeft (ok_isLeft F_isLeft T TCR)
  have M_taken : Met P w K mg base 1 CR "taken" (spTaken CR) := met_mk TCR.cl ⟨a_taken, i_taken, k_taken⟩ b_taken (ok_taken F_taken TCR)
  have M_row : Met P w K mg base 2 CR "row" (spRow CR) := met_mk TCR.cl ⟨a_row, i_row, k_row⟩ b_row (ok_row F_row T TCR M_taken)
  have M_sentences : Met P w K mg base 3 CR "sentences" (spSentences CR) := met_mk TCR.cl ⟨a_sentences, i_sentences, k_sentences⟩ b_sentences (ok_sentences F_sentences TCR M_taken M_row)
  have M_pairs : Met P w K mg base 3 CR "pairs" (spPairs K CR) := met_mk TCR.cl ⟨a_pairs, i_pairs, k_pairs⟩ b_pairs (ok_pairs F_pairs T TCR M_row)
  have H_0 : Held P w K mg base 9 f_do0 (spDeed K CH CR 0) := ⟨_, _, FnOk.mono (ok_doFile F_do0 M_addFile M_sentences) (by decide), F_do0.kp, b_do0⟩
  have H_1 : Held P w K mg base 9 f_do1 (spDeed K CH CR 1) := ⟨_, _, FnOk.mono (ok_doGone F_do1 M_gone M_taken) (by decide), F_do1.kp, b_do1⟩
  have H_2 : Held P w K mg base 9 f_do2 (spDeed K CH CR 2) := ⟨_, _, FnOk.mono (ok_doMemory F_do2 M_setMemory M_sentences) (by decide), F_do2.kp, b_do2⟩
  have H_3 : Held P w K mg base 9 f_do3 (spDeed K CH CR 3) := ⟨_, _, FnOk.mono (ok_doDone F_do3 M_done M_taken) (by decide), F_do3.kp, b_do3⟩
  have H_4 : Held P w K mg base 9 f_do4 (spDeed K CH CR 4) := ⟨_, _, FnOk.mono (ok_doRates F_do4 M_rates M_taken M_pairs) (by decide), F_do4.kp, b_do4⟩
  have H_5 : Held P w K mg base 9 f_do5 (spDeed K CH CR 5) := ⟨_, _, FnOk.mono (ok_doCount F_do5 M_count M_row) (by decide), F_do5.kp, b_do5⟩
  have H_6 : Held P w K mg base 9 f_do6 (spDeed K CH CR 6) := ⟨_, _, FnOk.mono (ok_doKinds F_do6 M_kinds M_row) (by decide), F_do6.kp, b_do6⟩
  have H_7 : Held P w K mg base 9 f_do7 (spDeed K CH CR 7) := ⟨_, _, FnOk.mono (ok_doPart F_do7 M_part M_taken) (by decide), F_do7.kp, b_do7⟩
  have H_8 : Held P w K mg base 9 f_do8 (spDeed K CH CR 8) := ⟨_, _, FnOk.mono (ok_doNear F_do8 M_hNear M_sentences) (by decide), F_do8.kp, b_do8⟩
  have H_9 : Held P w K mg base 9 f_do9 (spDeed K CH CR 9) := ⟨_, _, FnOk.mono (ok_doShows F_do9 M_shows) (by decide), F_do9.kp, b_do9⟩
  have DD : TD P w K mg base CH CR := ⟨tD, [f_do0, f_do1, f_do2, f_do3, f_do4, f_do5, f_do6, f_do7, f_do8, f_do9], PySem.W.mg_of X G a_DEEDS, kt_mk l_tD (by show 10 ≤ sizeLine; decide) (.cons rfl (.cons rfl (.cons rfl (.cons rfl (.cons rfl (.cons rfl (.cons rfl (.cons rfl (.cons rfl (.cons rfl .nil)))))))))), rfl, fun i f hi => ?_⟩
  · exact ok_ans F_answers T (PySem.W.mg_of X G a_CH) (PySem.W.mg_of X G a_CR) ⟨mk_CH, a_hInit, i_hInit, kc_CH⟩ (ok_hInit F_hInit T TCH TBb N_AGAIN) b_hInit ⟨mk_CR, a_rInit, i_rInit, kc_CR⟩ (ok_rInit F_rInit TCR) b_rInit M_isLeft M_taken DD
  · match i, hi with
    | 0, hi =>
      have q : f_do0 = f := Option.some.inj hi
      subst q
      exact H_0
    | 1, hi =>
      have q : f_do1 = f := Option.some.inj hi
      subst q
      exact H_1
    | 2, hi =>
      have q : f_do2 = f := Option.some.inj hi
      subst q
      exact H_2
    | 3, hi =>
      have q : f_do3 = f := Option.some.inj hi
      subst q
      exact H_3
    | 4, hi =>
      have q : f_do4 = f := Option.some.inj hi
      subst q
      exact H_4
    | 5, hi =>
      have q : f_do5 = f := Option.some.inj hi
      subst q
      exact H_5
    | 6, hi =>
      have q : f_do6 = f := Option.some.inj hi
      subst q
      exact H_6
    | 7, hi =>
      have q : f_do7 = f := Option.some.inj hi
      subst q
      exact H_7
    | 8, hi =>
      have q : f_do8 = f := Option.some.inj hi
      subst q
      exact H_8
    | 9, hi =>
      have q : f_do9 = f := Option.some.inj hi
      subst q
      exact H_9
    | i + 10, hi => exact absurd hi (by simp)
end Wc

set_option Elab.async false
set_option maxRecDepth 100000
set_option maxHeartbeats 8000000
open PySem PySem.W PyProof.Rows
set_option maxRecDepth 100000 in
set_option maxHeartbeats 8000000 in
theorem PySem.Challenge.cw_wordcounts_s01_answers_holds : PySem.Challenge.rw_wordcounts_s01_answers.Holds := by
  w_on; k_headS; (case hw => exact ⟨[.list [.int 9]], by decide +kernel, by decide +kernel⟩)
  k_fillS
  refine L2.walk_specK (r := PySem.Challenge.rw_wordcounts_s01_answers) (k := 10) (CX := L2.CX0) (ps := ["calls"]) (sp := Wc.spAns) (by decide +kernel) rfl rfl ⟨rfl, by decide, by decide⟩ (fun w h Y => PySem.W.kIn_of Y) ?F ?S (fun _ _ _ _ z => z)
  case F =>
    intro w mg fa h Y KX G hmg
    refine' Wc.all_mk KX G hmg ?a_allDeals ?l_allDeals ?c_allDeals ?k_allDeals ?a_loads ?l_loads ?c_loads ?k_loads ?a_isBetter ?l_isBetter ?c_isBetter ?k_isBetter ?a_bestDeal ?l_bestDeal ?c_bestDeal ?k_bestDeal ?a_nextRow ?l_nextRow ?c_nextRow ?k_nextRow ?a_changes ?l_changes ?c_changes ?k_changes ?a_near ?l_near ?c_near ?k_near ?a_nearest ?l_nearest ?c_nearest ?k_nearest ?a_bandOf ?l_bandOf ?c_bandOf ?k_bandOf ?a_kindOf ?l_kindOf ?c_kindOf ?k_kindOf ?a_kindsOf ?l_kindsOf ?c_kindsOf ?k_kindsOf ?a_paid ?l_paid ?c_paid ?k_paid ?a_counted ?l_counted ?c_counted ?k_counted ?a_weight ?l_weight ?c_weight ?k_weight ?a_countsOf ?l_countsOf ?c_countsOf ?k_countsOf ?a_isSentence ?l_isSentence ?c_isSentence ?k_isSentence ?a_areSentences ?l_areSentences ?c_areSentences ?k_areSentences ?a_areBands ?l_areBands ?c_areBands ?k_areBands ?a_wordsIn ?l_wordsIn ?c_wordsIn ?k_wordsIn ?a_do0 ?l_do0 ?c_do0 ?k_do0 ?a_do1 ?l_do1 ?c_do1 ?k_do1 ?a_do2 ?l_do2 ?c_do2 ?k_do2 ?a_do3 ?l_do3 ?c_do3 ?k_do3 ?a_do4 ?l_do4 ?c_do4 ?k_do4 ?a_do5 ?l_do5 ?c_do5 ?k_do5 ?a_do6 ?l_do6 ?c_do6 ?k_do6 ?a_do7 ?l_do7 ?c_do7 ?k_do7 ?a_do8 ?l_do8 ?c_do8 ?k_do8 ?a_do9 ?l_do9 ?c_do9 ?k_do9 ?a_answers ?l_answers ?c_answers ?k_answers ?a_CH ?a_hInit ?i_hInit ?l_hInit ?c_hInit ?k_hInit ?a_fileOf ?i_fileOf ?l_fileOf ?c_fileOf ?k_fileOf ?a_fileNumbers ?i_fileNumbers ?l_fileNumbers ?c_fileNumbers ?k_fileNumbers ?a_addFile ?i_addFile ?l_addFile ?c_addFile ?k_addFile ?a_gone ?i_gone ?l_gone ?c_gone ?k_gone ?a_setMemory ?i_setMemory ?l_setMemory ?c_setMemory ?k_setMemory ?a_done ?i_done ?l_done ?c_done ?k_done ?a_rates ?i_rates ?l_rates ?c_rates ?k_rates ?a_areFiles ?i_areFiles ?l_areFiles ?c_areFiles ?k_areFiles ?a_job ?i_job ?l_job ?c_job ?k_job ?a_count ?i_count ?l_count ?c_count ?k_count ?a_kinds ?i_kinds ?l_kinds ?c_kinds ?k_kinds ?a_part ?i_part ?l_part ?c_part ?k_part ?a_hNear ?i_hNear ?l_hNear ?c_hNear ?k_hNear ?a_shows ?i_shows ?l_shows ?c_shows ?k_shows ?pg_CH ?hd_CH ?po_CH ?sa_CH ?mk_CH ?kc_CH ?n_CH_files ?n_CH_given ?n_CH_memory ?n_CH_bands ?n_CH_again ?a_CR ?a_rInit ?i_rInit ?l_rInit ?c_rInit ?k_rInit ?a_isLeft ?i_isLeft ?l_isLeft ?c_isLeft ?k_isLeft ?a_taken ?i_taken ?l_taken ?c_taken ?k_taken ?a_row ?i_row ?l_row ?c_row ?k_row ?a_sentences ?i_sentences ?l_sentences ?c_sentences ?k_sentences ?a_pairs ?i_pairs ?l_pairs ?c_pairs ?k_pairs ?pg_CR ?hd_CR ?po_CR ?sa_CR ?mk_CR ?kc_CR ?n_CR_numbers ?n_CR_spot ?z_len ?z_max ?z_min ?z_sum ?z_all ?z_int ?z_list ?z_set ?z_range ?z_enumerate ?z_zip ?n_HUNDRED ?n_REPEATED ?n_MOST_SENTENCES ?n_MOST_WORDS ?n_MOST_WORD ?n_MOST_FILES ?n_MOST_MEMORY ?n_MOST_BANDS ?n_MOST_HANDS ?n_HUNDREDTHS ?n_AGAIN ?a_near2 ?a_BANDS ?l_tB ?l_tB1 ?l_tB2 ?a_DEEDS ?l_tD
    (case a_allDeals => k_is)
    (case l_allDeals => k_is)
    (case c_allDeals => k_is)
    (case k_allDeals => k_is)
    (case a_loads => k_is)
    (case l_loads => k_is)
    (case c_loads => k_is)
    (case k_loads => k_is)
    (case a_isBetter => k_is)
    (case l_isBetter => k_is)
    (case c_isBetter => k_is)
    (case k_isBetter => k_is)
    (case a_bestDeal => k_is)
    (case l_bestDeal => k_is)
    (case c_bestDeal => k_is)
    (case k_bestDeal => k_is)
    (case a_nextRow => k_is)
    (case l_nextRow => k_is)
    (case c_nextRow => k_is)
    (case k_nextRow => k_is)
    (case a_changes => k_is)
    (case l_changes => k_is)
    (case c_changes => k_is)
    (case k_changes => k_is)
    (case a_near => k_is)
    (case l_near => k_is)
    (case c_near => k_is)
    (case k_near => k_is)
    (case a_nearest => k_is)
    (case l_nearest => k_is)
    (case c_nearest => k_is)
    (case k_nearest => k_is)
    (case a_bandOf => k_is)
    (case l_bandOf => k_is)
    (case c_bandOf => k_is)
    (case k_bandOf => k_is)
    (case a_kindOf => k_is)
    (case l_kindOf => k_is)
    (case c_kindOf => k_is)
    (case k_kindOf => k_is)
    (case a_kindsOf => k_is)
    (case l_kindsOf => k_is)
    (case c_kindsOf => k_is)
    (case k_kindsOf => k_is)
    (case a_paid => k_is)
    (case l_paid => k_is)
    (case c_paid => k_is)
    (case k_paid => k_is)
    (case a_counted => k_is)
    (case l_counted => k_is)
    (case c_counted => k_is)
    (case k_counted => k_is)
    (case a_weight => k_is)
    (case l_weight => k_is)
    (case c_weight => k_is)
    (case k_weight => k_is)
    (case a_countsOf => k_is)
    (case l_countsOf => k_is)
    (case c_countsOf => k_is)
    (case k_countsOf => k_is)
    (case a_isSentence => k_is)
    (case l_isSentence => k_is)
    (case c_isSentence => k_is)
    (case k_isSentence => k_is)
    (case a_areSentences => k_is)
    (case l_areSentences => k_is)
    (case c_areSentences => k_is)
    (case k_areSentences => k_is)
    (case a_areBands => k_is)
    (case l_areBands => k_is)
    (case c_areBands => k_is)
    (case k_areBands => k_is)
    (case a_wordsIn => k_is)
    (case l_wordsIn => k_is)
    (case c_wordsIn => k_is)
    (case k_wordsIn => k_is)
    (case a_do0 => k_is)
    (case l_do0 => k_is)
    (case c_do0 => k_is)
    (case k_do0 => k_is)
    (case a_do1 => k_is)
    (case l_do1 => k_is)
    (case c_do1 => k_is)
    (case k_do1 => k_is)
    (case a_do2 => k_is)
    (case l_do2 => k_is)
    (case c_do2 => k_is)
    (case k_do2 => k_is)
    (case a_do3 => k_is)
    (case l_do3 => k_is)
    (case c_do3 => k_is)
    (case k_do3 => k_is)
    (case a_do4 => k_is)
    (case l_do4 => k_is)
    (case c_do4 => k_is)
    (case k_do4 => k_is)
    (case a_do5 => k_is)
    (case l_do5 => k_is)
    (case c_do5 => k_is)
    (case k_do5 => k_is)
    (case a_do6 => k_is)
    (case l_do6 => k_is)
    (case c_do6 => k_is)
    (case k_do6 => k_is)
    (case a_do7 => k_is)
    (case l_do7 => k_is)
    (case c_do7 => k_is)
    (case k_do7 => k_is)
    (case a_do8 => k_is)
    (case l_do8 => k_is)
    (case c_do8 => k_is)
    (case k_do8 => k_is)
    (case a_do9 => k_is)
    (case l_do9 => k_is)
    (case c_do9 => k_is)
    (case k_do9 => k_is)
    (case a_answers => k_is)
    (case l_answers => k_is)
    (case c_answers => k_is)
    (case k_answers => k_is)
    (case a_CH => k_is)
    (case a_hInit => k_is)
    (case i_hInit => k_is)
    (case l_hInit => k_is)
    (case c_hInit => k_is)
    (case k_hInit => k_is)
    (case a_fileOf => k_is)
    (case i_fileOf => k_is)
    (case l_fileOf => k_is)
    (case c_fileOf => k_is)
    (case k_fileOf => k_is)
    (case a_fileNumbers => k_is)
    (case i_fileNumbers => k_is)
    (case l_fileNumbers => k_is)
    (case c_fileNumbers => k_is)
    (case k_fileNumbers => k_is)
    (case a_addFile => k_is)
    (case i_addFile => k_is)
    (case l_addFile => k_is)
    (case c_addFile => k_is)
    (case k_addFile => k_is)
    (case a_gone => k_is)
    (case i_gone => k_is)
    (case l_gone => k_is)
    (case c_gone => k_is)
    (case k_gone => k_is)
    (case a_setMemory => k_is)
    (case i_setMemory => k_is)
    (case l_setMemory => k_is)
    (case c_setMemory => k_is)
    (case k_setMemory => k_is)
    (case a_done => k_is)
    (case i_done => k_is)
    (case l_done => k_is)
    (case c_done => k_is)
    (case k_done => k_is)
    (case a_rates => k_is)
    (case i_rates => k_is)
    (case l_rates => k_is)
    (case c_rates => k_is)
    (case k_rates => k_is)
    (case a_areFiles => k_is)
    (case i_areFiles => k_is)
    (case l_areFiles => k_is)
    (case c_areFiles => k_is)
    (case k_areFiles => k_is)
    (case a_job => k_is)
    (case i_job => k_is)
    (case l_job => k_is)
    (case c_job => k_is)
    (case k_job => k_is)
    (case a_count => k_is)
    (case i_count => k_is)
    (case l_count => k_is)
    (case c_count => k_is)
    (case k_count => k_is)
    (case a_kinds => k_is)
    (case i_kinds => k_is)
    (case l_kinds => k_is)
    (case c_kinds => k_is)
    (case k_kinds => k_is)
    (case a_part => k_is)
    (case i_part => k_is)
    (case l_part => k_is)
    (case c_part => k_is)
    (case k_part => k_is)
    (case a_hNear => k_is)
    (case i_hNear => k_is)
    (case l_hNear => k_is)
    (case c_hNear => k_is)
    (case k_hNear => k_is)
    (case a_shows => k_is)
    (case i_shows => k_is)
    (case l_shows => k_is)
    (case c_shows => k_is)
    (case k_shows => k_is)
    (case pg_CH => k_is)
    (case hd_CH => k_is)
    (case po_CH => k_is)
    (case sa_CH => k_is)
    (case mk_CH => k_is)
    (case kc_CH => k_is)
    (case n_CH_files => k_is)
    (case n_CH_given => k_is)
    (case n_CH_memory => k_is)
    (case n_CH_bands => k_is)
    (case n_CH_again => k_is)
    (case a_CR => k_is)
    (case a_rInit => k_is)
    (case i_rInit => k_is)
    (case l_rInit => k_is)
    (case c_rInit => k_is)
    (case k_rInit => k_is)
    (case a_isLeft => k_is)
    (case i_isLeft => k_is)
    (case l_isLeft => k_is)
    (case c_isLeft => k_is)
    (case k_isLeft => k_is)
    (case a_taken => k_is)
    (case i_taken => k_is)
    (case l_taken => k_is)
    (case c_taken => k_is)
    (case k_taken => k_is)
    (case a_row => k_is)
    (case i_row => k_is)
    (case l_row => k_is)
    (case c_row => k_is)
    (case k_row => k_is)
    (case a_sentences => k_is)
    (case i_sentences => k_is)
    (case l_sentences => k_is)
    (case c_sentences => k_is)
    (case k_sentences => k_is)
    (case a_pairs => k_is)
    (case i_pairs => k_is)
    (case l_pairs => k_is)
    (case c_pairs => k_is)
    (case k_pairs => k_is)
    (case pg_CR => k_is)
    (case hd_CR => k_is)
    (case po_CR => k_is)
    (case sa_CR => k_is)
    (case mk_CR => k_is)
    (case kc_CR => k_is)
    (case n_CR_numbers => k_is)
    (case n_CR_spot => k_is)
    (case z_len => k_is)
    (case z_max => k_is)
    (case z_min => k_is)
    (case z_sum => k_is)
    (case z_all => k_is)
    (case z_int => k_is)
    (case z_list => k_is)
    (case z_set => k_is)
    (case z_range => k_is)
    (case z_enumerate => k_is)
    (case z_zip => k_is)
    (case n_HUNDRED => k_is)
    (case n_REPEATED => k_is)
    (case n_MOST_SENTENCES => k_is)
    (case n_MOST_WORDS => k_is)
    (case n_MOST_WORD => k_is)
    (case n_MOST_FILES => k_is)
    (case n_MOST_MEMORY => k_is)
    (case n_MOST_BANDS => k_is)
    (case n_MOST_HANDS => k_is)
    (case n_HUNDREDTHS => k_is)
    (case n_AGAIN => k_is)
    (case a_near2 => k_is)
    (case a_BANDS => k_is)
    (case l_tB => k_is)
    (case l_tB1 => k_is)
    (case l_tB2 => k_is)
    (case a_DEEDS => k_is)
    (case l_tD => k_is)
  case S =>
    intro K H xs a hO hwi hask hx
    cases hx with
    | cons h1 h2 =>
      cases h2
      cases h1 with
      | lst hs ha =>
        have e := L2.ints_dw a.1 _ ha
        subst e
        have q : ((Codec.inLen 0 8000 a.1 && a.1.all (Codec.inInt 0 4294967295)) && true) = true := hwi
        rw [Bool.and_eq_true, Bool.and_eq_true] at q
        obtain ⟨ms, em⟩ := Wc.of_bounds a.1 q.1.2
        have ha1 : PyUt10.answers_asked a.1 = true := hask
        have hl : a.1.length ≤ 8000 := (Codec.inNat_iff.mp q.1.1).2
        have hz : (Codec.app PySem.Challenge.rw_wordcounts_s01_answers.args PySem.Challenge.rw_wordcounts_s01_answers.f a : List Int) = PyUt10.answers a.1 := rfl
        refine ⟨_, ms, rfl, ?_, ?_, ?_, fun H' p hp => ?_⟩
        · rw [Wc.nvs_zs, ← em]; exact hs
        · rw [em, Wc.zs_len] at hl; exact hl
        · rw [← em]; exact ha1
        · rw [← em] at hp
          exact .lst (L2.SqL.of hp) (L2.dw_ints _)
#print axioms PySem.Challenge.cw_wordcounts_s01_answers_holds
