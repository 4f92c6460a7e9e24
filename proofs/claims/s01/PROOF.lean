import PyProof.Rows.All
import Wide.All
import OpenK.AllK
import Wide.FinOn
import Open.SpecLaws
import KE.OsGo
import HandS.ForSpec
import HandS.Comp
import HandS.Iter
import HandS.Zip
import HandS.Rev
import HandS.Style
import HandS.NoneIn
import HandS.Evl
import PySem.Challenge.RW_buildingexits_s01_answers
set_option Elab.async false
set_option linter.all false
section
set_option maxRecDepth 10000
/-! The plain law, part 1: cuts by their numbers, capacities, the smallest cut. -/
namespace Bx
open Kv434

/-! ### lists -/
theorem take_succ_snoc {α : Type} : ∀ {l : List α} {i : Nat} {x : α}, l[i]? = some x → l.take (i + 1) = l.take i ++ [x]
  | [], i, x, h => by simp at h
  | a :: l, 0, x, h => by
    have e : a = x := by simpa using h
    subst e
    rfl
  | a :: l, i + 1, x, h => by
    have ih := take_succ_snoc (l := l) (i := i) (x := x) (by simpa using h)
    show a :: l.take (i + 1) = a :: l.take i ++ [x]
    rw [ih]
    rfl
theorem foldl_take_succ {α β : Type} {f : β → α → β} {b : β} {l : List α} {i : Nat} {x : α} (h : l[i]? = some x) : (l.take (i + 1)).foldl f b = f ((l.take i).foldl f b) x := by
  rw [take_succ_snoc h, List.foldl_append]
  rfl
theorem sum_take_succ {α : Type} {f : α → Nat} {l : List α} {i : Nat} {x : α} (h : l[i]? = some x) : ((l.take (i + 1)).map f).sum = ((l.take i).map f).sum + f x := by
  rw [take_succ_snoc h, List.map_append, List.sum_append]
  simp
theorem drop_cons {α : Type} {l : List α} {i : Nat} {x : α} (h : l[i]? = some x) : l.drop i = x :: l.drop (i + 1) := by
  obtain ⟨hi, e⟩ := List.getElem?_eq_some_iff.mp h
  rw [← e]
  exact List.drop_eq_getElem_cons hi

/-! ### cuts -/
def cutsL (t : Nat) (as : List Area) : List (List Nat) :=
  as.foldr (fun area rest => (if area.isExit then [t + 1] else List.range (t + 2)).flatMap fun m => rest.map fun cut => m :: cut) [[]]
theorem cuts_eq (n : Network) (t : Nat) : n.cuts t = cutsL t n.areas := rfl
def cnt (t : Nat) : List Area → Nat
  | [] => 1
  | a :: as => (if a.isExit then 1 else t + 2) * cnt t as
theorem cnt_pos (t : Nat) : ∀ as : List Area, 0 < cnt t as
  | [] => Nat.one_pos
  | a :: as => by
    have h := cnt_pos t as
    unfold cnt
    split
    · rw [Nat.one_mul]; exact h
    · exact Nat.mul_pos (by omega) h
theorem cnt_le (t : Nat) (ht : t ≤ 5) : ∀ as : List Area, cnt t as ≤ 7 ^ as.length
  | [] => Nat.le_refl _
  | a :: as => by
    have h := cnt_le t ht as
    unfold cnt
    rw [List.length_cons, Nat.pow_succ, Nat.mul_comm (7 ^ _)]
    refine Nat.mul_le_mul ?_ h
    split <;> omega
theorem cnt_small {t : Nat} (ht : t ≤ 5) {as : List Area} (ha : as.length ≤ 5) : cnt t as ≤ 16807 :=
  Nat.le_trans (cnt_le t ht as) (Nat.le_trans (Nat.pow_le_pow_right (by decide) ha) (by decide))
/-- the program's count: a running product -/
theorem cnt_fold (t : Nat) : ∀ (as : List Area) (b : Nat), as.foldl (fun c a => if a.isExit then c else c * (t + 2)) b = b * cnt t as
  | [], b => by simp [cnt]
  | a :: as, b => by
    rw [List.foldl_cons, cnt_fold t as]
    show _ = b * ((if a.isExit then 1 else t + 2) * cnt t as)
    split
    · rw [Nat.one_mul]
    · rw [Nat.mul_assoc]
/-- the digits of a number, from the last area -/
def dig (t : Nat) : List Area → Nat → List Nat × Nat
  | [], r => ([], r)
  | a :: as, r => if a.isExit then ((t + 1) :: (dig t as r).1, (dig t as r).2) else ((dig t as r).2 % (t + 2) :: (dig t as r).1, (dig t as r).2 / (t + 2))
def cutNo (t : Nat) (as : List Area) (k : Nat) : List Nat := (dig t as k).1
theorem dig_rest (t : Nat) : ∀ (as : List Area) (r : Nat), (dig t as r).2 = r / cnt t as
  | [], r => by simp [dig, cnt]
  | a :: as, r => by
    have h := dig_rest t as r
    unfold dig cnt
    split
    · rw [Nat.one_mul]; exact h
    · show (dig t as r).2 / (t + 2) = _
      rw [h, Nat.div_div_eq_div_mul, Nat.mul_comm]
theorem cutNo_length (t : Nat) : ∀ (as : List Area) (k : Nat), (cutNo t as k).length = as.length
  | [], k => rfl
  | a :: as, k => by
    have h := cutNo_length t as k
    unfold cutNo at h ⊢
    unfold dig
    split
    · simp [h]
    · simp [h]
theorem cutNo_le (t : Nat) : ∀ (as : List Area) (k : Nat), ∀ x ∈ cutNo t as k, x ≤ t + 1
  | [], k, x, hx => by simp [cutNo, dig] at hx
  | a :: as, k, x, hx => by
    have h := cutNo_le t as k
    unfold cutNo at h hx
    unfold dig at hx
    split at hx
    · rcases List.mem_cons.mp hx with e | e
      · omega
      · exact h x e
    · rcases List.mem_cons.mp hx with e | e
      · have := Nat.mod_lt (dig t as k).2 (show 0 < t + 2 by omega)
        omega
      · exact h x e
theorem flatMap_len {α β : Type} {f : α → List β} {c : Nat} : ∀ (l : List α), (∀ x ∈ l, (f x).length = c) → (l.flatMap f).length = l.length * c
  | [], _ => by simp
  | a :: l, h => by
    rw [List.flatMap_cons, List.length_append, flatMap_len l (fun x hx => h x (List.mem_cons_of_mem _ hx)), h a List.mem_cons_self, List.length_cons, Nat.add_mul]
    omega
theorem flatMap_get {α β : Type} {f : α → List β} {c : Nat} (hc : 0 < c) : ∀ (l : List α) (i : Nat), (∀ x ∈ l, (f x).length = c) → (l.flatMap f)[i]? = (l[i / c]?).bind fun x => (f x)[i % c]?
  | [], i, _ => by simp
  | a :: l, i, h => by
    have ha := h a List.mem_cons_self
    rw [List.flatMap_cons]
    by_cases hi : i < c
    · rw [List.getElem?_append_left (by omega), Nat.div_eq_of_lt hi, Nat.mod_eq_of_lt hi]
      simp
    · rw [List.getElem?_append_right (by omega), ha, flatMap_get hc l (i - c) (fun x hx => h x (List.mem_cons_of_mem _ hx))]
      have e1 : i / c = (i - c) / c + 1 := Nat.div_eq_sub_div hc (by omega)
      have e2 : i % c = (i - c) % c := Nat.mod_eq_sub_mod (by omega)
      rw [e1, e2]
      simp
theorem cutsL_cons (t : Nat) (a : Area) (as : List Area) : cutsL t (a :: as) = (if a.isExit then [t + 1] else List.range (t + 2)).flatMap fun m => (cutsL t as).map fun cut => m :: cut := rfl
theorem cutsL_len (t : Nat) : ∀ as : List Area, (cutsL t as).length = cnt t as
  | [] => rfl
  | a :: as => by
    rw [cutsL_cons, flatMap_len (c := cnt t as) _ (fun x _ => by rw [List.length_map]; exact cutsL_len t as)]
    show _ = (if a.isExit then 1 else t + 2) * cnt t as
    split
    · rfl
    · rw [List.length_range]
/-- the cut with a number -/
theorem cutsL_get (t : Nat) : ∀ (as : List Area) (k : Nat), (cutsL t as)[k % cnt t as]? = some (cutNo t as k)
  | [], k => by simp [cutsL, cnt, cutNo, dig, Nat.mod_one]
  | a :: as, k => by
    have ih := cutsL_get t as
    have hp := cnt_pos t as
    rw [cutsL_cons, flatMap_get hp _ _ (fun x _ => by rw [List.length_map]; exact cutsL_len t as)]
    show (_ : Option (List Nat)) = some (dig t (a :: as) k).1
    have e : cnt t (a :: as) = (if a.isExit then 1 else t + 2) * cnt t as := rfl
    rw [e]
    by_cases hx : a.isExit = true
    · simp only [hx, if_true, Nat.one_mul, dig]
      have h0 : k % cnt t as / cnt t as = 0 := Nat.div_eq_of_lt (Nat.mod_lt _ hp)
      have h1 : k % cnt t as % cnt t as = k % cnt t as := Nat.mod_mod _ _
      rw [h0, h1]
      simp [ih k, cutNo]
    · have hx' : a.isExit = false := by simpa using hx
      simp only [hx', dig, Bool.false_eq_true, if_false]
      have h0 : k % ((t + 2) * cnt t as) / cnt t as = k / cnt t as % (t + 2) := by
        rw [Nat.mul_comm]
        exact Nat.mod_mul_right_div_self k (cnt t as) (t + 2)
      have h1 : k % ((t + 2) * cnt t as) % cnt t as = k % cnt t as := Nat.mod_mul_left_mod _ _ _
      rw [h0, h1, dig_rest]
      have hlt : k / cnt t as % (t + 2) < t + 2 := Nat.mod_lt _ (by omega)
      rw [List.getElem?_range hlt]
      simp [ih k, cutNo]
theorem cutsL_at {t : Nat} {as : List Area} {k : Nat} (h : k < cnt t as) : (cutsL t as)[k]? = some (cutNo t as k) := by
  have e := cutsL_get t as k
  rwa [Nat.mod_eq_of_lt h] at e
theorem cutsL_range (t : Nat) (as : List Area) : cutsL t as = (List.range (cnt t as)).map (cutNo t as) := by
  refine List.ext_getElem? fun i => ?_
  by_cases h : i < cnt t as
  · rw [cutsL_at h, List.getElem?_map, List.getElem?_range h]
    rfl
  · rw [List.getElem?_eq_none (by rw [cutsL_len]; omega), List.getElem?_eq_none (by rw [List.length_map, List.length_range]; omega)]
theorem cutsL_ne (t : Nat) (as : List Area) : cutsL t as ≠ [] := fun e => by
  have h := cutsL_len t as
  rw [e] at h
  have := cnt_pos t as
  simp at h
  omega
/-- what a cut is -/
def isCutB (t : Nat) : List Area → List Nat → Bool
  | [], [] => true
  | a :: as, c :: cs => (decide (c ≤ t + 1) && (!a.isExit || decide (c = t + 1))) && isCutB t as cs
  | _, _ => false
theorem mem_cutsL (t : Nat) : ∀ (as : List Area) (c : List Nat), c ∈ cutsL t as ↔ isCutB t as c = true
  | [], [] => by simp [cutsL, isCutB]
  | [], _ :: _ => by simp [cutsL, isCutB]
  | a :: as, [] => by simp [cutsL_cons, isCutB]
  | a :: as, x :: c => by
    have ih := mem_cutsL t as c
    rw [cutsL_cons, List.mem_flatMap]
    unfold isCutB
    rw [Bool.and_eq_true, ← ih]
    by_cases hx : a.isExit = true
    · simp only [hx, if_true, List.mem_singleton, List.mem_map]
      constructor
      · rintro ⟨m, rfl, d, hd, e⟩
        injection e with e1 e2
        subst e1 e2
        exact ⟨by simp, hd⟩
      · rintro ⟨h1, h2⟩
        have : x = t + 1 := by simpa using (show _ by simpa using h1 : x ≤ t + 1 ∧ x = t + 1).2
        exact ⟨_, rfl, c, h2, by rw [this]⟩
    · have hx' : a.isExit = false := by simpa using hx
      simp only [hx', Bool.false_eq_true, if_false, List.mem_range, List.mem_map]
      constructor
      · rintro ⟨m, hm, d, hd, e⟩
        injection e with e1 e2
        subst e1 e2
        refine ⟨?_, hd⟩
        simp
        omega
      · rintro ⟨h1, h2⟩
        have : x ≤ t + 1 := by simpa using h1
        exact ⟨x, by omega, c, h2, rfl⟩
theorem contains_cuts (n : Network) (t : Nat) (c : List Nat) : (n.cuts t).contains c = isCutB t n.areas c := by
  rw [cuts_eq, List.contains_eq_mem]
  by_cases h : isCutB t n.areas c = true
  · rw [h, decide_eq_true ((mem_cutsL t _ _).mpr h)]
  · rw [decide_eq_false (fun q => h ((mem_cutsL t _ _).mp q))]
    simpa using h
theorem isCutB_length {t : Nat} : ∀ {as : List Area} {c : List Nat}, isCutB t as c = true → c.length = as.length
  | [], [], _ => rfl
  | [], _ :: _, h => by simp [isCutB] at h
  | _ :: _, [], h => by simp [isCutB] at h
  | a :: as, x :: c, h => by
    unfold isCutB at h
    rw [Bool.and_eq_true] at h
    simp [isCutB_length h.2]
theorem isCutB_le {t : Nat} : ∀ {as : List Area} {c : List Nat}, isCutB t as c = true → ∀ x ∈ c, x ≤ t + 1
  | [], [], _, x, hx => by simp at hx
  | [], _ :: _, h, _, _ => by simp [isCutB] at h
  | _ :: _, [], h, _, _ => by simp [isCutB] at h
  | a :: as, y :: c, h, x, hx => by
    unfold isCutB at h
    simp only [Bool.and_eq_true, decide_eq_true_eq] at h
    rcases List.mem_cons.mp hx with e | e
    · rw [e]; exact h.1.1
    · exact isCutB_le h.2 x e
theorem cutNo_mem {t : Nat} {as : List Area} {k : Nat} (h : k < cnt t as) : cutNo t as k ∈ cutsL t as := List.mem_of_getElem? (cutsL_at h)

/-! ### capacities -/
def cross (p : Passage) (c : List Nat) : Nat := c.getD p.target 0 - p.travelTime - c.getD p.source 0
def peopleB (as : List Area) (c : List Nat) : Nat := ((as.zip c).map fun q => if q.2 = 0 then 0 else q.1.people).sum
def acrossB (ps : List Passage) (c : List Nat) : Nat := (ps.map fun p => p.capacity * cross p c).sum
def capF (n : Network) (c : List Nat) : Nat := peopleB n.areas c + acrossB n.passages c
theorem count_range (lo hi : Nat) : ∀ N : Nat, ((List.range N).filter fun m => decide (lo ≤ m) && decide (m < hi)).length = min N hi - lo
  | 0 => by simp
  | N + 1 => by
    rw [List.range_succ, List.filter_append, List.length_append, count_range lo hi N]
    by_cases h1 : lo ≤ N
    · by_cases h2 : N < hi
      · simp [h1, h2]
        omega
      · simp [h1, h2]
        omega
    · simp [h1]
      omega
theorem getD_le {c : List Nat} {b : Nat} (h : ∀ x ∈ c, x ≤ b) (i : Nat) : c.getD i 0 ≤ b := by
  rw [List.getD_eq_getElem?_getD]
  cases e : c[i]? with
  | none => exact Nat.zero_le _
  | some x => exact h x (List.mem_of_getElem? e)
theorem cross_eq {t : Nat} {c : List Nat} (h : ∀ x ∈ c, x ≤ t + 1) (p : Passage) : ((List.range (t + 1)).filter fun m =>
    decide (c.getD p.source 0 ≤ m) && decide (m + p.travelTime ≤ t) && decide (m + p.travelTime < c.getD p.target 0)).length = cross p c := by
  have hb := getD_le h p.target
  have e : (fun m => decide (c.getD p.source 0 ≤ m) && decide (m + p.travelTime ≤ t) && decide (m + p.travelTime < c.getD p.target 0)) = fun m => decide (c.getD p.source 0 ≤ m) && decide (m < c.getD p.target 0 - p.travelTime) := by
    funext m
    rw [Bool.and_assoc]
    congr 1
    rw [Bool.eq_iff_iff]
    simp only [Bool.and_eq_true, decide_eq_true_eq]
    omega
  rw [e, count_range]
  unfold cross
  omega
theorem cap_eq {t : Nat} {c : List Nat} (h : ∀ x ∈ c, x ≤ t + 1) (n : Network) : n.cutCapacity t c = capF n c := by
  unfold Network.cutCapacity capF acrossB
  congr 2
  refine List.map_congr_left fun p _ => ?_
  rw [cross_eq h]
theorem le_of_cuts {t : Nat} {as : List Area} {c : List Nat} (h : c ∈ cutsL t as) : ∀ x ∈ c, x ≤ t + 1 := isCutB_le ((mem_cutsL t as c).mp h)
theorem cap_eq_cuts {t : Nat} {n : Network} {c : List Nat} (h : c ∈ n.cuts t) : n.cutCapacity t c = capF n c := cap_eq (le_of_cuts h) n

/-! ### the smallest cut -/
def stepB (n : Network) (best : Nat × List Nat) (cut : List Nat) : Nat × List Nat := if capF n cut < best.1 then (capF n cut, cut) else best
def scan (n : Network) (t k : Nat) : Nat × List Nat := (((n.cuts t).drop 1).take k).foldl (stepB n) (capF n (cutNo t n.areas 0), cutNo t n.areas 0)
theorem scan_zero (n : Network) (t : Nat) : scan n t 0 = (capF n (cutNo t n.areas 0), cutNo t n.areas 0) := rfl
theorem scan_succ {n : Network} {t k : Nat} (h : k + 1 < cnt t n.areas) : scan n t (k + 1) = stepB n (scan n t k) (cutNo t n.areas (k + 1)) := by
  unfold scan
  refine foldl_take_succ ?_
  rw [List.getElem?_drop, cuts_eq, Nat.add_comm]
  exact cutsL_at h
theorem scan_all (n : Network) (t : Nat) (hx : n.hasExit = true) : (scan n t (cnt t n.areas - 1)).2 = n.minCut t := by
  unfold Network.minCut scan
  rw [hx]
  have h0 : (n.cuts t)[0]? = some (cutNo t n.areas 0) := cutsL_at (cnt_pos t n.areas)
  have hl : (n.cuts t).length = cnt t n.areas := cutsL_len t n.areas
  have hm : ∀ c ∈ n.cuts t, n.cutCapacity t c = capF n c := fun c hc => cap_eq_cuts hc
  revert h0 hl hm
  generalize n.cuts t = cs
  intro h0 hl hm
  cases cs with
  | nil => simp at h0
  | cons c r =>
    have e : c = cutNo t n.areas 0 := by simpa using h0
    have hr : r.length = cnt t n.areas - 1 := by
      rw [List.length_cons] at hl
      omega
    rw [← e, ← hm c List.mem_cons_self]
    show ((r.take (cnt t n.areas - 1)).foldl (stepB n) (n.cutCapacity t c, c)).2 = _
    rw [← hr, List.take_length]
    show _ = (r.foldl (fun (best : Nat × List Nat) cut => if n.cutCapacity t cut < best.1 then (n.cutCapacity t cut, cut) else best) (n.cutCapacity t c, c)).2
    congr 1
    have aux : ∀ (l : List (List Nat)) (b : Nat × List Nat), (∀ x ∈ l, n.cutCapacity t x = capF n x) → l.foldl (stepB n) b = l.foldl (fun (best : Nat × List Nat) cut => if n.cutCapacity t cut < best.1 then (n.cutCapacity t cut, cut) else best) b := by
      intro l
      induction l with
      | nil => intro b _; rfl
      | cons x l ih =>
        intro b hb
        rw [List.foldl_cons, List.foldl_cons, ih _ fun y hy => hb y (List.mem_cons_of_mem _ hy)]
        congr 1
        unfold stepB
        rw [hb x List.mem_cons_self]
    exact aux r _ fun x hx => hm x (List.mem_cons_of_mem _ hx)
theorem scan_fst (n : Network) (t k : Nat) : (scan n t k).1 = capF n (scan n t k).2 := by
  unfold scan
  have aux : ∀ (l : List (List Nat)) (b : Nat × List Nat), b.1 = capF n b.2 → (l.foldl (stepB n) b).1 = capF n (l.foldl (stepB n) b).2 := by
    intro l
    induction l with
    | nil => intro b h; exact h
    | cons x l ih =>
      intro b h
      rw [List.foldl_cons]
      refine ih _ ?_
      unfold stepB
      split
      · rfl
      · exact h
  exact aux _ _ rfl
/-- the smallest cut is a cut, and none is smaller -/
theorem fold_min (n : Network) : ∀ (l : List (List Nat)) (b : Nat × List Nat), b.1 = capF n b.2 →
    ((l.foldl (stepB n) b).2 = b.2 ∨ (l.foldl (stepB n) b).2 ∈ l) ∧ capF n (l.foldl (stepB n) b).2 ≤ b.1 ∧ ∀ c ∈ l, capF n (l.foldl (stepB n) b).2 ≤ capF n c
  | [], b, h => ⟨.inl rfl, by show capF n b.2 ≤ b.1; rw [h]; exact Nat.le_refl _, fun c hc => by simp at hc⟩
  | x :: l, b, h => by
    rw [List.foldl_cons]
    by_cases hc : capF n x < b.1
    · have e : stepB n b x = (capF n x, x) := if_pos hc
      rw [e]
      obtain ⟨h1, h2, h3⟩ := fold_min n l (capF n x, x) rfl
      refine ⟨?_, Nat.le_trans h2 (Nat.le_of_lt hc), fun c hc' => ?_⟩
      · rcases h1 with h1 | h1
        · exact .inr (by rw [h1]; exact List.mem_cons_self)
        · exact .inr (List.mem_cons_of_mem _ h1)
      · rcases List.mem_cons.mp hc' with e | e
        · rw [e]; exact h2
        · exact h3 c e
    · have e : stepB n b x = b := if_neg hc
      rw [e]
      obtain ⟨h1, h2, h3⟩ := fold_min n l b h
      refine ⟨?_, h2, fun c hc' => ?_⟩
      · rcases h1 with h1 | h1
        · exact .inl h1
        · exact .inr (List.mem_cons_of_mem _ h1)
      · rcases List.mem_cons.mp hc' with e | e
        · rw [e]; omega
        · exact h3 c e
theorem minCut_spec (n : Network) (t : Nat) (hx : n.hasExit = true) : n.minCut t ∈ n.cuts t ∧ ∀ c ∈ n.cuts t, capF n (n.minCut t) ≤ capF n c := by
  rw [← scan_all n t hx]
  unfold scan
  have h0 : (n.cuts t)[0]? = some (cutNo t n.areas 0) := cutsL_at (cnt_pos t n.areas)
  have hl : (n.cuts t).length = cnt t n.areas := cutsL_len t n.areas
  revert h0 hl
  generalize n.cuts t = cs
  intro h0 hl
  cases cs with
  | nil => simp at h0
  | cons c r =>
    have e : c = cutNo t n.areas 0 := by simpa using h0
    have hr : r.length = cnt t n.areas - 1 := by
      rw [List.length_cons] at hl
      omega
    rw [← e]
    show ((r.take (cnt t n.areas - 1)).foldl (stepB n) (capF n c, c)).2 ∈ c :: r ∧ ∀ d ∈ c :: r, capF n ((r.take (cnt t n.areas - 1)).foldl (stepB n) (capF n c, c)).2 ≤ capF n d
    rw [← hr, List.take_length]
    obtain ⟨h1, h2, h3⟩ := fold_min n r (capF n c, c) rfl
    refine ⟨?_, fun d hd => ?_⟩
    · rcases h1 with h1 | h1
      · rw [h1]; exact List.mem_cons_self
      · exact List.mem_cons_of_mem _ h1
    · rcases List.mem_cons.mp hd with e | e
      · rw [e]; exact h2
      · exact h3 d e
theorem minCut_length (n : Network) (t : Nat) : (n.minCut t).length = n.areas.length := by
  by_cases hx : n.hasExit = true
  · exact isCutB_length ((mem_cutsL t _ _).mp (minCut_spec n t hx).1)
  · unfold Network.minCut
    simp [hx]
theorem minCut_none {n : Network} {t : Nat} (hx : n.hasExit = false) : n.minCut t = n.areas.map fun _ => 0 := by
  unfold Network.minCut
  simp [hx]
theorem minCut_le (n : Network) (t : Nat) : ∀ x ∈ n.minCut t, x ≤ t + 1 := by
  by_cases hx : n.hasExit = true
  · exact le_of_cuts (minCut_spec n t hx).1
  · rw [minCut_none (by simpa using hx)]
    intro x hx
    simp at hx
    omega
theorem max_eq (n : Network) (t : Nat) : n.maxEvacuated t = capF n (n.minCut t) := cap_eq (minCut_le n t) n
end Bx
end

section
set_option maxRecDepth 10000
/-! The plain law, part 2: earliest evacuation, max_people, critical passages. -/
namespace Bx
open Kv434

def total (n : Network) : Nat := n.totalPeople
/-- the cut that crosses nothing -/
def never (t : Nat) (as : List Area) : List Nat := as.map fun _ => t + 1
theorem never_isCut (t : Nat) : ∀ as : List Area, isCutB t as (never t as) = true
  | [] => rfl
  | a :: as => by
    show ((decide (t + 1 ≤ t + 1) && (!a.isExit || decide (t + 1 = t + 1))) && isCutB t as (never t as)) = true
    rw [never_isCut t as]
    simp
theorem never_getD_le (t : Nat) (as : List Area) (i : Nat) : (never t as).getD i 0 ≤ t + 1 := getD_le (isCutB_le (never_isCut t as)) i
theorem never_getD {t : Nat} {as : List Area} {i : Nat} (h : i < as.length) : (never t as).getD i 0 = t + 1 := by
  unfold never
  rw [List.getD_eq_getElem?_getD, List.getElem?_map, List.getElem?_eq_getElem h]
  rfl
theorem peopleB_never (t : Nat) : ∀ as : List Area, peopleB as (never t as) = (as.map Area.people).sum
  | [] => rfl
  | a :: as => by
    have ih := peopleB_never t as
    unfold peopleB never at ih ⊢
    simp only [List.map_cons, List.zip_cons_cons, List.sum_cons]
    rw [ih, if_neg (by omega)]
/-- sources stand -/
def Src (n : Network) : Prop := ∀ p ∈ n.passages, p.source < n.areas.length
theorem capF_never {n : Network} (t : Nat) (hs : Src n) : capF n (never t n.areas) = total n := by
  unfold capF
  rw [peopleB_never]
  have e : acrossB n.passages (never t n.areas) = 0 := by
    unfold acrossB
    have : ∀ (ps : List Passage), (∀ p ∈ ps, p.source < n.areas.length) → (ps.map fun p => p.capacity * cross p (never t n.areas)).sum = 0 := by
      intro ps
      induction ps with
      | nil => intro _; rfl
      | cons p ps ih =>
        intro h
        rw [List.map_cons, List.sum_cons, ih fun q hq => h q (List.mem_cons_of_mem _ hq)]
        have h1 := never_getD (t := t) (h p List.mem_cons_self)
        have h2 := never_getD_le t n.areas p.target
        unfold cross
        rw [h1]
        have : (never t n.areas).getD p.target 0 - p.travelTime - (t + 1) = 0 := by omega
        rw [this]
        rfl
    exact this _ hs
  rw [e]
  rfl
theorem peopleB_zero : ∀ as : List Area, peopleB as (as.map fun _ => 0) = 0
  | [] => rfl
  | a :: as => by
    have ih := peopleB_zero as
    unfold peopleB at ih ⊢
    simp only [List.map_cons, List.zip_cons_cons, List.sum_cons]
    rw [ih]
    rfl
theorem zeros_getD (as : List Area) (i : Nat) : (as.map fun _ => 0).getD i 0 = 0 := by
  rw [List.getD_eq_getElem?_getD, List.getElem?_map]
  cases as[i]? <;> rfl
theorem capF_zeros (n : Network) : capF n (n.areas.map fun _ => 0) = 0 := by
  unfold capF
  rw [peopleB_zero]
  unfold acrossB
  have : ∀ (ps : List Passage), (ps.map fun p => p.capacity * cross p (n.areas.map fun _ => 0)).sum = 0 := by
    intro ps
    induction ps with
    | nil => rfl
    | cons p ps ih =>
      rw [List.map_cons, List.sum_cons, ih]
      unfold cross
      rw [zeros_getD, zeros_getD]
      simp
  rw [this]
theorem max_none {n : Network} {t : Nat} (hx : n.hasExit = false) : n.maxEvacuated t = 0 := by
  rw [max_eq, minCut_none hx, capF_zeros]
theorem max_le_total {n : Network} (t : Nat) (hs : Src n) : n.maxEvacuated t ≤ total n := by
  by_cases hx : n.hasExit = true
  · rw [max_eq, ← capF_never t hs]
    exact (minCut_spec n t hx).2 _ ((mem_cutsL t _ _).mpr (never_isCut t _))
  · rw [max_none (by simpa using hx)]
    exact Nat.zero_le _
/-- the maximum falls short of all people just when some cut does -/
theorem max_lt_iff {n : Network} {t : Nat} (hx : n.hasExit = true) (k : Nat) : n.maxEvacuated t < k ↔ ∃ c ∈ n.cuts t, capF n c < k := by
  rw [max_eq]
  obtain ⟨h1, h2⟩ := minCut_spec n t hx
  constructor
  · intro h
    exact ⟨_, h1, h⟩
  · rintro ⟨c, hc, h⟩
    exact Nat.lt_of_le_of_lt (h2 c hc) h

/-! ### the earliest evacuation -/
def earlyF (n : Network) : Int := match n.earliestEvacuation with
  | none => -1
  | some t => (t : Nat)
theorem find_range {p : Nat → Bool} {N i : Nat} (hi : i < N) (hp : p i = true) (hb : ∀ j < i, p j = false) : (List.range N).find? p = some i := by
  rw [List.find?_range_eq_some]
  refine ⟨hp, by simpa using hi, fun j hj => ?_⟩
  rw [hb j hj]
  rfl
theorem find_none {p : Nat → Bool} {N : Nat} (hb : ∀ j < N, p j = false) : (List.range N).find? p = none := by
  rw [List.find?_range_eq_none]
  intro j hj
  rw [hb j hj]
  rfl
theorem early_some {n : Network} {t : Nat} (ht : t < 6) (h : n.maxEvacuated t = total n) (hb : ∀ j < t, n.maxEvacuated j ≠ total n) : n.earliestEvacuation = some t := by
  unfold Network.earliestEvacuation
  refine find_range ht ?_ fun j hj => ?_
  · simpa [total] using h
  · simpa [total] using hb j hj
theorem early_none {n : Network} (hb : ∀ j < 6, n.maxEvacuated j ≠ total n) : n.earliestEvacuation = none := by
  unfold Network.earliestEvacuation
  refine find_none fun j hj => ?_
  simpa [total] using hb j hj
theorem early_is {n : Network} {t : Nat} (h : n.earliestEvacuation = some t) : t < 6 ∧ n.maxEvacuated t = total n := by
  unfold Network.earliestEvacuation at h
  have h1 := List.find?_some h
  have h2 := List.mem_of_find?_eq_some h
  refine ⟨by simpa [lastMinute] using h2, ?_⟩
  simpa [total] using h1

/-! ### max_people -/
/-- the program's running least -/
def spareStep (n : Network) (i : Nat) (f : Int) (c : List Nat) : Int := if (capF n c : Int) - total n < 0 ∨ c.getD i 0 = 0 then min f ((capF n c : Int) - total n) else f
def spareF (n : Network) (i t k : Nat) : Int := ((n.cuts t).take k).foldl (spareStep n i) 20
theorem spare_succ {n : Network} {i t k : Nat} (h : k < cnt t n.areas) : spareF n i t (k + 1) = spareStep n i (spareF n i t k) (cutNo t n.areas k) := by
  unfold spareF
  exact foldl_take_succ (by rw [cuts_eq]; exact cutsL_at h)
def spareAll (n : Network) (i t : Nat) : Int := (n.cuts t).foldl (spareStep n i) 20
theorem spare_all (n : Network) (i t : Nat) : spareF n i t (cnt t n.areas) = spareAll n i t := by
  unfold spareF spareAll
  rw [show cnt t n.areas = (n.cuts t).length from (cutsL_len t n.areas).symm, List.take_length]
theorem spare_low {n : Network} {i : Nat} : ∀ (l : List (List Nat)) (f : Int), l.foldl (spareStep n i) f ≤ f
  | [], f => Int.le_refl _
  | c :: l, f => by
    rw [List.foldl_cons]
    refine Int.le_trans (spare_low l _) ?_
    unfold spareStep
    split <;> omega
theorem spare_neg {n : Network} {i : Nat} : ∀ (l : List (List Nat)) (f : Int), (∃ c ∈ l, capF n c < total n) → l.foldl (spareStep n i) f < 0
  | [], f, ⟨c, hc, _⟩ => by simp at hc
  | c :: l, f, ⟨d, hd, h⟩ => by
    rw [List.foldl_cons]
    rcases List.mem_cons.mp hd with e | e
    · subst e
      refine Int.lt_of_le_of_lt (spare_low l _) ?_
      unfold spareStep
      rw [if_pos (.inl (by omega))]
      omega
    · exact spare_neg l _ ⟨d, e, h⟩
theorem spare_ok {n : Network} {i : Nat} : ∀ (l : List (List Nat)) (f : Nat), (∀ c ∈ l, total n ≤ capF n c) → l.foldl (spareStep n i) (f : Int) = ((l.foldl (fun best cut => if cut.getD i 0 = 0 then min best (capF n cut - total n) else best) f : Nat) : Int)
  | [], f, _ => rfl
  | c :: l, f, h => by
    rw [List.foldl_cons, List.foldl_cons]
    have hc := h c List.mem_cons_self
    have e : spareStep n i (f : Int) c = ((if c.getD i 0 = 0 then min f (capF n c - total n) else f : Nat) : Int) := by
      unfold spareStep
      by_cases h0 : c.getD i 0 = 0
      · rw [if_pos (.inr h0), if_pos h0]
        omega
      · rw [if_neg (fun q => by rcases q with q | q; omega; exact h0 q), if_neg h0]
    rw [e]
    exact spare_ok l _ fun d hd => h d (List.mem_cons_of_mem _ hd)
theorem isExit_never {t : Nat} : ∀ {as : List Area} {c : List Nat} {i : Nat} {a : Area}, isCutB t as c = true → as[i]? = some a → a.isExit = true → c.getD i 0 = t + 1
  | [], _, i, a, _, h, _ => by simp at h
  | _ :: _, [], _, _, h, _, _ => by simp [isCutB] at h
  | b :: as, x :: c, 0, a, h, e, hx => by
    have : b = a := by simpa using e
    subst this
    unfold isCutB at h
    rw [hx] at h
    simp at h
    simp [h.1.2]
  | b :: as, x :: c, i + 1, a, h, e, hx => by
    unfold isCutB at h
    rw [Bool.and_eq_true] at h
    have := isExit_never (i := i) h.2 (by simpa using e) hx
    simpa using this
/-- what the program's max_people gives, NEVER as -1 -/
def maxPeopleF (n : Network) (i t : Nat) : Int := match n.maxPeople i t with
  | none => -1
  | some k => (k : Nat)
theorem withPeople_areas (n : Network) (i k : Nat) : (n.withPeople i k).areas = n.areas.modify i fun a => { a with people := k } := rfl
theorem modify_exits {f : Area → Area} (hf : ∀ a, (f a).isExit = a.isExit) : ∀ (as : List Area) (i : Nat), (as.modify i f).map Area.isExit = as.map Area.isExit
  | [], i => by simp
  | a :: as, 0 => by simp [hf]
  | a :: as, i + 1 => by simp [modify_exits hf as i]
theorem hasExit_map (n : Network) : n.hasExit = (n.areas.map Area.isExit).any id := by
  unfold Network.hasExit
  rw [List.any_map]
  rfl
theorem withPeople_hasExit (n : Network) (i k : Nat) : (n.withPeople i k).hasExit = n.hasExit := by
  rw [hasExit_map, hasExit_map, withPeople_areas, modify_exits (f := fun a => { a with people := k }) (fun _ => rfl)]
theorem withPeople_src {n : Network} (h : Src n) (i k : Nat) : Src (n.withPeople i k) := fun p hp => by
  rw [withPeople_areas, List.length_modify]
  exact h p hp
theorem maxPeople_none {n : Network} {i t : Nat} (hx : n.hasExit = false) : maxPeopleF n i t = if total (n.withPeople i 0) = 0 then 0 else -1 := by
  unfold maxPeopleF Network.maxPeople
  have hx' : (n.withPeople i 0).hasExit = false := (withPeople_hasExit n i 0).trans hx
  simp only [max_none hx']
  by_cases h : total (n.withPeople i 0) = 0
  · rw [if_pos h]
    have hh : (n.withPeople i 0).totalPeople = 0 := h
    have ha : (n.area i).isExit = false := by
      unfold Network.area
      rw [List.getD_eq_getElem?_getD]
      cases e : n.areas[i]? with
      | none => rfl
      | some a =>
        have := List.mem_of_getElem? e
        unfold Network.hasExit at hx
        rw [List.any_eq_false] at hx
        have := hx a this
        simpa using this
    rw [hh, ha, hx]
    simp
  · rw [if_neg h]
    have hh : (0 : Nat) ≠ (n.withPeople i 0).totalPeople := fun e => h e.symm
    rw [if_pos hh]
theorem maxPeople_exit {n : Network} {i t : Nat} (hs : Src n) (hi : i < n.areas.length) (hx : n.hasExit = true) : maxPeopleF n i t = max (-1) (spareAll (n.withPeople i 0) i t) := by
  unfold maxPeopleF Network.maxPeople
  generalize ho : n.withPeople i 0 = o
  have hx' : o.hasExit = true := by rw [← ho]; exact (withPeople_hasExit n i 0).trans hx
  have hs' : Src o := by rw [← ho]; exact withPeople_src hs i 0
  have hle := max_le_total t hs'
  dsimp only
  by_cases h : o.maxEvacuated t = o.totalPeople
  · rw [if_neg (by simp [h])]
    have hall : ∀ c ∈ o.cuts t, total o ≤ capF o c := fun c hc => by
      have hn : ¬ o.maxEvacuated t < total o := by rw [h]; exact Nat.lt_irrefl _
      rw [max_lt_iff hx'] at hn
      exact Nat.not_lt.mp fun q => hn ⟨c, hc, q⟩
    have hk := spare_ok (n := o) (i := i) (o.cuts t) 20 hall
    by_cases ha : (n.area i).isExit = true
    · rw [if_pos ha]
      have e20 : spareAll o i t = 20 := by
        unfold spareAll
        have hk' : (o.cuts t).foldl (spareStep o i) 20 = _ := hk
        rw [hk']
        have hne : ∀ c ∈ o.cuts t, c.getD i 0 ≠ 0 := fun c hc => by
          have hcut := (mem_cutsL t _ c).mp hc
          have : ∃ a, o.areas[i]? = some a ∧ a.isExit = true := by
            rw [← ho, withPeople_areas, List.getElem?_modify]
            unfold Network.area at ha
            rw [List.getD_eq_getElem?_getD, List.getElem?_eq_getElem hi] at ha
            rw [List.getElem?_eq_getElem hi]
            refine ⟨{ n.areas[i] with people := 0 }, by simp, ?_⟩
            simpa using ha
          obtain ⟨a, e, hax⟩ := this
          rw [isExit_never hcut e hax]
          omega
        have aux : ∀ (l : List (List Nat)) (f : Nat), (∀ c ∈ l, c.getD i 0 ≠ 0) → l.foldl (fun best cut => if cut.getD i 0 = 0 then min best (capF o cut - total o) else best) f = f := by
          intro l
          induction l with
          | nil => intro f _; rfl
          | cons c l ih =>
            intro f hl
            rw [List.foldl_cons, if_neg (hl c List.mem_cons_self)]
            exact ih f fun d hd => hl d (List.mem_cons_of_mem _ hd)
        rw [aux _ _ hne]
        rfl
      rw [e20]
      rfl
    · rw [if_neg ha]
      have hxs : (!n.hasExit) = false := by rw [hx]; rfl
      rw [if_neg (by simp [hx])]
      have hk' : spareAll o i t = _ := hk
      rw [hk']
      have ec : (o.cuts t).foldl (fun best cut => if cut.getD i 0 = 0 then min best (o.cutCapacity t cut - o.totalPeople) else best) 20 = (o.cuts t).foldl (fun best cut => if cut.getD i 0 = 0 then min best (capF o cut - total o) else best) 20 := by
        have aux : ∀ (l : List (List Nat)) (f : Nat), (∀ c ∈ l, o.cutCapacity t c = capF o c) → l.foldl (fun best cut => if cut.getD i 0 = 0 then min best (o.cutCapacity t cut - o.totalPeople) else best) f = l.foldl (fun best cut => if cut.getD i 0 = 0 then min best (capF o cut - total o) else best) f := by
          intro l
          induction l with
          | nil => intro f _; rfl
          | cons c l ih =>
            intro f hl
            rw [List.foldl_cons, List.foldl_cons, hl c List.mem_cons_self]
            exact ih _ fun d hd => hl d (List.mem_cons_of_mem _ hd)
        exact aux _ _ fun c hc => cap_eq_cuts hc
      rw [ec]
      dsimp only
      omega
  · rw [if_pos h]
    have hlt : o.maxEvacuated t < total o := Nat.lt_of_le_of_ne hle h
    have := spare_neg (n := o) (i := i) (o.cuts t) 20 ((max_lt_iff hx' _).mp hlt)
    have h2 : spareAll o i t < 0 := this
    dsimp only
    omega
theorem maxPeople_bound (n : Network) (i t : Nat) : -1 ≤ maxPeopleF n i t := by
  unfold maxPeopleF
  split <;> omega

/-! ### critical passages -/
def limB (n : Network) (p : Passage) (c : List Nat) : Bool := decide ((capF n c : Int) - cross p c < total n)
/-- what is_limiting answers -/
def limF (n : Network) (t : Nat) (p : Passage) : Bool := total n != 0 && (n.cuts t).any (limB n p)
theorem cross_pos {p : Passage} {c : List Nat} {m : Passage} (h1 : m.source = p.source) (h2 : m.target = p.target) (h3 : m.travelTime = p.travelTime) : cross m c = cross p c := by
  unfold cross
  rw [h1, h2, h3]
theorem across_less : ∀ (ps : List Passage) (k : Nat) (p : Passage) (c : List Nat), ps[k]? = some p → 0 < p.capacity → acrossB (ps.modify k fun q => { q with capacity := p.capacity - 1 }) c + cross p c = acrossB ps c
  | [], k, p, c, h, _ => by simp at h
  | q :: ps, 0, p, c, h, hp => by
    have e : q = p := by simpa using h
    subst e
    unfold acrossB
    simp only [List.modify_zero_cons, List.map_cons, List.sum_cons]
    have e1 : cross { q with capacity := q.capacity - 1 } c = cross q c := rfl
    rw [e1]
    have e2 : q.capacity * cross q c = (q.capacity - 1) * cross q c + cross q c := by
      conv => lhs; rw [show q.capacity = (q.capacity - 1) + 1 by omega]
      rw [Nat.add_mul, Nat.one_mul]
    omega
  | q :: ps, k + 1, p, c, h, hp => by
    have ih := across_less ps k p c (by simpa using h) hp
    unfold acrossB at ih ⊢
    simp only [List.modify_succ_cons, List.map_cons, List.sum_cons]
    omega
theorem capF_less {n : Network} {k : Nat} {p : Passage} (h : n.passages[k]? = some p) (hp : 0 < p.capacity) (c : List Nat) : capF (n.withCapacity k (p.capacity - 1)) c + cross p c = capF n c := by
  have e := across_less n.passages k p c h hp
  unfold capF Network.withCapacity
  dsimp only
  omega
theorem withCapacity_src {n : Network} (h : Src n) (k v : Nat) : Src (n.withCapacity k v) := fun p hp => by
  have hp' : p ∈ n.passages.modify k fun q => { q with capacity := v } := hp
  obtain ⟨i, hi⟩ := List.mem_iff_getElem?.mp hp'
  rw [List.getElem?_modify] at hi
  cases e : n.passages[i]? with
  | none => rw [e] at hi; simp at hi
  | some q =>
    rw [e] at hi
    have hq := h q (List.mem_of_getElem? e)
    have hi2 : (if k = i then { q with capacity := v } else q) = p := by simpa using hi
    show p.source < n.areas.length
    rw [← hi2]
    split <;> exact hq
theorem critical_eq {n : Network} {t k : Nat} {p : Passage} (hs : Src n) (ht : n.maxEvacuated t = total n) (h : n.passages[k]? = some p) (hp : 0 < p.capacity) :
    ((n.passage k).capacity == 1 || ((n.withCapacity k ((n.passage k).capacity - 1)).maxEvacuated t != n.totalPeople)) = (p.capacity == 1 || limF n t p) := by
  have e1 : n.passage k = p := by
    unfold Network.passage
    rw [List.getD_eq_getElem?_getD, h]
    rfl
  rw [e1]
  congr 1
  have hs' := withCapacity_src hs k (p.capacity - 1)
  have hle := max_le_total t hs'
  have et : total (n.withCapacity k (p.capacity - 1)) = total n := rfl
  rw [et] at hle
  have hc : (n.withCapacity k (p.capacity - 1)).hasExit = n.hasExit := rfl
  unfold limF
  rw [Bool.eq_iff_iff]
  simp only [bne_iff_ne, Bool.and_eq_true, List.any_eq_true, limB, decide_eq_true_eq]
  have hne : (n.withCapacity k (p.capacity - 1)).maxEvacuated t ≠ n.totalPeople ↔ (n.withCapacity k (p.capacity - 1)).maxEvacuated t < total n := by
    constructor
    · intro q
      exact Nat.lt_of_le_of_ne hle q
    · intro q e
      have : total n < total n := by
        conv => lhs; rw [show total n = n.totalPeople from rfl, ← e]
        exact q
      exact Nat.lt_irrefl _ this
  rw [hne]
  by_cases hx : n.hasExit = true
  · rw [max_lt_iff (hc.trans hx)]
    constructor
    · rintro ⟨c, hm, hlt⟩
      have := capF_less h hp c
      exact ⟨by omega, c, hm, by omega⟩
    · rintro ⟨_, c, hm, hlt⟩
      have := capF_less h hp c
      exact ⟨c, hm, by omega⟩
  · have hx' : n.hasExit = false := by simpa using hx
    rw [max_none hx'] at ht
    rw [max_none (hc.trans hx')]
    constructor
    · intro q; omega
    · rintro ⟨q, _⟩; omega
end Bx
end

section
set_option maxRecDepth 10000
/-! The plain law, part 3: plans. -/
namespace Bx
open Kv434

theorem parse_len : ∀ (m : Nat) (ns : List Nat), ns.length = 3 * m → (parseSteps ns).length = m
  | 0, [], _ => rfl
  | 0, _ :: _, h => by simp at h
  | m + 1, a :: b :: c :: r, h => by
    have hr : r.length = 3 * m := by simp at h; omega
    show (parseSteps r).length + 1 = m + 1
    rw [parse_len m r hr]
  | m + 1, [], h => by simp at h
  | m + 1, [_], h => by simp at h; omega
  | m + 1, [_, _], h => by simp at h; omega
theorem parse_get : ∀ (m : Nat) (ns : List Nat) (j : Nat), ns.length = 3 * m → j < m → (parseSteps ns)[j]? = some ⟨ns.getD (3 * j) 0, ns.getD (3 * j + 1) 0, ns.getD (3 * j + 2) 0⟩
  | 0, _, _, _, h => by omega
  | m + 1, a :: b :: c :: r, 0, _, _ => rfl
  | m + 1, a :: b :: c :: r, j + 1, h, hj => by
    have hr : r.length = 3 * m := by simp at h; omega
    show (parseSteps r)[j]? = _
    rw [parse_get m r j hr (by omega)]
    rfl
  | m + 1, [], _, h, _ => by simp at h
  | m + 1, [_], _, h, _ => by simp at h; omega
  | m + 1, [_, _], _, h, _ => by simp at h; omega

theorem peopleOf_nil (sel : PlanStep → Bool) : peopleOf [] sel = 0 := rfl
theorem peopleOf_snoc (l : List PlanStep) (x : PlanStep) (sel : PlanStep → Bool) : peopleOf (l ++ [x]) sel = peopleOf l sel + if sel x then x.people else 0 := by
  unfold peopleOf
  rw [List.filter_append, List.map_append, List.sum_append]
  congr 1
  by_cases h : sel x = true
  · simp [h]
  · simp [h]
theorem peopleOf_succ {l : List PlanStep} {i : Nat} {x : PlanStep} (h : l[i]? = some x) (sel : PlanStep → Bool) : peopleOf (l.take (i + 1)) sel = peopleOf (l.take i) sel + if sel x then x.people else 0 := by
  rw [take_succ_snoc h, peopleOf_snoc]
theorem peopleOf_congr {f g : PlanStep → Bool} (l : List PlanStep) (h : ∀ s, f s = g s) : peopleOf l f = peopleOf l g := by
  have : f = g := funext h
  rw [this]

/-! ### the parts of a plan's test -/
def knownB (n : Network) (l : List PlanStep) : Bool := l.all fun s => decide (s.passage < n.passages.length) && decide (s.minute ≤ lastMinute)
def enterF (l : List PlanStep) (k m : Nat) : Nat := peopleOf l fun s => s.passage == k && s.minute == m
def capsB (n : Network) (l : List PlanStep) : Bool := (List.range n.passages.length).all fun k => (List.range 6).all fun m => decide (enterF l k m ≤ (n.passage k).capacity)
def arrivedF (n : Network) (l : List PlanStep) (i m : Nat) : Nat := peopleOf l fun s => decide ((n.passage s.passage).target = i) && decide (s.minute + (n.passage s.passage).travelTime ≤ m)
def goneF (n : Network) (l : List PlanStep) (i m : Nat) : Nat := peopleOf l fun s => decide ((n.passage s.passage).source = i) && decide (s.minute < m)
def leaveF (n : Network) (l : List PlanStep) (i m : Nat) : Nat := peopleOf l fun s => (n.passage s.passage).source == i && s.minute == m
theorem peopleOf_cons (x : PlanStep) (l : List PlanStep) (sel : PlanStep → Bool) : peopleOf (x :: l) sel = (if sel x then x.people else 0) + peopleOf l sel := by
  unfold peopleOf
  by_cases h : sel x = true
  · simp [List.filter_cons, h]
  · simp [List.filter_cons, h]
theorem gone_succ (n : Network) (i m : Nat) : ∀ l : List PlanStep, goneF n l i (m + 1) = goneF n l i m + leaveF n l i m
  | [] => rfl
  | s :: l => by
    have ih := gone_succ n i m l
    unfold goneF leaveF at ih ⊢
    rw [peopleOf_cons, peopleOf_cons, peopleOf_cons, ih]
    by_cases h : (n.passage s.passage).source = i
    · by_cases h1 : s.minute < m
      · have h2 : s.minute < m + 1 := by omega
        have h3 : ¬ s.minute = m := by omega
        simp [h, h1, h2, h3]
        omega
      · by_cases h3 : s.minute = m
        · simp [h, h3]
          omega
        · have h2 : ¬ s.minute < m + 1 := by omega
          simp [h, h1, h2, h3]
    · simp [h]
theorem present_eq (n : Network) (l : List PlanStep) (i m : Nat) : n.present l i m = ((n.area i).people : Int) + (arrivedF n l i m : Int) - (goneF n l i m : Int) := by
  unfold Network.present arrivedF goneF
  omega
def peopleKeptB (n : Network) (l : List PlanStep) : Bool := (List.range n.areas.length).all fun i => (List.range 6).all fun m => decide (((leaveF n l i m : Nat) : Int) ≤ n.present l i m)
theorem valid_eq (n : Network) (l : List PlanStep) : n.isValidPlan l = (knownB n l && capsB n l && peopleKeptB n l) := by
  unfold Network.isValidPlan
  rw [Bool.and_assoc]
  show (knownB n l && _) = _
  congr 1
  rw [Bool.eq_iff_iff]
  unfold capsB peopleKeptB
  simp only [List.all_eq_true, Bool.and_eq_true, List.mem_range, decide_eq_true_eq]
  constructor
  · intro h
    exact ⟨fun k hk m hm => (h m hm).1 k hk, fun i hi m hm => (h m hm).2 i hi⟩
  · rintro ⟨h1, h2⟩ m hm
    exact ⟨fun k hk => h1 k hk m hm, fun i hi => h2 i hi m hm⟩
theorem all_range_false {p : Nat → Bool} {N i : Nat} (hi : i < N) (h : p i = false) : (List.range N).all p = false := by
  rw [List.all_eq_false]
  exact ⟨i, by simpa using hi, by simpa using h⟩
theorem all_range_true {p : Nat → Bool} {N : Nat} (h : ∀ i < N, p i = true) : (List.range N).all p = true := by
  rw [List.all_eq_true]
  intro i hi
  exact h i (by simpa using hi)
theorem all_take_false {α : Type} {p : α → Bool} {l : List α} {i : Nat} {x : α} (h : l[i]? = some x) (hp : p x = false) : l.all p = false := by
  rw [List.all_eq_false]
  exact ⟨x, List.mem_of_getElem? h, by simpa using hp⟩
/-- evacuated: the areas' sum -/
def evacF (n : Network) (l : List PlanStep) (m k : Nat) : Int := ((List.range k).map fun i => if (n.area i).isExit then n.present l i m else 0).sum
theorem evac_succ (n : Network) (l : List PlanStep) (m k : Nat) : evacF n l m (k + 1) = evacF n l m k + if (n.area k).isExit then n.present l k m else 0 := by
  unfold evacF
  rw [List.range_succ, List.map_append, List.sum_append]
  simp
theorem evac_all (n : Network) (l : List PlanStep) (m : Nat) : n.evacuatedBy l m = evacF n l m n.areas.length := rfl
theorem known_passage {n : Network} {l : List PlanStep} (h : knownB n l = true) {s : PlanStep} (hs : s ∈ l) : s.passage < n.passages.length ∧ s.minute ≤ 5 := by
  unfold knownB at h
  rw [List.all_eq_true] at h
  have := h s hs
  rw [Bool.and_eq_true, decide_eq_true_eq, decide_eq_true_eq] at this
  exact this
end Bx
end

section
set_option maxRecDepth 10000
/-! The plain law, part 4: the calls by their places in the list. -/
namespace Bx
open Kv434

def sizesL : List Nat := [0, 2, 2, 2, 4, 1, 2, 0, 0, 0, 1, 1, 0, 1, 1, 0, 1, 2, 2, 2, 0, 1, 0]
def sizeN (num : Nat) : Nat := sizesL.getD num 0
def hasL (num : Nat) : Bool := num == 14 || num == 15 || num == 16
/-- the operation of a call's number and its numbers, those of its list among them -/
def opOf (num : Nat) (ns : List Nat) : Operation := match num with
  | 0 => .create
  | 1 => .addArea (ns.getD 0 0) (ns.getD 1 0)
  | 2 => .setPeople (ns.getD 0 0) (ns.getD 1 0)
  | 3 => .setExit (ns.getD 0 0) (ns.getD 1 0)
  | 4 => .addPassage (ns.getD 0 0) (ns.getD 1 0) (ns.getD 2 0) (ns.getD 3 0)
  | 5 => .removePassage (ns.getD 0 0)
  | 6 => .setCapacity (ns.getD 0 0) (ns.getD 1 0)
  | 7 => .reversePassages
  | 8 => .listAreas
  | 9 => .listPassages
  | 10 => .maxEvacuated (ns.getD 0 0)
  | 11 => .minRemaining (ns.getD 0 0)
  | 12 => .earliestEvacuation
  | 13 => .minCut (ns.getD 0 0)
  | 14 => .cutCapacity (ns.getD 0 0) (ns.drop 1)
  | 15 => .isValidPlan ns
  | 16 => .evacuatedByPlan (ns.getD 0 0) (ns.drop 1)
  | 17 => .earliestIfCapacity (ns.getD 0 0) (ns.getD 1 0)
  | 18 => .earliestIfPeople (ns.getD 0 0) (ns.getD 1 0)
  | 19 => .maxPeople (ns.getD 0 0) (ns.getD 1 0)
  | 20 => .criticalPassages
  | 21 => .outgoingPassages (ns.getD 0 0)
  | _ => .getState
/-- so many numbers as the call has -/
def okN (num : Nat) (ns : List Nat) : Prop := if hasL num = true then sizeN num ≤ ns.length else ns.length = sizeN num
def behindN (place num : Nat) : Nat := place + 1 + sizeN num
def endN (cs : List Nat) (place num : Nat) : Nat := if hasL num = true then behindN place num + 1 + cs.getD (behindN place num) 0 else behindN place num
def numsN (cs : List Nat) (place num : Nat) : List Nat :=
  if hasL num = true then (cs.drop (place + 1)).take (sizeN num) ++ (cs.drop (behindN place num + 1)).take (cs.getD (behindN place num) 0) else (cs.drop (place + 1)).take (sizeN num)
inductive Parsed (cs : List Nat) : Nat → List (List (List Int)) → Prop
  | done {place : Nat} : place = cs.length → Parsed cs place []
  | call {place num : Nat} {c : List (List Int)} {raw : List (List (List Int))} : cs[place]? = some num → num ≤ 22 → behindN place num ≤ cs.length → (hasL num = true → behindN place num < cs.length) → endN cs place num ≤ cs.length →
      Kv434Neutral.operationOf c = some (opOf num (numsN cs place num)) → okN num (numsN cs place num) → Parsed cs (endN cs place num) raw → Parsed cs place (c :: raw)
theorem whole_id (c : List (List Int)) : PyKv434.whole c = c := by
  unfold PyKv434.whole
  split <;> rfl
theorem map_whole (cs : List (List (List Int))) : cs.map PyKv434.whole = cs := by
  have : PyKv434.whole = id := funext whole_id
  rw [this, List.map_id]
theorem case22 {p : Nat → Prop} (h : ∀ k, k ≤ 22 → p k) (num : Nat) (hn : num ≤ 22) : p num := h num hn
theorem shape_some {p : Int} {n k : Nat} (h : PyKv434.shape p = some (n, k)) : ∃ num : Nat, p = num ∧ num ≤ 22 ∧ n = sizeN num ∧ k = if hasL num = true then 1 else 0 := by
  by_cases h0 : 0 ≤ p ∧ p ≤ 22
  · obtain ⟨num, rfl⟩ : ∃ num : Nat, p = num := ⟨p.toNat, by omega⟩
    have hn : num ≤ 22 := by omega
    refine ⟨num, rfl, hn, ?_⟩
    have hc : num = 0 ∨ num = 1 ∨ num = 2 ∨ num = 3 ∨ num = 4 ∨ num = 5 ∨ num = 6 ∨ num = 7 ∨ num = 8 ∨ num = 9 ∨ num = 10 ∨ num = 11 ∨ num = 12 ∨ num = 13 ∨ num = 14 ∨ num = 15 ∨ num = 16 ∨ num = 17 ∨ num = 18 ∨ num = 19 ∨ num = 20 ∨ num = 21 ∨ num = 22 := by omega
    rcases hc with e | e | e | e | e | e | e | e | e | e | e | e | e | e | e | e | e | e | e | e | e | e | e <;> subst e <;>
      · have h1 : some (n, k) = _ := h.symm.trans rfl
        injection h1 with h2
        injection h2 with h3 h4
        exact ⟨h3, h4⟩
  · exfalso
    unfold PyKv434.shape at h
    repeat rw [if_neg (by omega)] at h
    cases h
theorem sizeN_le (num : Nat) (h : num ≤ 22) : sizeN num ≤ 4 := by
  have hc : num = 0 ∨ num = 1 ∨ num = 2 ∨ num = 3 ∨ num = 4 ∨ num = 5 ∨ num = 6 ∨ num = 7 ∨ num = 8 ∨ num = 9 ∨ num = 10 ∨ num = 11 ∨ num = 12 ∨ num = 13 ∨ num = 14 ∨ num = 15 ∨ num = 16 ∨ num = 17 ∨ num = 18 ∨ num = 19 ∨ num = 20 ∨ num = 21 ∨ num = 22 := by omega
  rcases hc with e | e | e | e | e | e | e | e | e | e | e | e | e | e | e | e | e | e | e | e | e | e | e <;> subst e <;> decide

/-! ### one call -/
theorem lenA0 {r : List Nat} (h : r.length = 0) : r = [] := List.eq_nil_of_length_eq_zero h
theorem lenA1 {r : List Nat} (h : r.length = 1) : ∃ a, r = [a] := match r, h with | [a], _ => ⟨a, rfl⟩
theorem lenA2 {r : List Nat} (h : r.length = 2) : ∃ a b, r = [a, b] := match r, h with | [a, b], _ => ⟨a, b, rfl⟩
theorem lenA4 {r : List Nat} (h : r.length = 4) : ∃ a b c d, r = [a, b, c, d] := match r, h with | [a, b, c, d], _ => ⟨a, b, c, d, rfl⟩
/-- the operation of a call's rows -/
theorem op_plain {num : Nat} (hn : num ≤ 22) (hl : hasL num = false) (r : List Nat) (hr : r.length = sizeN num) : Kv434Neutral.operationOf [((num : Int) :: r.map Int.ofNat)] = some (opOf num r) := by
  have hc : num = 0 ∨ num = 1 ∨ num = 2 ∨ num = 3 ∨ num = 4 ∨ num = 5 ∨ num = 6 ∨ num = 7 ∨ num = 8 ∨ num = 9 ∨ num = 10 ∨ num = 11 ∨ num = 12 ∨ num = 13 ∨ num = 14 ∨ num = 15 ∨ num = 16 ∨ num = 17 ∨ num = 18 ∨ num = 19 ∨ num = 20 ∨ num = 21 ∨ num = 22 := by omega
  rcases hc with e | e | e | e | e | e | e | e | e | e | e | e | e | e | e | e | e | e | e | e | e | e | e <;> subst e <;>
    first
    | exact absurd hl (by decide)
    | (obtain rfl := lenA0 hr; rfl)
    | (obtain ⟨a, rfl⟩ := lenA1 hr; rfl)
    | (obtain ⟨a, b, rfl⟩ := lenA2 hr; rfl)
    | (obtain ⟨a, b, c, d, rfl⟩ := lenA4 hr; rfl)
theorem toNat_map (l : List Nat) : Kv434Neutral.naturals (l.map Int.ofNat) = l := by
  unfold Kv434Neutral.naturals
  rw [List.map_map]
  have : (Int.toNat ∘ Int.ofNat) = id := by
    funext x
    rfl
  rw [this, List.map_id]
theorem op_list {num : Nat} (hl : hasL num = true) (r x : List Nat) (hr : r.length = sizeN num) : Kv434Neutral.operationOf [((num : Int) :: r.map Int.ofNat), x.map Int.ofNat] = some (opOf num (r ++ x)) := by
  have hc : num = 14 ∨ num = 15 ∨ num = 16 := by
    unfold hasL at hl
    simp at hl
    omega
  rcases hc with e | e | e <;> subst e
  · match r, hr with
    | [a], _ =>
      show some (Operation.cutCapacity a (Kv434Neutral.naturals (x.map Int.ofNat))) = some (Operation.cutCapacity a x)
      rw [toNat_map]
  · match r, hr with
    | [], _ =>
      show some (Operation.isValidPlan (Kv434Neutral.naturals (x.map Int.ofNat))) = some (Operation.isValidPlan x)
      rw [toNat_map]
  · match r, hr with
    | [a], _ =>
      show some (Operation.evacuatedByPlan a (Kv434Neutral.naturals (x.map Int.ofNat))) = some (Operation.evacuatedByPlan a x)
      rw [toNat_map]

/-! ### the whole list -/
theorem drop_map_cons {cs : List Nat} {place : Nat} {p : Int} {r : List Int} (h : (cs.drop place).map Int.ofNat = p :: r) : ∃ num, cs[place]? = some num ∧ p = (num : Int) ∧ r = (cs.drop (place + 1)).map Int.ofNat := by
  cases hd : cs.drop place with
  | nil => rw [hd] at h; simp at h
  | cons x t =>
    rw [hd] at h
    simp only [List.map_cons, List.cons.injEq] at h
    have hx : cs[place]? = some x := by
      have : (cs.drop place)[0]? = some x := by rw [hd]; rfl
      rw [List.getElem?_drop] at this
      simpa using this
    refine ⟨x, hx, h.1.symm, ?_⟩
    rw [← h.2]
    have := drop_cons hx
    rw [hd] at this
    injection this with _ h2
    rw [h2]
theorem parsed_of (cs : List Nat) : ∀ (f : Nat) (place : Nat) (raw : List (List (List Int))), place ≤ cs.length → PyFlat.calls PyKv434.shape f ((cs.drop place).map Int.ofNat) = some raw → Parsed cs place raw
  | f, place, raw, hp, h => by
    cases hd : (cs.drop place).map Int.ofNat with
    | nil =>
      rw [hd] at h
      have hr : raw = [] := by
        cases f <;> (unfold PyFlat.calls at h; exact (Option.some.inj h).symm)
      subst hr
      refine .done ?_
      have : (cs.drop place).length = 0 := by
        have := congrArg List.length hd
        simpa using this
      rw [List.length_drop] at this
      omega
    | cons p r =>
      obtain ⟨num, hnum, rfl, rfl⟩ := drop_map_cons hd
      rw [hd] at h
      cases f with
      | zero => unfold PyFlat.calls at h; cases h
      | succ f =>
        unfold PyFlat.calls PyFlat.call at h
        dsimp only at h
        cases hs : PyKv434.shape (num : Int) with
        | none => rw [hs] at h; cases h
        | some nk =>
          obtain ⟨n, k⟩ := nk
          obtain ⟨num', hn', h22, rfl, rfl⟩ := shape_some hs
          have : num' = num := by omega
          subst this
          rw [hs] at h
          dsimp only at h
          have hpl : place < cs.length := (List.getElem?_eq_some_iff.mp hnum).1
          by_cases hlen : ((cs.drop (place + 1)).map Int.ofNat).length < sizeN num'
          · rw [if_pos hlen] at h; cases h
          · rw [if_neg hlen] at h
            rw [List.length_map, List.length_drop] at hlen
            have hb : behindN place num' ≤ cs.length := by unfold behindN; omega
            have htk : (((cs.drop (place + 1)).map Int.ofNat).take (sizeN num')) = ((cs.drop (place + 1)).take (sizeN num')).map Int.ofNat := (List.map_take ..).symm
            have hdr : (((cs.drop (place + 1)).map Int.ofNat).drop (sizeN num')) = (cs.drop (behindN place num')).map Int.ofNat := by
              rw [← List.map_drop, List.drop_drop]
              rfl
            have hl1 : ((cs.drop (place + 1)).take (sizeN num')).length = sizeN num' := by rw [List.length_take, List.length_drop]; omega
            rw [htk, hdr] at h
            cases hL : hasL num' with
            | false =>
              rw [hL] at h
              simp only [Bool.false_eq_true, if_false, PyFlat.rows] at h
              cases hc : PyFlat.calls PyKv434.shape f ((cs.drop (behindN place num')).map Int.ofNat) with
              | none => rw [hc] at h; cases h
              | some raw' =>
                rw [hc] at h
                have hr : raw = _ := (Option.some.inj h).symm
                subst hr
                have he : endN cs place num' = behindN place num' := by unfold endN; rw [hL]; rfl
                have hnn : numsN cs place num' = (cs.drop (place + 1)).take (sizeN num') := by unfold numsN; rw [hL]; rfl
                refine .call hnum h22 hb (fun z => by rw [hL] at z; cases z) (by rw [he]; exact hb) ?_ ?_ ?_
                · rw [hnn]
                  exact op_plain h22 hL _ hl1
                · rw [hnn]
                  unfold okN
                  rw [hL]
                  exact hl1
                · rw [he]
                  exact parsed_of cs f _ _ hb hc
            | true =>
              rw [hL] at h
              simp only [if_true, PyFlat.rows] at h
              cases hd2 : (cs.drop (behindN place num')).map Int.ofNat with
              | nil => rw [hd2] at h; unfold PyFlat.row at h; cases h
              | cons q r2 =>
                obtain ⟨m, hm, rfl, rfl⟩ := drop_map_cons hd2
                rw [hd2] at h
                have hbl : behindN place num' < cs.length := (List.getElem?_eq_some_iff.mp hm).1
                have hgd : cs.getD (behindN place num') 0 = m := by rw [List.getD_eq_getElem?_getD, hm]; rfl
                unfold PyFlat.row at h
                dsimp only at h
                by_cases hk : (0 : Int) ≤ (m : Int) ∧ ((m : Int)).toNat ≤ ((cs.drop (behindN place num' + 1)).map Int.ofNat).length
                · rw [if_pos hk] at h
                  dsimp only at h
                  have hkk : m ≤ cs.length - (behindN place num' + 1) := by
                    have := hk.2
                    rw [List.length_map, List.length_drop] at this
                    simpa using this
                  rw [Int.toNat_natCast, ← List.map_take, ← List.map_drop, List.drop_drop] at h
                  have he : endN cs place num' = behindN place num' + 1 + m := by unfold endN; rw [hL, hgd]; rfl
                  have hend : behindN place num' + 1 + m ≤ cs.length := by omega
                  cases hc : PyFlat.calls PyKv434.shape f ((cs.drop (behindN place num' + 1 + m)).map Int.ofNat) with
                  | none => rw [hc] at h; cases h
                  | some raw' =>
                    rw [hc] at h
                    have hr : raw = _ := (Option.some.inj h).symm
                    subst hr
                    have hnn : numsN cs place num' = (cs.drop (place + 1)).take (sizeN num') ++ (cs.drop (behindN place num' + 1)).take m := by unfold numsN; rw [hL, hgd]; rfl
                    refine .call hnum h22 hb (fun _ => hbl) (by rw [he]; exact hend) ?_ ?_ ?_
                    · rw [hnn]
                      exact op_list hL _ _ hl1
                    · rw [hnn]
                      unfold okN
                      rw [hL, List.length_append, hl1]
                      show sizeN num' ≤ _
                      omega
                    · rw [he]
                      exact parsed_of cs f _ _ hend hc
                · rw [if_neg hk] at h; cases h

/-! ### what is due -/
def dueL (s : State) (raw : List (List (List Int))) : List Int := PyFlat.told (PyFlat.played Kv434Neutral.step s raw)
theorem due_nil (s : State) : dueL s [] = [] := rfl
theorem due_cons (s : State) (c : List (List Int)) (raw : List (List (List Int))) : dueL s (c :: raw) = ((Kv434Neutral.step s c).2.length : Int) :: ((Kv434Neutral.step s c).2 ++ dueL (Kv434Neutral.step s c).1 raw) := by
  unfold dueL
  show PyFlat.told ((Kv434Neutral.step s c).2 :: PyFlat.played Kv434Neutral.step (Kv434Neutral.step s c).1 raw) = _
  unfold PyFlat.told
  rw [List.flatMap_cons]
  rfl
theorem step_op {s : State} {c : List (List Int)} {o : Operation} (h : Kv434Neutral.operationOf c = some o) : Kv434Neutral.step s c = ((execute s o).1, Kv434Neutral.resultRow (execute s o).2) := by
  unfold Kv434Neutral.step
  rw [h]
theorem nat_ints {ns : List Int} (h : ∀ x ∈ ns, 0 ≤ x) : (ns.map Int.toNat).map Int.ofNat = ns := by
  rw [List.map_map]
  conv => rhs; rw [← List.map_id ns]
  refine List.map_congr_left fun x hx => ?_
  have := h x hx
  show ((x.toNat : Nat) : Int) = x
  omega
theorem answers_due {ns : List Int} {raw : List (List (List Int))} (h : PyFlat.calls PyKv434.shape ns.length ns = some raw) : PyKv434.answers ns = dueL none raw := by
  unfold PyKv434.answers PyKv434.calls
  rw [h]
  dsimp only
  rw [map_whole]
  rfl
theorem asked_raw {ns : List Int} (h : PyKv434.answers_asked ns = true) : ∃ raw, PyFlat.calls PyKv434.shape ns.length ns = some raw ∧ (PyKv434.answers ns).length ≤ 10000000 := by
  unfold PyKv434.answers_asked at h
  cases hc : PyFlat.calls PyKv434.shape ns.length ns with
  | none => rw [hc] at h; cases h
  | some raw =>
    rw [hc] at h
    refine ⟨raw, rfl, ?_⟩
    simp only [Bool.and_eq_true] at h
    have := h.2
    unfold PyFlat.short at this
    exact of_decide_eq_true this
end Bx
end

section
set_option maxRecDepth 100000
set_option maxHeartbeats 4000000
/-! The ground: where the defs stand, how a building lies in the heap, promises, evaluation lemmas. -/
namespace Bx
open PySem PySem.Spec PyProof.Rows L2 Evl

/-- the i-th statement of the program -/
def top (i : Nat) : Stmt := PySem.Challenge.pw_buildingexits_s01_answers.main.body.getD i (.Pass ⟨0, 0, 0, 0⟩)

/-! ### where things stand -/
/-- a module's number -/
def GI (mg : Str → Option Value) (x : Str) (i : Int) : Prop := ∃ t, mg x = some (.int i t)
/-- a def of the text stands under its name -/
def DefAt (K : PySem.W.Frag) (mg : Str → Option Value) (x : Str) (st : Stmt) : Prop := ∃ (f : Addr) (fd : FuncData), mg x = some (.ref f) ∧ Fun K x x st f fd
/-- a def under its name keeps a promise -/
def Has (P : Program) (w : World) (K : PySem.W.Frag) (mg : Str → Option Value) (base : Heap) (k : Nat) (x : Str) (ps : List Str) (sp : Sp) : Prop :=
  ∃ (f : Addr) (fd : FuncData), mg x = some (.ref f) ∧ PySem.W.keepIn K (.ref f) = true ∧ Binds K fd ps [] ∧ FnOk P w K mg base CX0 k f fd ps sp
/-- a class under its name makes instances by an __init__ that keeps a promise -/
def HasC (P : Program) (w : World) (K : PySem.W.Frag) (mg : Str → Option Value) (base : Heap) (k : Nat) (x : Str) (C : Addr) (ps : List Str) (sp : Sp) : Prop :=
  ∃ (f : Addr) (fd : FuncData), mg x = some (.ref C) ∧ Mk K C f ∧ Binds K fd ps [] ∧ FnOk P w K mg base CX0 k f fd ps sp
/-- a method of a class keeps a promise -/
def HasM (P : Program) (w : World) (K : PySem.W.Frag) (mg : Str → Option Value) (base : Heap) (k : Nat) (C : Addr) (m : Str) (ps : List Str) (sp : Sp) : Prop :=
  ∃ (f : Addr) (fd : FuncData), Meth K C m f ∧ Binds K fd ps [] ∧ FnOk P w K mg base CX0 k f fd ps sp

section
variable {X : Cx} {k : Nat} {x m : Str} {ps : List Str} {sp : Sp} {e o : Expr} {es : List Expr} {p pos apos : Pos} {t : TA} {ta : TE} {i : Int} {C : Addr}
theorem pe_gi (hg : Gl X x) (h : GI X.mg x i) (hd : (x == ("__debug__" : Str)) = false := by decide) : PE X (.Name x p) (tC (.int i)) := by
  obtain ⟨t, h⟩ := h
  exact pe_glob hg h ⟨_, rfl⟩ hd
theorem pe_callH (h : Has X.prog X.w X.K X.mg X.base k x ps sp) (hr : Room k X.A) (hg : Gl X x) (ha : PA X (e :: es) t) (hdb : (x == ("__debug__" : Str)) = false := by decide)
    (he : starEach (e :: es) X.env = (false, eval e X.env) :: starEach es X.env := by rfl) (hpl : (backTo pos (starEach es X.env)).any (·.1) = false := by rfl) : PE X (.Call (.Name x p) (e :: es) [] pos) (tCall sp [] E0 t) := by
  obtain ⟨f, fd, hm, hk, hb, F⟩ := h
  exact pe_call F hr hg hm hk hb .nil pass0 ha hdb he hpl
theorem pe_mkH (h : HasC X.prog X.w X.K X.mg X.base k x C ps sp) (hr : Room (k + 1) X.A) (hg : Gl X x) (ha : PA X (e :: es) t) (hdb : (x == ("__debug__" : Str)) = false := by decide)
    (he : starEach (e :: es) X.env = (false, eval e X.env) :: starEach es X.env := by rfl) (hpl : (backTo pos (starEach es X.env)).any (·.1) = false := by rfl) : PE X (.Call (.Name x p) (e :: es) [] pos) (tMake C sp [] E0 t) := by
  obtain ⟨f, fd, hm, M, hb, F⟩ := h
  exact pe_make M F hr hg hm hb .nil pass0 ha hdb he hpl
theorem pe_mkH0 (h : HasC X.prog X.w X.K X.mg X.base k x C ps sp) (hr : Room (k + 1) X.A) (hg : Gl X x) (hdb : (x == ("__debug__" : Str)) = false := by decide) : PE X (.Call (.Name x p) [] [] pos) (tMake C sp [] E0 tNil) := by
  obtain ⟨f, fd, hm, M, hb, F⟩ := h
  exact pe_make0 M F hr hg hm hb .nil pass0 hdb
theorem pe_methH {pl : Sem Bool} (h : HasM X.prog X.w X.K X.mg X.base k C m ps sp) (c : Cls X.K C) (hr : Room k X.A) (he : PE X o ta) (ha : PA X (e :: es) t)
    (hst : starEach (e :: es) X.env = (false, eval e X.env) :: starEach es X.env := by rfl) (hpl : (backTo pos (starEach es X.env)).any (·.1) = false := by rfl)
    (ht : eval (.Call (.Attribute o m apos) (e :: es) [] pos) X.env = (do
      let ov ← eval o X.env
      standAt apos.atName
      let (f, first) ← holding [ov] (getMethod ov m pl)
      callWith pos f first (backTo pos (starEach (e :: es) X.env)) (backToKw pos (keywordEach [] X.env))) := by rfl) :
    PE X (.Call (.Attribute o m apos) (e :: es) [] pos) (tMeth C m sp [] E0 ta t) := by
  obtain ⟨f, fd, hm, hb, F⟩ := h
  exact pe_meth he c hm F hr hb .nil pass0 ha hst hpl ht
end

section
variable {P : Program} {w : World} {K : PySem.W.Frag} {mg : Str → Option Value} {base : Heap}
/-- a def keeps its promise: what is to be shown of its body -/
theorem has_of {x : Str} {st : Stmt} {N ps : List Str} {k : Nat} {sp : Sp} (D : DefAt K mg x st) (S : FnScope N ps (defScope st)) (len : ∀ vs H Q E, sp vs H Q E → vs.length = ps.length)
    (bind : ∀ (kV doc pm : Value) (an : Option Addr) (cdv ct : Value) (us : List Value), us.length = ps.length → bindArgs (PySem.W.fnOf x x (defArgs st) (defBody st) (defScope st) .none kV doc pm an cdv ct) ⟨us, []⟩ = pure (ps.zip us))
    (body : ∀ (f : Addr) (cdv : Value) (A : Around) (outer : List Env) (s : Shared) (H : Hp) (E : XK), Room k (A.deeper (envOfC x (defScope st) s.heap.objs.size f cdv)) →
      ∃ t, PSs (cxOf CX0 P w K mg base N x (defScope st) f cdv A outer s H E).nox (defBody st) t ∧ ∀ vs Q, sp vs H Q E → t { nx := fun _ H' => Q .non H', rt := Q } (start N vs) H) :
    Has P w K mg base (k + 1) x ps sp := by
  obtain ⟨f, fd, g, F⟩ := D
  refine ⟨f, fd, g, F.kp, F.binds bind, F.ok S len fun cdv A outer s H vs Q E hr h => ?_⟩
  obtain ⟨t, h1, h2⟩ := body f cdv A outer s H E hr
  exact ⟨t, h1, h2 vs Q h⟩
end

/-! ### promises of what changes nothing -/
/-- gives a value -/
def pureV {α : Type} (args : α → List V) (pre : α → Hp → Prop) (val : α → V) : Sp := fun vs H Q _ => ∃ a H0, Ex H0 H ∧ vs = args a ∧ pre a H0 ∧ ∀ H', Ex H H' → Q (val a) H'
/-- gives a new list -/
def pureL {α : Type} (args : α → List V) (pre : α → Hp → Prop) (val : α → List V) : Sp := fun vs H Q _ => ∃ a H0, Ex H0 H ∧ vs = args a ∧ pre a H0 ∧ ∀ p H', H p = none → Ex H H' → H' p = some (.lst (val a)) → Q (.ref p) H'
/-- gives a new tuple -/
def pureU {α : Type} (args : α → List V) (pre : α → Hp → Prop) (val : α → List V) : Sp := fun vs H Q _ => ∃ a H0, Ex H0 H ∧ vs = args a ∧ pre a H0 ∧ ∀ p H', H p = none → Ex H H' → H' p = some (.tup (val a)) → Q (.ref p) H'
section
variable {α : Type} {args : α → List V} {pre : α → Hp → Prop} {H : Hp}
theorem spV {val : α → V} (a : α) (h : pre a H) : SpV (pureV args pre val) (args a) H (val a) := fun H1 e Q q _ => ⟨a, H, e, rfl, h, q⟩
theorem spL {val : α → List V} (a : α) (h : pre a H) : SpL (pureL args pre val) (args a) H (val a) := fun H1 e Q q _ => ⟨a, H, e, rfl, h, q⟩
def SpU (sp : Sp) (vs : List V) (H : Hp) (xs : List V) : Prop := ∀ H1, Ex H H1 → ∀ Q : VK, (∀ p H2, H1 p = none → Ex H1 H2 → H2 p = some (.tup xs) → Q (.ref p) H2) → ∀ E : XK, sp vs H1 Q E
theorem spU {val : α → List V} (a : α) (h : pre a H) : SpU (pureU args pre val) (args a) H (val a) := fun H1 e Q q _ => ⟨a, H, e, rfl, h, q⟩
theorem len_V {val : α → V} {n : Nat} (h : ∀ a, (args a).length = n) : ∀ vs H Q E, pureV args pre val vs H Q E → vs.length = n := fun vs H Q E ⟨a, _, _, e, _⟩ => by rw [e]; exact h a
theorem len_L {val : α → List V} {n : Nat} (h : ∀ a, (args a).length = n) : ∀ vs H Q E, pureL args pre val vs H Q E → vs.length = n := fun vs H Q E ⟨a, _, _, e, _⟩ => by rw [e]; exact h a
theorem len_U {val : α → List V} {n : Nat} (h : ∀ a, (args a).length = n) : ∀ vs H Q E, pureU args pre val vs H Q E → vs.length = n := fun vs H Q E ⟨a, _, _, e, _⟩ => by rw [e]; exact h a
variable {P : Program} {w : World} {K : PySem.W.Frag} {mg : Str → Option Value} {base : Heap} {x : Str} {st : Stmt} {N ps : List Str} {k : Nat}
theorem has_V {val : α → V} (D : DefAt K mg x st) (S : FnScope N ps (defScope st)) (la : ∀ a, (args a).length = ps.length)
    (bind : ∀ (kV doc pm : Value) (an : Option Addr) (cdv ct : Value) (us : List Value), us.length = ps.length → bindArgs (PySem.W.fnOf x x (defArgs st) (defBody st) (defScope st) .none kV doc pm an cdv ct) ⟨us, []⟩ = pure (ps.zip us))
    (body : ∀ (f : Addr) (cdv : Value) (A : Around) (outer : List Env) (s : Shared) (H : Hp) (E : XK), Room k (A.deeper (envOfC x (defScope st) s.heap.objs.size f cdv)) →
      ∃ t, PSs (cxOf CX0 P w K mg base N x (defScope st) f cdv A outer s H E).nox (defBody st) t ∧ ∀ a H0 Q, pre a H0 → Ex H0 H → (∀ H', Ex H H' → Q (val a) H') → t { nx := fun _ H' => Q .non H', rt := Q } (start N (args a)) H) :
    Has P w K mg base (k + 1) x ps (pureV args pre val) := has_of D S (len_V la) bind fun f cdv A outer s H E hr => by
  obtain ⟨t, h1, h2⟩ := body f cdv A outer s H E hr
  refine ⟨t, h1, fun vs Q h => ?_⟩
  obtain ⟨a, H0, e, rfl, hp, q⟩ := h
  exact h2 a H0 Q hp e q
theorem has_L {val : α → List V} (D : DefAt K mg x st) (S : FnScope N ps (defScope st)) (la : ∀ a, (args a).length = ps.length)
    (bind : ∀ (kV doc pm : Value) (an : Option Addr) (cdv ct : Value) (us : List Value), us.length = ps.length → bindArgs (PySem.W.fnOf x x (defArgs st) (defBody st) (defScope st) .none kV doc pm an cdv ct) ⟨us, []⟩ = pure (ps.zip us))
    (body : ∀ (f : Addr) (cdv : Value) (A : Around) (outer : List Env) (s : Shared) (H : Hp) (E : XK), Room k (A.deeper (envOfC x (defScope st) s.heap.objs.size f cdv)) →
      ∃ t, PSs (cxOf CX0 P w K mg base N x (defScope st) f cdv A outer s H E).nox (defBody st) t ∧ ∀ a H0 Q, pre a H0 → Ex H0 H → (∀ p H', H p = none → Ex H H' → H' p = some (.lst (val a)) → Q (.ref p) H') → t { nx := fun _ H' => Q .non H', rt := Q } (start N (args a)) H) :
    Has P w K mg base (k + 1) x ps (pureL args pre val) := has_of D S (len_L la) bind fun f cdv A outer s H E hr => by
  obtain ⟨t, h1, h2⟩ := body f cdv A outer s H E hr
  refine ⟨t, h1, fun vs Q h => ?_⟩
  obtain ⟨a, H0, e, rfl, hp, q⟩ := h
  exact h2 a H0 Q hp e q
theorem has_U {val : α → List V} (D : DefAt K mg x st) (S : FnScope N ps (defScope st)) (la : ∀ a, (args a).length = ps.length)
    (bind : ∀ (kV doc pm : Value) (an : Option Addr) (cdv ct : Value) (us : List Value), us.length = ps.length → bindArgs (PySem.W.fnOf x x (defArgs st) (defBody st) (defScope st) .none kV doc pm an cdv ct) ⟨us, []⟩ = pure (ps.zip us))
    (body : ∀ (f : Addr) (cdv : Value) (A : Around) (outer : List Env) (s : Shared) (H : Hp) (E : XK), Room k (A.deeper (envOfC x (defScope st) s.heap.objs.size f cdv)) →
      ∃ t, PSs (cxOf CX0 P w K mg base N x (defScope st) f cdv A outer s H E).nox (defBody st) t ∧ ∀ a H0 Q, pre a H0 → Ex H0 H → (∀ p H', H p = none → Ex H H' → H' p = some (.tup (val a)) → Q (.ref p) H') → t { nx := fun _ H' => Q .non H', rt := Q } (start N (args a)) H) :
    Has P w K mg base (k + 1) x ps (pureU args pre val) := has_of D S (len_U la) bind fun f cdv A outer s H E hr => by
  obtain ⟨t, h1, h2⟩ := body f cdv A outer s H E hr
  refine ⟨t, h1, fun vs Q h => ?_⟩
  obtain ⟨a, H0, e, rfl, hp, q⟩ := h
  exact h2 a H0 Q hp e q
end

/-! ### a building in the heap -/
open Kv434 (Area Passage Network Planner)
def flagI (b : Bool) : Int := if b then 1 else 0
def pplV (as : List Area) : List V := as.map fun a => .int a.people
def exV (as : List Area) : List V := as.map fun a => .int (flagI a.isExit)
def tupV (p : Passage) : List V := [.int p.source, .int p.target, .int p.capacity, .int p.travelTime]
def bF (pa ea la : Addr) : List (Str × V) := [("people", .ref pa), ("exits", .ref ea), ("passages", .ref la)]
/-- the passages' tuples -/
abbrev Tups (H : Hp) : List Addr → List Passage → Prop := Paired fun t p => H t = some (.tup (tupV p))
structure NetA (C : Addr) (H : Hp) (b pa ea la : Addr) (ts : List Addr) (n : Network) : Prop where
  ins : ∃ dx, H b = some (.ins C dx (bF pa ea la))
  ppl : H pa = some (.lst (pplV n.areas))
  exi : H ea = some (.lst (exV n.areas))
  pas : H la = some (.lst (ts.map V.ref))
  tup : Tups H ts n.passages
  pe : pa ≠ ea
  pl : pa ≠ la
  el : ea ≠ la
/-- at b a building that is n -/
def NetAt (C : Addr) (H : Hp) (b : Addr) (n : Network) : Prop := ∃ pa ea la ts, NetA C H b pa ea la ts n
/-- within the ranges -/
structure WF (n : Network) : Prop where
  areas : n.areas.length ≤ 5
  passages : n.passages.length ≤ 8
  people : ∀ a ∈ n.areas, a.people ≤ 20
  src : ∀ p ∈ n.passages, p.source < n.areas.length
  tgt : ∀ p ∈ n.passages, p.target < n.areas.length
  cap1 : ∀ p ∈ n.passages, 1 ≤ p.capacity
  cap9 : ∀ p ∈ n.passages, p.capacity ≤ 9
  tt1 : ∀ p ∈ n.passages, 1 ≤ p.travelTime
  tt3 : ∀ p ∈ n.passages, p.travelTime ≤ 3
theorem Tups.mono {H H' : Hp} (e : Ex H H') : ∀ {ts : List Addr} {ps : List Passage}, Tups H ts ps → Tups H' ts ps
  | _, _, .nil => .nil
  | _, _, .cons r t => .cons (e _ _ r) (Tups.mono e t)
theorem Tups.length {H : Hp} {ts : List Addr} {ps : List Passage} (h : Tups H ts ps) : ts.length = ps.length := Paired.length h
theorem Tups.get {H : Hp} : ∀ {ts : List Addr} {ps : List Passage} {i : Nat} {t : Addr}, Tups H ts ps → ts[i]? = some t → ∃ p, ps[i]? = some p ∧ H t = some (.tup (tupV p))
  | _, _, _, _, .nil, e => by simp at e
  | _, _, 0, _, .cons r _, e => by simp at e; subst e; exact ⟨_, rfl, r⟩
  | _, _, i + 1, t, .cons _ q, e => by
    obtain ⟨p, h1, h2⟩ := Tups.get (i := i) (t := t) q (by simpa using e)
    exact ⟨p, by simpa using h1, h2⟩
theorem Tups.get' {H : Hp} {ts : List Addr} {ps : List Passage} {i : Nat} {p : Passage} (h : Tups H ts ps) (e : ps[i]? = some p) : ∃ t, ts[i]? = some t ∧ H t = some (.tup (tupV p)) := by
  obtain ⟨hi, e'⟩ := List.getElem?_eq_some_iff.mp e
  have hl := h.length
  have e2 : ts[i]? = some (ts[i]'(by omega)) := List.getElem?_eq_getElem (by omega)
  obtain ⟨q, h1, h2⟩ := h.get e2
  rw [e] at h1
  cases h1
  exact ⟨_, e2, h2⟩
theorem NetA.mono {C b pa ea la : Addr} {ts : List Addr} {n : Network} {H H' : Hp} (e : Ex H H') (h : NetA C H b pa ea la ts n) : NetA C H' b pa ea la ts n :=
  ⟨let ⟨dx, q⟩ := h.ins; ⟨dx, e _ _ q⟩, e _ _ h.ppl, e _ _ h.exi, e _ _ h.pas, h.tup.mono e, h.pe, h.pl, h.el⟩
theorem NetAt.mono {C b : Addr} {n : Network} {H H' : Hp} (h : NetAt C H b n) (e : Ex H H') : NetAt C H' b n := let ⟨pa, ea, la, ts, q⟩ := h; ⟨pa, ea, la, ts, q.mono e⟩

/-! ### evaluation -/
theorem lk_here {k : Str} {v : V} {r : List (Str × V)} : List.lookup k ((k, v) :: r) = some v := by
  have e : (k == k) = true := beq_self_eq_true k
  simp only [List.lookup, e]
theorem lk_past {k g : Str} {v : V} {r : List (Str × V)} (h : (k == g) = false) : List.lookup k ((g, v) :: r) = List.lookup k r := by
  simp only [List.lookup, h]
section
variable {K : PySem.W.Frag} {σ : L2.St} {H : Hp} {ta te : TE} {v : V} {C b pa ea la : Addr} {ts : List Addr} {n : Network}
theorem ev_fld {a dx : Addr} {fs : List (Str × V)} {f : Str} (h : Ev ta σ H (.ref a)) (ho : H a = some (.ins C dx fs)) (c : Cls K C) (nA : NoAttr K C f) (l : fs.lookup f = some v) : Ev (tFld K ta f) σ H v := fun H1 e Q q =>
  h H1 e _ fun H2 e2 => ⟨a, C, dx, fs, v, rfl, e2 _ _ (e _ _ ho), c, nA, l, q H2 e2⟩
/-- what the class's instances look like -/
structure TB (K : PySem.W.Frag) (C : Addr) : Prop where
  cl : Cls K C
  nP : NoAttr K C "people"
  nE : NoAttr K C "exits"
  nL : NoAttr K C "passages"
theorem bF_people {pa ea la : Addr} : (bF pa ea la).lookup ("people" : Str) = some (.ref pa) := lk_here
theorem bF_exits {pa ea la : Addr} : (bF pa ea la).lookup ("exits" : Str) = some (.ref ea) := (lk_past (by decide +kernel)).trans lk_here
theorem bF_passages {pa ea la : Addr} : (bF pa ea la).lookup ("passages" : Str) = some (.ref la) := (lk_past (by decide +kernel)).trans ((lk_past (by decide +kernel)).trans lk_here)
theorem ev_people (T : TB K C) (hN : NetA C H b pa ea la ts n) (h : Ev ta σ H (.ref b)) : Ev (tFld K ta "people") σ H (.ref pa) := let ⟨_, q⟩ := hN.ins; ev_fld h q T.cl T.nP bF_people
theorem ev_exits (T : TB K C) (hN : NetA C H b pa ea la ts n) (h : Ev ta σ H (.ref b)) : Ev (tFld K ta "exits") σ H (.ref ea) := let ⟨_, q⟩ := hN.ins; ev_fld h q T.cl T.nE bF_exits
theorem ev_passages (T : TB K C) (hN : NetA C H b pa ea la ts n) (h : Ev ta σ H (.ref b)) : Ev (tFld K ta "passages") σ H (.ref la) := let ⟨_, q⟩ := hN.ins; ev_fld h q T.cl T.nL bF_passages
theorem ev_chain {r r' : R2} {ta tb tc : TE} {x y z v : V} {k : Bool} (ha : Ev ta σ H x) (hb : Ev tb σ H y) (hr : RV r x y H (.bl k)) (hc : k = true → Ev tc σ H z) (hr' : k = true → RV r' y z H v) (hf : k = false → v = .bl false) :
    Ev (tChain r r' ta tb tc) σ H v := fun H1 e Q q =>
  ha H1 e _ fun H2 e2 => hb H2 (e.trans e2) _ fun H3 e3 => hr H3 ((e.trans e2).trans e3) _ fun H4 e4 => ⟨k, rfl, by
    cases k with
    | true =>
      rw [if_pos rfl]
      refine hc rfl H4 (((e.trans e2).trans e3).trans e4) _ fun H5 e5 => hr' rfl H5 ((((e.trans e2).trans e3).trans e4).trans e5) Q fun H6 e6 => q H6 ((((e2.trans e3).trans e4).trans e5).trans e6)
    | false =>
      rw [if_neg Bool.false_ne_true]
      rw [hf rfl] at q
      exact q H4 ((e2.trans e3).trans e4)⟩
/-- x < y < z of whole numbers -/
theorem ev_chainI {p p' : Int → Int → Bool} {ta tb tc : TE} {i j l : Int} (ha : Ev ta σ H (.int i)) (hb : Ev tb σ H (.int j)) (hc : Ev tc σ H (.int l)) :
    Ev (tChain (rI0 fun i j => .bl (p i j)) (rI0 fun i j => .bl (p' i j)) ta tb tc) σ H (.bl (p i j && p' j l)) := by
  refine ev_chain (k := p i j) ha hb rv_I0 (fun _ => hc) (fun h => ?_) fun h => ?_
  · rw [h]
    exact rv_I0
  · rw [h]
    rfl
theorem ev_cbT {r : List V → Hp → VK → Prop} {ta : TA} {vs : List V} {z : V} (h : EvA ta σ H vs) (hr : ∀ H1, Ex H H1 → ∀ Q : VK, Q z H1 → r vs H1 Q) : Ev (tCB r ta) σ H z := ev_cb h fun H1 e Q q => hr H1 e Q (q H1 (Ex.refl H1))
theorem eu_call {sp : Sp} {dvs vs xs : List V} {E : XK} {ta : TA} (h : EvA ta σ H vs) (hs : SpU sp (vs ++ dvs) H xs) : EvU (tCall sp dvs E ta) σ H xs := fun H1 e Q q =>
  h H1 e _ fun H2 e2 => hs H2 (e.trans e2) Q (fun p H3 hp e3 h3 => q p H3 (fresh_back e2 hp) (e2.trans e3) h3) E
theorem s_fldL {D : Ends} {te ta : TE} {f : Str} {a dx : Addr} {fs : List (Str × V)} {xs : List V} (h : EvL te σ H xs) (ho : ∀ H1, Ex H H1 → Ev ta σ H1 (.ref a)) (hH : H a = some (.ins C dx fs)) (c : Cls K C) (nA : NoAttr K C f) (hl : fs.length < 1000)
    (k : ∀ p H1, H p = none → Ex H H1 → H1 p = some (.lst xs) → D.nx σ (upd H1 a (.ins C dx (putF f (.ref p) fs)))) : sFld K ta te f D σ H := h H (Ex.refl H) _ fun p H1 hp e1 h1 =>
  ho H1 e1 H1 (Ex.refl H1) _ fun H2 e2 => ⟨a, C, dx, fs, rfl, e2 _ _ (e1 _ _ hH), c, nA, hl, k p H2 hp (e1.trans e2) (e2 _ _ h1)⟩
theorem put_here {f : Str} {v x : V} {r : List (Str × V)} : putF f v ((f, x) :: r) = (f, v) :: r := if_pos rfl
theorem put_past {f g : Str} {v x : V} {r : List (Str × V)} (h : ¬ g = f) : putF f v ((g, x) :: r) = (g, x) :: putF f v r := if_neg h
theorem SqL.o {a : Addr} {xs : List V} (h : H a = some (.lst xs)) : SqL K H a xs := .inl (.inl h)
theorem SqT.o {a : Addr} {xs : List V} (h : H a = some (.tup xs)) : SqT K H a xs := .inl (.inl h)
end

/-! ### what the top has left -/
structure Txt (K : PySem.W.Frag) (mg : Str → Option Value) (C CD : Addr) : Prop where
  tb : TB K C
  clD : Cls K CD
  nB : NoAttr K CD "building"
  gB : mg "Building" = some (.ref C)
  gD : mg "Desk" = some (.ref CD)
  b_len : mg "len" = none
  b_sum : mg "sum" = none
  b_min : mg "min" = none
  b_max : mg "max" = none
  b_int : mg "int" = none
  b_list : mg "list" = none
  b_range : mg "range" = none
  b_zip : mg "zip" = none
  b_enumerate : mg "enumerate" = none
  b_reversed : mg "reversed" = none
  c_MAX_PEOPLE : GI mg "MAX_PEOPLE" 20
  c_MAX_AREAS : GI mg "MAX_AREAS" 5
  c_MAX_CAPACITY : GI mg "MAX_CAPACITY" 9
  c_MAX_TRAVEL_TIME : GI mg "MAX_TRAVEL_TIME" 3
  c_MAX_PASSAGES : GI mg "MAX_PASSAGES" 8
  c_LAST_MINUTE : GI mg "LAST_MINUTE" 5
  c_NO_SUCH : GI mg "NO_SUCH" (-2)
  c_BAD_ARGUMENT : GI mg "BAD_ARGUMENT" (-22)
  c_FULL : GI mg "FULL" (-28)
  c_NEVER : GI mg "NEVER" (-1)
  c_NUMBERS_IN_STEP : GI mg "NUMBERS_IN_STEP" 3
  c_MAX_NUMBERS : GI mg "MAX_NUMBERS" 36
  c_IMPOSSIBLE : GI mg "IMPOSSIBLE" (-33)
  c_NO_PLANNER : GI mg "NO_PLANNER" (-11)
  c_CREATE : GI mg "CREATE" 0
  c_CUT_CAPACITY : GI mg "CUT_CAPACITY" 14
  c_IS_VALID_PLAN : GI mg "IS_VALID_PLAN" 15
  c_EVACUATED_BY_PLAN : GI mg "EVACUATED_BY_PLAN" 16
end Bx
end

section
set_option maxRecDepth 100000
set_option maxHeartbeats 4000000
/-! building.py, what only reads -/
namespace Bx
open PySem PySem.Spec PyProof.Rows L2 Evl
open Kv434 (Area Passage Network Planner)
section
variable {P : Program} {w : World} {K : PySem.W.Frag} {mg : Str → Option Value} {base : Heap} {C CD : Addr}
theorem exV_flat (as : List Area) : (exV as).all flatV = true := by
  rw [List.all_eq_true]
  intro x hx
  obtain ⟨a, _, rfl⟩ := List.mem_map.mp hx
  rfl
theorem in_exV : ∀ as : List Area, inV (.int 1) (exV as) = as.any Area.isExit
  | [] => rfl
  | a :: as => by
    have ih := in_exV as
    unfold inV exV at ih ⊢
    rw [List.map_cons, List.any_cons, List.any_cons, ih]
    congr 1
    cases h : a.isExit <;> rfl
theorem pplV_ints (as : List Area) : pplV as = (as.map fun a => (a.people : Int)).map V.int := by
  unfold pplV
  rw [List.map_map]
  rfl
theorem sum_cast : ∀ as : List Area, (as.map fun a => (a.people : Int)).sum = (((as.map Area.people).sum : Nat) : Int)
  | [] => rfl
  | a :: as => by
    rw [List.map_cons, List.sum_cons, List.map_cons, List.sum_cons, sum_cast as]
    omega
abbrev s_area_count : Stmt := top 8
abbrev N_area_count : List Str := ["building"]
abbrev P_area_count : List Str := ["building"]
theorem sc_area_count : FnScope N_area_count P_area_count (defScope s_area_count) := ⟨rfl, rfl, rfl, by decide +kernel, rfl, by decide +kernel, by decide +kernel⟩
def sp_area_count (C : Addr) : Sp := pureV (α := Addr × Network) (fun a => [.ref a.1]) (fun a H => NetAt C H a.1 a.2) (fun a => .int a.2.areas.length)
theorem has_area_count (T : Txt K mg C CD) (D : DefAt K mg "area_count" s_area_count) : Has P w K mg base 1 "area_count" P_area_count (sp_area_count C) := by
  refine has_V D sc_area_count (fun _ => rfl) (fun _ _ _ _ _ _ us hl => match us, hl with | [_], _ => rfl) fun f cdv A outer s H E hr => ⟨_, (pss_one (ps_ret (pe_callB call_len_seq (by rfl) T.b_len PySem.boot_len (pa_cons (pe_fld (pv 0) rfl) pa_nil)))), ?_⟩
  rintro ⟨b, n⟩ H0 Q ⟨pa, ea, la, ts, hN⟩ e q
  replace hN := hN.mono e
  exact s_ret (ev_is (ev_len (ev_people T.tb hN (ev_var rfl)) (SqL.o hN.ppl)) (by simp [pplV])) q
abbrev s_passage_count : Stmt := top 9
abbrev N_passage_count : List Str := ["building"]
abbrev P_passage_count : List Str := ["building"]
theorem sc_passage_count : FnScope N_passage_count P_passage_count (defScope s_passage_count) := ⟨rfl, rfl, rfl, by decide +kernel, rfl, by decide +kernel, by decide +kernel⟩
def sp_passage_count (C : Addr) : Sp := pureV (α := Addr × Network) (fun a => [.ref a.1]) (fun a H => NetAt C H a.1 a.2) (fun a => .int a.2.passages.length)
theorem has_passage_count (T : Txt K mg C CD) (D : DefAt K mg "passage_count" s_passage_count) : Has P w K mg base 1 "passage_count" P_passage_count (sp_passage_count C) := by
  refine has_V D sc_passage_count (fun _ => rfl) (fun _ _ _ _ _ _ us hl => match us, hl with | [_], _ => rfl) fun f cdv A outer s H E hr => ⟨_, (pss_one (ps_ret (pe_callB call_len_seq (by rfl) T.b_len PySem.boot_len (pa_cons (pe_fld (pv 0) rfl) pa_nil)))), ?_⟩
  rintro ⟨b, n⟩ H0 Q ⟨pa, ea, la, ts, hN⟩ e q
  replace hN := hN.mono e
  exact s_ret (ev_is (ev_len (ev_passages T.tb hN (ev_var rfl)) (SqL.o hN.pas)) (by simp [hN.tup.length])) q
abbrev s_has_area : Stmt := top 10
abbrev N_has_area : List Str := ["building", "area"]
abbrev P_has_area : List Str := ["building", "area"]
theorem sc_has_area : FnScope N_has_area P_has_area (defScope s_has_area) := ⟨rfl, rfl, rfl, by decide +kernel, rfl, by decide +kernel, by decide +kernel⟩
def sp_has_area (C : Addr) : Sp := pureV (α := Addr × Network × Nat) (fun a => [.ref a.1, .int a.2.2]) (fun a H => NetAt C H a.1 a.2.1) (fun a => .bl (decide (a.2.2 < a.2.1.areas.length)))
theorem has_has_area (T : Txt K mg C CD) (D : DefAt K mg "has_area" s_has_area) : Has P w K mg base 1 "has_area" P_has_area (sp_has_area C) := by
  refine has_V D sc_has_area (fun _ => rfl) (fun _ _ _ _ _ _ us hl => match us, hl with | [_, _], _ => rfl) fun f cdv A outer s H E hr => ⟨_, (pss_one (ps_ret (pe_cmpR op_lt (pv 1) (pe_callB call_len_seq (by rfl) T.b_len PySem.boot_len (pa_cons (pe_fld (pv 0) rfl) pa_nil)) (nomark _)))), ?_⟩
  rintro ⟨b, n, k⟩ H0 Q ⟨pa, ea, la, ts, hN⟩ e q
  replace hN := hN.mono e
  exact s_ret (ev_is (ev_op (ev_var rfl) (ev_len (ev_people T.tb hN (ev_var rfl)) (SqL.o hN.ppl)) rv_I0) (by simp [pplV])) q
abbrev s_has_passage : Stmt := top 11
abbrev N_has_passage : List Str := ["building", "passage"]
abbrev P_has_passage : List Str := ["building", "passage"]
theorem sc_has_passage : FnScope N_has_passage P_has_passage (defScope s_has_passage) := ⟨rfl, rfl, rfl, by decide +kernel, rfl, by decide +kernel, by decide +kernel⟩
def sp_has_passage (C : Addr) : Sp := pureV (α := Addr × Network × Nat) (fun a => [.ref a.1, .int a.2.2]) (fun a H => NetAt C H a.1 a.2.1) (fun a => .bl (decide (a.2.2 < a.2.1.passages.length)))
theorem has_has_passage (T : Txt K mg C CD) (D : DefAt K mg "has_passage" s_has_passage) : Has P w K mg base 1 "has_passage" P_has_passage (sp_has_passage C) := by
  refine has_V D sc_has_passage (fun _ => rfl) (fun _ _ _ _ _ _ us hl => match us, hl with | [_, _], _ => rfl) fun f cdv A outer s H E hr => ⟨_, (pss_one (ps_ret (pe_cmpR op_lt (pv 1) (pe_callB call_len_seq (by rfl) T.b_len PySem.boot_len (pa_cons (pe_fld (pv 0) rfl) pa_nil)) (nomark _)))), ?_⟩
  rintro ⟨b, n, k⟩ H0 Q ⟨pa, ea, la, ts, hN⟩ e q
  replace hN := hN.mono e
  exact s_ret (ev_is (ev_op (ev_var rfl) (ev_len (ev_passages T.tb hN (ev_var rfl)) (SqL.o hN.pas)) rv_I0) (by simp [hN.tup.length])) q
abbrev s_has_exits : Stmt := top 12
abbrev N_has_exits : List Str := ["building"]
abbrev P_has_exits : List Str := ["building"]
theorem sc_has_exits : FnScope N_has_exits P_has_exits (defScope s_has_exits) := ⟨rfl, rfl, rfl, by decide +kernel, rfl, by decide +kernel, by decide +kernel⟩
def sp_has_exits (C : Addr) : Sp := pureV (α := Addr × Network) (fun a => [.ref a.1]) (fun a H => NetAt C H a.1 a.2) (fun a => .bl a.2.hasExit)
theorem has_has_exits (T : Txt K mg C CD) (D : DefAt K mg "has_exits" s_has_exits) : Has P w K mg base 1 "has_exits" P_has_exits (sp_has_exits C) := by
  refine has_V D sc_has_exits (fun _ => rfl) (fun _ _ _ _ _ _ us hl => match us, hl with | [_], _ => rfl) fun f cdv A outer s H E hr => ⟨_, (pss_one (ps_ret (pe_cmpR op_in_seq pe_int (pe_fld (pv 0) rfl) (by rfl)))), ?_⟩
  rintro ⟨b, n⟩ H0 Q ⟨pa, ea, la, ts, hN⟩ e q
  replace hN := hN.mono e
  exact s_ret (ev_is (ev_op ev_c (ev_exits T.tb hN (ev_var rfl)) (rv_isL (SqL.o hN.exi) rfl (exV_flat _))) (by rw [in_exV]; rfl)) q
abbrev s_total_people : Stmt := top 13
abbrev N_total_people : List Str := ["building"]
abbrev P_total_people : List Str := ["building"]
theorem sc_total_people : FnScope N_total_people P_total_people (defScope s_total_people) := ⟨rfl, rfl, rfl, by decide +kernel, rfl, by decide +kernel, by decide +kernel⟩
def sp_total_people (C : Addr) : Sp := pureV (α := Addr × Network) (fun a => [.ref a.1]) (fun a H => NetAt C H a.1 a.2) (fun a => .int (total a.2 : Nat))
theorem has_total_people (T : Txt K mg C CD) (D : DefAt K mg "total_people" s_total_people) : Has P w K mg base 1 "total_people" P_total_people (sp_total_people C) := by
  refine has_V D sc_total_people (fun _ => rfl) (fun _ _ _ _ _ _ us hl => match us, hl with | [_], _ => rfl) fun f cdv A outer s H E hr => ⟨_, (pss_one (ps_ret (pe_callB (cr_sum rfl) (by rfl) T.b_sum (by decide +kernel) (pa_cons (pe_fld (pv 0) rfl) pa_nil)))), ?_⟩
  rintro ⟨b, n⟩ H0 Q ⟨pa, ea, la, ts, hN⟩ e q
  replace hN := hN.mono e
  refine s_ret (ev_is (ev_cbT (ea_cons (ev_people T.tb hN (ev_var rfl)) ea_nil) (fun H1 e1 Q q => ⟨pa, n.areas.map fun a => (a.people : Int), rfl, ?_, q⟩)) ?_) q
  · rw [← pplV_ints]
    exact SqL.o (e1 _ _ hN.ppl)
  · rw [sum_cast]
    rfl
abbrev s_source_of : Stmt := top 14
abbrev N_source_of : List Str := ["passage"]
abbrev P_source_of : List Str := ["passage"]
theorem sc_source_of : FnScope N_source_of P_source_of (defScope s_source_of) := ⟨rfl, rfl, rfl, by decide +kernel, rfl, by decide +kernel, by decide +kernel⟩
def sp_source_of : Sp := pureV (α := Addr × Passage) (fun a => [.ref a.1]) (fun a H => H a.1 = some (.tup (tupV a.2))) (fun a => .int a.2.source)
theorem has_source_of (D : DefAt K mg "source_of" s_source_of) : Has P w K mg base 1 "source_of" P_source_of sp_source_of := by
  refine has_V D sc_source_of (fun _ => rfl) (fun _ _ _ _ _ _ us hl => match us, hl with | [_], _ => rfl) fun f cdv A outer s H E hr => ⟨_, (pss_one (ps_ret (pe_ix ix_tup (pv 0) pe_int (fun _ _ => rfl)))), ?_⟩
  rintro ⟨t, p⟩ H0 Q h e q
  exact s_ret (ev_op (ev_var rfl) ev_c (rv_ixT (SqT.o (e _ _ h)) (atI_nat (j := 0) rfl))) q
abbrev s_target_of : Stmt := top 15
abbrev N_target_of : List Str := ["passage"]
abbrev P_target_of : List Str := ["passage"]
theorem sc_target_of : FnScope N_target_of P_target_of (defScope s_target_of) := ⟨rfl, rfl, rfl, by decide +kernel, rfl, by decide +kernel, by decide +kernel⟩
def sp_target_of : Sp := pureV (α := Addr × Passage) (fun a => [.ref a.1]) (fun a H => H a.1 = some (.tup (tupV a.2))) (fun a => .int a.2.target)
theorem has_target_of (D : DefAt K mg "target_of" s_target_of) : Has P w K mg base 1 "target_of" P_target_of sp_target_of := by
  refine has_V D sc_target_of (fun _ => rfl) (fun _ _ _ _ _ _ us hl => match us, hl with | [_], _ => rfl) fun f cdv A outer s H E hr => ⟨_, (pss_one (ps_ret (pe_ix ix_tup (pv 0) pe_int (fun _ _ => rfl)))), ?_⟩
  rintro ⟨t, p⟩ H0 Q h e q
  exact s_ret (ev_op (ev_var rfl) ev_c (rv_ixT (SqT.o (e _ _ h)) (atI_nat (j := 1) rfl))) q
abbrev s_capacity_of : Stmt := top 16
abbrev N_capacity_of : List Str := ["passage"]
abbrev P_capacity_of : List Str := ["passage"]
theorem sc_capacity_of : FnScope N_capacity_of P_capacity_of (defScope s_capacity_of) := ⟨rfl, rfl, rfl, by decide +kernel, rfl, by decide +kernel, by decide +kernel⟩
def sp_capacity_of : Sp := pureV (α := Addr × Passage) (fun a => [.ref a.1]) (fun a H => H a.1 = some (.tup (tupV a.2))) (fun a => .int a.2.capacity)
theorem has_capacity_of (D : DefAt K mg "capacity_of" s_capacity_of) : Has P w K mg base 1 "capacity_of" P_capacity_of sp_capacity_of := by
  refine has_V D sc_capacity_of (fun _ => rfl) (fun _ _ _ _ _ _ us hl => match us, hl with | [_], _ => rfl) fun f cdv A outer s H E hr => ⟨_, (pss_one (ps_ret (pe_ix ix_tup (pv 0) pe_int (fun _ _ => rfl)))), ?_⟩
  rintro ⟨t, p⟩ H0 Q h e q
  exact s_ret (ev_op (ev_var rfl) ev_c (rv_ixT (SqT.o (e _ _ h)) (atI_nat (j := 2) rfl))) q
abbrev s_travel_time_of : Stmt := top 17
abbrev N_travel_time_of : List Str := ["passage"]
abbrev P_travel_time_of : List Str := ["passage"]
theorem sc_travel_time_of : FnScope N_travel_time_of P_travel_time_of (defScope s_travel_time_of) := ⟨rfl, rfl, rfl, by decide +kernel, rfl, by decide +kernel, by decide +kernel⟩
def sp_travel_time_of : Sp := pureV (α := Addr × Passage) (fun a => [.ref a.1]) (fun a H => H a.1 = some (.tup (tupV a.2))) (fun a => .int a.2.travelTime)
theorem has_travel_time_of (D : DefAt K mg "travel_time_of" s_travel_time_of) : Has P w K mg base 1 "travel_time_of" P_travel_time_of sp_travel_time_of := by
  refine has_V D sc_travel_time_of (fun _ => rfl) (fun _ _ _ _ _ _ us hl => match us, hl with | [_], _ => rfl) fun f cdv A outer s H E hr => ⟨_, (pss_one (ps_ret (pe_ix ix_tup (pv 0) pe_int (fun _ _ => rfl)))), ?_⟩
  rintro ⟨t, p⟩ H0 Q h e q
  exact s_ret (ev_op (ev_var rfl) ev_c (rv_ixT (SqT.o (e _ _ h)) (atI_nat (j := 3) rfl))) q
abbrev s_is_capacity : Stmt := top 18
abbrev N_is_capacity : List Str := ["number"]
abbrev P_is_capacity : List Str := ["number"]
theorem sc_is_capacity : FnScope N_is_capacity P_is_capacity (defScope s_is_capacity) := ⟨rfl, rfl, rfl, by decide +kernel, rfl, by decide +kernel, by decide +kernel⟩
def sp_is_capacity : Sp := pureV (α := Nat) (fun a => [.int a]) (fun a H => True) (fun a => .bl (decide (1 ≤ a) && decide (a ≤ 9)))
theorem has_is_capacity (T : Txt K mg C CD) (D : DefAt K mg "is_capacity" s_is_capacity) : Has P w K mg base 1 "is_capacity" P_is_capacity sp_is_capacity := by
  refine has_V D sc_is_capacity (fun _ => rfl) (fun _ _ _ _ _ _ us hl => match us, hl with | [_], _ => rfl) fun f cdv A outer s H E hr => ⟨_, (pss_one (ps_ret (pe_chain op_le op_le pe_int (pv 0) (pe_gi rfl T.c_MAX_CAPACITY)))), ?_⟩
  rintro k H0 Q _ e q
  refine s_ret (ev_is (ev_chainI (p := fun i j => decide (i ≤ j)) (p' := fun i j => decide (i ≤ j)) ev_c (ev_var rfl) ev_c) ?_) q
  congr 2 <;> (rw [decide_eq_decide]; omega)
abbrev s_is_travel_time : Stmt := top 19
abbrev N_is_travel_time : List Str := ["number"]
abbrev P_is_travel_time : List Str := ["number"]
theorem sc_is_travel_time : FnScope N_is_travel_time P_is_travel_time (defScope s_is_travel_time) := ⟨rfl, rfl, rfl, by decide +kernel, rfl, by decide +kernel, by decide +kernel⟩
def sp_is_travel_time : Sp := pureV (α := Nat) (fun a => [.int a]) (fun a H => True) (fun a => .bl (decide (1 ≤ a) && decide (a ≤ 3)))
theorem has_is_travel_time (T : Txt K mg C CD) (D : DefAt K mg "is_travel_time" s_is_travel_time) : Has P w K mg base 1 "is_travel_time" P_is_travel_time sp_is_travel_time := by
  refine has_V D sc_is_travel_time (fun _ => rfl) (fun _ _ _ _ _ _ us hl => match us, hl with | [_], _ => rfl) fun f cdv A outer s H E hr => ⟨_, (pss_one (ps_ret (pe_chain op_le op_le pe_int (pv 0) (pe_gi rfl T.c_MAX_TRAVEL_TIME)))), ?_⟩
  rintro k H0 Q _ e q
  refine s_ret (ev_is (ev_chainI (p := fun i j => decide (i ≤ j)) (p' := fun i j => decide (i ≤ j)) ev_c (ev_var rfl) ev_c) ?_) q
  congr 2 <;> (rw [decide_eq_decide]; omega)
abbrev s_with_capacity : Stmt := top 20
abbrev N_with_capacity : List Str := ["passage", "capacity"]
abbrev P_with_capacity : List Str := ["passage", "capacity"]
theorem sc_with_capacity : FnScope N_with_capacity P_with_capacity (defScope s_with_capacity) := ⟨rfl, rfl, rfl, by decide +kernel, rfl, by decide +kernel, by decide +kernel⟩
def sp_with_capacity : Sp := pureU (α := Addr × Passage × Nat) (fun a => [.ref a.1, .int a.2.2]) (fun a H => H a.1 = some (.tup (tupV a.2.1))) (fun a => tupV { a.2.1 with capacity := a.2.2 })
theorem has_with_capacity (D : DefAt K mg "with_capacity" s_with_capacity) : Has P w K mg base 1 "with_capacity" P_with_capacity sp_with_capacity := by
  refine has_U D sc_with_capacity (fun _ => rfl) (fun _ _ _ _ _ _ us hl => match us, hl with | [_, _], _ => rfl) fun f cdv A outer s H E hr => ⟨_, (pss_one (ps_ret (pe_tup (pa_cons (pe_ix ix_tup (pv 0) pe_int (fun _ _ => rfl)) (pa_cons (pe_ix ix_tup (pv 0) pe_int (fun _ _ => rfl)) (pa_cons (pv 1) (pa_cons (pe_ix ix_tup (pv 0) pe_int (fun _ _ => rfl)) pa_nil))))))), ?_⟩
  rintro ⟨t, p, k⟩ H0 Q h e q
  have hS : SqT K H t (tupV p) := SqT.o (e _ _ h)
  exact s_retU (eu_tup (ea_cons (ev_op (ev_var rfl) ev_c (rv_ixT hS (atI_nat (j := 0) rfl))) (ea_cons (ev_op (ev_var rfl) ev_c (rv_ixT hS (atI_nat (j := 1) rfl))) (ea_cons (ev_var rfl)
    (ea_cons (ev_op (ev_var rfl) ev_c (rv_ixT hS (atI_nat (j := 3) rfl))) ea_nil)))) (by show 4 ≤ 100000; decide)) q
abbrev s_reversed_passage : Stmt := top 21
abbrev N_reversed_passage : List Str := ["passage"]
abbrev P_reversed_passage : List Str := ["passage"]
theorem sc_reversed_passage : FnScope N_reversed_passage P_reversed_passage (defScope s_reversed_passage) := ⟨rfl, rfl, rfl, by decide +kernel, rfl, by decide +kernel, by decide +kernel⟩
def sp_reversed_passage : Sp := pureU (α := Addr × Passage) (fun a => [.ref a.1]) (fun a H => H a.1 = some (.tup (tupV a.2))) (fun a => tupV { a.2 with source := a.2.target, target := a.2.source })
theorem has_reversed_passage (D : DefAt K mg "reversed_passage" s_reversed_passage) : Has P w K mg base 1 "reversed_passage" P_reversed_passage sp_reversed_passage := by
  refine has_U D sc_reversed_passage (fun _ => rfl) (fun _ _ _ _ _ _ us hl => match us, hl with | [_], _ => rfl) fun f cdv A outer s H E hr => ⟨_, (pss_one (ps_ret (pe_tup (pa_cons (pe_ix ix_tup (pv 0) pe_int (fun _ _ => rfl)) (pa_cons (pe_ix ix_tup (pv 0) pe_int (fun _ _ => rfl)) (pa_cons (pe_ix ix_tup (pv 0) pe_int (fun _ _ => rfl)) (pa_cons (pe_ix ix_tup (pv 0) pe_int (fun _ _ => rfl)) pa_nil))))))), ?_⟩
  rintro ⟨t, p⟩ H0 Q h e q
  have hS : SqT K H t (tupV p) := SqT.o (e _ _ h)
  exact s_retU (eu_tup (ea_cons (ev_op (ev_var rfl) ev_c (rv_ixT hS (atI_nat (j := 1) rfl))) (ea_cons (ev_op (ev_var rfl) ev_c (rv_ixT hS (atI_nat (j := 0) rfl))) (ea_cons (ev_op (ev_var rfl) ev_c (rv_ixT hS (atI_nat (j := 2) rfl)))
    (ea_cons (ev_op (ev_var rfl) ev_c (rv_ixT hS (atI_nat (j := 3) rfl))) ea_nil)))) (by show 4 ≤ 100000; decide)) q
end
end Bx
end

section
set_option maxRecDepth 100000
set_option maxHeartbeats 4000000
/-! loops; buildings made; building.py, the rest -/
namespace Bx
open PySem PySem.Spec PyProof.Rows L2 Evl
open Kv434 (Area Passage Network Planner)

/-! ### loops -/
section
variable {K : PySem.W.Frag} {σ : L2.St} {H : Hp} {ta tb te tl : TE} {v : V} {D : Ends} {tu : TS} {a b : Addr} {xs ys : List V}
/-- for i, x in enumerate(a list) -/
theorem s_forE {i j : Nat} (h : Ev tl σ H (.ref a)) (hx : SqL K H a xs) (Pv : Nat → L2.St → Hp → Prop) (h0 : ∀ H1, Ex H H1 → Pv 0 σ H1) (hl : ∀ m σ' H', Pv m σ' H' → SqL K H' a xs)
    (hs : ∀ m x σ' H', xs[m]? = some x → Pv m σ' H' → ∀ H2, Ex H' H2 → tu { D with nx := Pv (m + 1), ct := Pv (m + 1), bk := D.nx } ((σ'.set i (some (.int (m : Nat)))).set j (some x)) H2)
    (hd : ∀ σ' H', Pv xs.length σ' H' → D.nx σ' H') : tFor (iEnum K (tCons tl tNil)) (gTup K 2 (gCons (gName i) (gCons (gName j) gNil))) tu D σ H :=
  h H (Ex.refl H) _ fun H1 e => ⟨a, xs, rfl, ex_l e hx, by
    refine ⟨fun m k σ' H' => k = xs.length - m ∧ m ≤ xs.length ∧ Pv m σ' H', ⟨xs.length, rfl, Nat.zero_le _, h0 H1 e⟩, ?_⟩
    rintro m k σ' H' ⟨rfl, hi, p⟩
    have hq := hl m σ' H' p
    by_cases hlt : m < xs.length
    · have hxi : xs[m]? = some xs[m] := List.getElem?_eq_getElem hlt
      refine .inr ⟨⟨xs, _, hq, hxi⟩, Pv (m + 1), fun σ2 H2 p' => ⟨xs.length - (m + 1), by omega, rfl, hlt, p'⟩, fun y H2 hy => ?_⟩
      obtain ⟨T, x, rfl, hT, rfl, f1⟩ := hy
      refine ⟨T, _, rfl, SqT.o upd_same, rfl, _, _, rfl, _, _, rfl, rfl, ?_⟩
      exact hs m x σ' H' (f1 xs hq) p _ (Ex.new hT)
    · have e2 : m = xs.length := by omega
      subst e2
      exact .inl ⟨⟨xs, hq, Nat.le_refl _⟩, hd σ' H' p⟩⟩
/-- for x, y in zip(two lists of one length) -/
theorem s_forZ {i j : Nat} (h : Ev tl σ H (.ref a)) (h' : Ev tb σ H (.ref b)) (hx : SqL K H a xs) (hy : SqL K H b ys) (hlen : xs.length = ys.length) (Pv : Nat → L2.St → Hp → Prop) (h0 : ∀ H1, Ex H H1 → Pv 0 σ H1)
    (hl : ∀ m σ' H', Pv m σ' H' → SqL K H' a xs ∧ SqL K H' b ys)
    (hs : ∀ m x y σ' H', xs[m]? = some x → ys[m]? = some y → Pv m σ' H' → ∀ H2, Ex H' H2 → tu { D with nx := Pv (m + 1), ct := Pv (m + 1), bk := D.nx } ((σ'.set i (some x)).set j (some y)) H2)
    (hd : ∀ σ' H', Pv xs.length σ' H' → D.nx σ' H') : tFor (iZip K (tCons tl (tCons tb tNil))) (gTup K 2 (gCons (gName i) (gCons (gName j) gNil))) tu D σ H :=
  h H (Ex.refl H) _ fun H1 e => h' H1 e _ fun H2 e2 => ⟨a, b, xs, ys, rfl, ex_l (e.trans e2) hx, ex_l (e.trans e2) hy, RZ.for_zipL hlen Pv (h0 H2 (e.trans e2)) hl (fun m x y T σ' H' hxm hym p hT => by
    refine ⟨T, _, rfl, SqT.o upd_same, rfl, _, _, rfl, _, _, rfl, rfl, ?_⟩
    exact hs m x y σ' H' hxm hym p _ (Ex.new hT)) hd⟩
/-- for x, y, z in a list of triples -/
theorem s_for3 {i j l : Nat} {us : List Addr} (h : Ev tl σ H (.ref a)) (hx : SqL K H a (us.map V.ref)) (Pv : Nat → L2.St → Hp → Prop) (h0 : ∀ H1, Ex H H1 → Pv 0 σ H1) (hl : ∀ m σ' H', m ≤ us.length → Pv m σ' H' → SqL K H' a (us.map V.ref))
    (hs : ∀ m u σ' H', us[m]? = some u → Pv m σ' H' → ∃ x y z, H' u = some (.tup [x, y, z]) ∧ tu { D with nx := Pv (m + 1), ct := Pv (m + 1), bk := D.nx } (((σ'.set i (some x)).set j (some y)).set l (some z)) H')
    (hd : ∀ σ' H', Pv us.length σ' H' → D.nx σ' H') : tFor (iList K tl) (gTup K 3 (gCons (gName i) (gCons (gName j) (gCons (gName l) gNil)))) tu D σ H := by
  refine s_forL h hx Pv h0 (fun m σ' H' hm p => hl m σ' H' (by simpa using hm) p) (fun m x σ' H' hm p => ?_) (fun σ' H' p => hd σ' H' (by simpa using p))
  rw [List.getElem?_map] at hm
  cases e : us[m]? with
  | none => rw [e] at hm; cases hm
  | some u =>
    rw [e] at hm
    have ex : x = V.ref u := (Option.some.inj hm).symm
    subst ex
    obtain ⟨x, y, z, hu, ht⟩ := hs m u σ' H' e p
    exact ⟨u, _, rfl, SqT.o hu, rfl, _, _, rfl, _, _, rfl, _, _, rfl, rfl, ht⟩
/-- for x in reversed(a list) -/
theorem s_forV {i : Nat} (h : Ev tl σ H (.ref a)) (hx : SqL K H a xs) (Pv : Nat → L2.St → Hp → Prop) (h0 : ∀ H1, Ex H H1 → Pv 0 σ H1) (hl : ∀ m σ' H', Pv m σ' H' → SqL K H' a xs)
    (hs : ∀ m x σ' H', m < xs.length → xs[xs.length - 1 - m]? = some x → Pv m σ' H' → tu { D with nx := Pv (m + 1), ct := Pv (m + 1), bk := D.nx } (σ'.set i (some x)) H')
    (hd : ∀ σ' H', Pv xs.length σ' H' → D.nx σ' H') : tFor (iRev K (tCons tl tNil)) (gName i) tu D σ H :=
  h H (Ex.refl H) _ fun H1 e => ⟨a, xs, rfl, ex_l e hx, RT.for_Itv Pv (h0 H1 e) hl (fun m x σ' H' hm hxm p => hs m x σ' H' hm hxm p) hd⟩
/-- xs[i] = a new tuple -/
theorem s_setU {l : Addr} {j : Nat} (hl : H l = some (.lst xs)) (h : EvU te σ H ys) (ho : Ev ta σ H (.ref l)) (hi : Ev tb σ H (.int (j : Int))) (hj : j < xs.length) (k : ∀ p H1, H p = none → Ex H H1 → H1 p = some (.tup ys) → D.nx σ (upd H1 l (.lst (xs.set j (.ref p))))) :
    tAsg te (gSub ta tb rSetL) D σ H := h H (Ex.refl H) _ fun p H1 hp e1 h1 => ho H1 e1 _ fun H2 e2 => hi H2 (e1.trans e2) _ fun H3 e3 =>
  ⟨l, xs, (j : Int), j, rfl, rfl, ((e1.trans e2).trans e3) l _ hl, ixN_nat hj, k p H3 hp ((e1.trans e2).trans e3) (e3 _ _ (e2 _ _ h1))⟩
/-- a, b = two values -/
theorem s_par {i j : Nat} {x y : V} (h : Ev ta σ H x) (h' : Ev tb σ H y) (k : ∀ H1, Ex H H1 → D.nx ((σ.set i (some x)).set j (some y)) H1) : tPar i j (tCons ta (tCons tb tNil)) D σ H :=
  h H (Ex.refl H) _ fun H1 e1 => h' H1 e1 _ fun H2 e2 => ⟨x, y, rfl, k H2 (e1.trans e2)⟩
/-- a, b = a new list, a value -/
theorem s_parL {i j : Nat} {y : V} (h : EvL ta σ H xs) (h' : Ev tb σ H y) (k : ∀ p H1, H p = none → Ex H H1 → H1 p = some (.lst xs) → D.nx ((σ.set i (some (.ref p))).set j (some y)) H1) : tPar i j (tCons ta (tCons tb tNil)) D σ H :=
  h H (Ex.refl H) _ fun p H1 hp e1 h1 => h' H1 e1 _ fun H2 e2 => ⟨.ref p, y, rfl, k p H2 hp (e1.trans e2) (e2 _ _ h1)⟩
/-- a, b = a value, a new list -/
theorem s_parR {i j : Nat} {y : V} (h : Ev ta σ H y) (h' : EvL tb σ H xs) (k : ∀ p H1, H p = none → Ex H H1 → H1 p = some (.lst xs) → D.nx ((σ.set i (some y)).set j (some (.ref p))) H1) : tPar i j (tCons ta (tCons tb tNil)) D σ H :=
  h H (Ex.refl H) _ fun H1 e1 => h' H1 e1 _ fun p H2 hp e2 h2 => ⟨y, .ref p, rfl, k p H2 (fresh_back e1 hp) (e1.trans e2) h2⟩
/-- xs[::-1] -/
theorem el_rev (h : Ev te σ H (.ref a)) (hx : SqL K H a xs) : EvL (tRevL K te) σ H xs.reverse := fun H1 e Q q =>
  h H1 e _ fun H2 e2 => ⟨a, xs, rfl, ex_l (e.trans e2) hx, fun p hp => q p _ (fresh_back e2 hp) (e2.trans (Ex.new hp)) upd_same⟩
/-- x, y = a list of two -/
theorem s_unl2 {i j : Nat} {x y : V} (h : Ev te σ H (.ref a)) (hx : SqL K H a [x, y]) (k : ∀ H1, Ex H H1 → D.nx ((σ.set i (some x)).set j (some y)) H1) : tAsg te (gUnl K 2 (gCons (gName i) (gCons (gName j) gNil))) D σ H :=
  h H (Ex.refl H) _ fun H1 e => ⟨a, _, rfl, ex_l e hx, rfl, _, _, rfl, _, _, rfl, rfl, k H1 e⟩
theorem s_unl4 {i j l m : Nat} {x y z u : V} (h : Ev te σ H (.ref a)) (hx : SqL K H a [x, y, z, u]) (k : ∀ H1, Ex H H1 → D.nx ((((σ.set i (some x)).set j (some y)).set l (some z)).set m (some u)) H1) :
    tAsg te (gUnl K 4 (gCons (gName i) (gCons (gName j) (gCons (gName l) (gCons (gName m) gNil))))) D σ H :=
  h H (Ex.refl H) _ fun H1 e => ⟨a, _, rfl, ex_l e hx, rfl, _, _, rfl, _, _, rfl, _, _, rfl, _, _, rfl, rfl, k H1 e⟩
/-- a new list or another -/
theorem el_if {c : Bool} {t : TT} (h : EvT t σ H c) (h1 : c = true → EvL ta σ H xs) (h2 : c = false → EvL tb σ H xs) : EvL (tIf t ta tb) σ H xs := fun H1 e Q q => h H1 e _ fun H2 e2 => by
  cases c with
  | true =>
    show ta σ H2 Q
    exact h1 rfl H2 (e.trans e2) Q fun p H3 hp e3 h3 => q p H3 (fresh_back e2 hp) (e2.trans e3) h3
  | false =>
    show tb σ H2 Q
    exact h2 rfl H2 (e.trans e2) Q fun p H3 hp e3 h3 => q p H3 (fresh_back e2 hp) (e2.trans e3) h3
theorem el_is (h : EvL te σ H xs) (e : xs = ys) : EvL te σ H ys := e ▸ h
theorem el_lst0 : EvL (tLst tNil) σ H [] := el_lst ea_nil (Nat.zero_le _)
theorem el_lst1 {x : V} (h : Ev te σ H x) : EvL (tLst (tCons te tNil)) σ H [x] := el_lst (ea_cons h ea_nil) (by show 1 ≤ 100000; decide)
/-- a new list behind a call whose argument is a new list -/
theorem el_callL1 {sp : Sp} (h : EvL te σ H xs) (hs : ∀ p H1, Ex H H1 → H1 p = some (.lst xs) → SpL sp [.ref p] H1 ys) : EvL (tCall sp [] E0 (tCons te tNil)) σ H ys := fun H1 e Q q =>
  h H1 e _ fun p H2 hp e2 h2 => hs p H2 (e.trans e2) h2 H2 (Ex.refl _) Q (fun r H3 hr e3 h3 => q r H3 (fresh_back e2 hr) (e2.trans e3) h3) E0
/-- the list at l is a new one (of the def): all that stood stands -/
theorem Ex.grow {H H' H1 : Hp} {l : Addr} {o : HO} (e : Ex H H') (hl : H l = none) (e1 : Ex H' H1) : Ex H (upd H1 l o) := Ex.mut (e.trans e1) hl
theorem iref {us : List Addr} {m : Nat} {x : V} (h : (us.map V.ref)[m]? = some x) : ∃ u, us[m]? = some u ∧ x = .ref u := by
  rw [List.getElem?_map] at h
  cases e : us[m]? with
  | none => rw [e] at h; cases h
  | some u => rw [e] at h; exact ⟨u, rfl, (Option.some.inj h).symm⟩
theorem imap {α : Type} {f : α → V} {us : List α} {m : Nat} {x : V} (h : (us.map f)[m]? = some x) : ∃ u, us[m]? = some u ∧ x = f u := by
  rw [List.getElem?_map] at h
  cases e : us[m]? with
  | none => rw [e] at h; cases h
  | some u => rw [e] at h; exact ⟨u, rfl, (Option.some.inj h).symm⟩
theorem map_at {α : Type} {f : α → V} {us : List α} {m : Nat} {u : α} (h : us[m]? = some u) : (us.map f)[m]? = some (f u) := by
  rw [List.getElem?_map, h] <;> rfl
theorem sz5 {n : Nat} (h : n ≤ 50) : n < 100000 := by omega
end

/-! ### buildings made -/
def sp_Binit (K : PySem.W.Frag) (C : Addr) : Sp := fun vs H Q _ => ∃ (x dx a b c : Addr) (xs ys zs : List V), vs = [.ref x, .ref a, .ref b, .ref c] ∧ H x = some (.ins C dx []) ∧ SqL K H a xs ∧ SqL K H b ys ∧ SqL K H c zs ∧
  ∀ (pa ea la : Addr) (H' : Hp), (∀ p o, H p = some o → p ≠ x → H' p = some o) → H pa = none → H ea = none → H la = none → pa ≠ ea → pa ≠ la → ea ≠ la → H' x = some (.ins C dx (bF pa ea la)) →
    H' pa = some (.lst xs) → H' ea = some (.lst ys) → H' la = some (.lst zs) → Q .non H'
theorem sq_past {K : PySem.W.Frag} {H : Hp} {x y : Addr} {xs : List V} {o : HO} (h : SqL K H y xs) (hne : y ≠ x) : SqL K (upd H x o) y xs := by
  rcases h with (h | ⟨u, h⟩) | h
  · exact .inl (.inl (by rw [upd_ne hne]; exact h))
  · exact .inl (.inr ⟨u, by rw [upd_ne hne]; exact h⟩)
  · exact .inr h
theorem sq_ins {K : PySem.W.Frag} {H : Hp} {x y C dx : Addr} {fs : List (Str × V)} {xs : List V} {o : HO} (h : SqL K H y xs) (hx : H x = some (.ins C dx fs)) : SqL K (upd H x o) y xs := by
  rcases h with (h | ⟨u, h⟩) | h
  · exact .inl (.inl (by rw [upd_ne (ne_of h hx (by intro z; cases z))]; exact h))
  · exact .inl (.inr ⟨u, by rw [upd_ne (ne_of h hx (by intro z; cases z))]; exact h⟩)
  · exact .inr h
abbrev s_Building_init : Stmt := inClass (top 7) 0
abbrev N_Building_init : List Str := ["self", "people", "exits", "passages"]
abbrev P_Building_init : List Str := ["self", "people", "exits", "passages"]
theorem sc_Building_init : FnScope N_Building_init P_Building_init (defScope s_Building_init) := ⟨rfl, rfl, rfl, by decide +kernel, rfl, by decide +kernel, by decide +kernel⟩
theorem putB1 (p : Addr) : putF "people" (.ref p) [] = [(("people" : Str), V.ref p)] := rfl
theorem putB2 (p q : Addr) : putF "exits" (.ref q) [(("people" : Str), V.ref p)] = [(("people" : Str), V.ref p), ("exits", .ref q)] := (put_past (by decide +kernel)).trans rfl
theorem putB3 (p q r : Addr) : putF "passages" (.ref r) [(("people" : Str), V.ref p), ("exits", .ref q)] = bF p q r := (put_past (by decide +kernel)).trans (congrArg _ ((put_past (by decide +kernel)).trans rfl))
section
variable {P : Program} {w : World} {K : PySem.W.Frag} {mg : Str → Option Value} {base : Heap} {C CD : Addr}
theorem has_Binit (T : Txt K mg C CD) {f : Addr} {fd : FuncData} (F : Fun K "__init__" "Building.__init__" s_Building_init f fd) (M : Mk K C f) : HasC P w K mg base 1 "Building" C P_Building_init (sp_Binit K C) := by
  refine ⟨f, fd, T.gB, M, F.binds (fun _ _ _ _ _ _ us hl => match us, hl with | [_, _, _, _], _ => rfl), F.ok sc_Building_init (fun vs H Q E h => ?_) (fun cdv A outer s H vs Q E hr h => ⟨_, (pss_cons (ps_fld (pv 0) (pe_callTy call_list_of (by rfl) T.b_list (by decide +kernel) (pa_cons (pv 1) pa_nil)) rfl) (pss_cons (ps_fld (pv 0) (pe_callTy call_list_of (by rfl) T.b_list (by decide +kernel) (pa_cons (pv 2) pa_nil)) rfl) (pss_one (ps_fld (pv 0) (pe_callTy call_list_of (by rfl) T.b_list (by decide +kernel) (pa_cons (pv 3) pa_nil)) rfl)))), ?_⟩)⟩
  · obtain ⟨x, dx, a, b, c, xs, ys, zs, rfl, _⟩ := h
    rfl
  · obtain ⟨x, dx, a, b, c, xs, ys, zs, rfl, hx, h1, h2, h3, q⟩ := h
    refine s_fldL (el_list (ev_var rfl) h1) (fun _ _ => ev_var rfl) hx T.tb.cl T.tb.nP (by decide) fun p1 H1 n1 e1 l1 => ?_
    rw [putB1]
    have x1 := e1 _ _ hx
    have ne1 : p1 ≠ x := (ne_of_none hx n1).symm
    refine s_fldL (el_list (ev_var rfl) (sq_ins (ex_l e1 h2) x1)) (fun _ _ => ev_var rfl) upd_same T.tb.cl T.tb.nE (by show 1 < 1000; decide) fun p2 H2 n2 e2 l2 => ?_
    rw [putB2]
    have x2 := e2 _ _ (upd_same (H := H1) (a := x))
    have ne2 : p2 ≠ x := (ne_of_none (upd_same (H := H1) (a := x)) n2).symm
    have l1' : H2 p1 = some (.lst xs) := e2 _ _ (by rw [upd_ne ne1]; exact l1)
    have ne12 : p1 ≠ p2 := ne_of_none (H := upd H1 x _) (by rw [upd_ne ne1]; exact l1) n2
    have n2' : H p2 = none := fresh_back e1 (by rw [upd_ne ne2] at n2; exact n2)
    have h3' : SqL K H2 c zs := ex_l e2 (sq_ins (ex_l e1 h3) x1)
    refine s_fldL (el_list (ev_var rfl) (sq_ins h3' x2)) (fun _ _ => ev_var rfl) upd_same T.tb.cl T.tb.nL (by show 2 < 1000; decide) fun p3 H3 n3 e3 l3 => ?_
    rw [putB3]
    have ne3 : p3 ≠ x := (ne_of_none (upd_same (H := H2) (a := x)) n3).symm
    have l1'' : H3 p1 = some (.lst xs) := e3 _ _ (by rw [upd_ne ne1]; exact l1')
    have l2'' : H3 p2 = some (.lst ys) := e3 _ _ (by rw [upd_ne ne2]; exact l2)
    have ne13 : p1 ≠ p3 := ne_of_none (H := upd H2 x _) (by rw [upd_ne ne1]; exact l1') n3
    have ne23 : p2 ≠ p3 := ne_of_none (H := upd H2 x _) (by rw [upd_ne ne2]; exact l2) n3
    have keep2 : ∀ p o, H p = some o → p ≠ x → H2 p = some o := fun p o hp hne => e2 _ _ (by rw [upd_ne hne]; exact e1 _ _ hp)
    have keep3 : ∀ p o, H p = some o → p ≠ x → H3 p = some o := fun p o hp hne => e3 _ _ (by rw [upd_ne hne]; exact keep2 p o hp hne)
    have n3' : H p3 = none := by
      cases hh : H p3 with
      | none => rfl
      | some o =>
        rw [upd_ne ne3] at n3
        rw [keep2 p3 o hh ne3] at n3
        cases n3
    refine q p1 p2 p3 _ (fun p o hp hne => ?_) n1 n2' n3' ne12 ne13 ne23 upd_same ?_ ?_ ?_
    · rw [upd_ne hne]
      exact keep3 p o hp hne
    · rw [upd_ne ne1]; exact l1''
    · rw [upd_ne ne2]; exact l2''
    · rw [upd_ne ne3]; exact l3

/-- an expression that gives a new building -/
def EvB (C : Addr) (te : TE) (σ : L2.St) (H : Hp) (n : Network) : Prop := ∀ H1, Ex H H1 → ∀ Q : VK, (∀ x H2, H1 x = none → Ex H1 H2 → NetAt C H2 x n → Q (.ref x) H2) → te σ H1 Q
theorem made_ex {H : Hp} {x dx : Addr} (nx : H x = none) (nd : H dx = none) (ne : dx ≠ x) : Ex H (upd (upd H dx (.own x)) x (.ins C dx [])) :=
  (Ex.new nd).trans (Ex.new (by rw [upd_ne (Ne.symm ne)]; exact nx))
theorem eb_make {σ : L2.St} {H : Hp} {t : TA} {a b c : Addr} {as : List Area} {ps : List Passage} {ts : List Addr} (h : EvA t σ H [.ref a, .ref b, .ref c]) (h1 : SqL K H a (pplV as)) (h2 : SqL K H b (exV as)) (h3 : SqL K H c (ts.map V.ref)) (h4 : Tups H ts ps) :
    EvB C (tMake C (sp_Binit K C) [] E0 t) σ H ⟨as, ps⟩ := fun H1 e Q q => h H1 e _ fun H2 e2 x dx nx nd ne => by
  have e3 := made_ex (C := C) nx nd ne
  have e4 := (e.trans e2).trans e3
  refine ⟨x, dx, a, b, c, _, _, _, rfl, upd_same, ex_l e4 h1, ex_l e4 h2, ex_l e4 h3, fun pa ea la H' keep n1 n2 n3 d1 d2 d3 hx l1 l2 l3 => ⟨rfl, ?_⟩⟩
  have e5 : Ex H2 H' := fun p o hp => keep p o (e3 _ _ hp) (ne_of_none hp nx)
  refine q x H' (fresh_back e2 nx) (e2.trans e5) ⟨pa, ea, la, ts, ⟨dx, hx⟩, l1, l2, l3, ?_, d1, d2, d3⟩
  exact h4.mono ((e.trans e2).trans e5)
/-- gives a new building -/
def pureB (C : Addr) {α : Type} (args : α → List V) (pre : α → Hp → Prop) (val : α → Network) : Sp := fun vs H Q _ => ∃ a H0, Ex H0 H ∧ vs = args a ∧ pre a H0 ∧ ∀ x H', H x = none → Ex H H' → NetAt C H' x (val a) → Q (.ref x) H'
theorem has_B {α : Type} {args : α → List V} {pre : α → Hp → Prop} {val : α → Network} {x : Str} {st : Stmt} {N ps : List Str} {k : Nat} (D : DefAt K mg x st) (S : FnScope N ps (defScope st)) (la : ∀ a, (args a).length = ps.length)
    (bind : ∀ (kV doc pm : Value) (an : Option Addr) (cdv ct : Value) (us : List Value), us.length = ps.length → bindArgs (PySem.W.fnOf x x (defArgs st) (defBody st) (defScope st) .none kV doc pm an cdv ct) ⟨us, []⟩ = pure (ps.zip us))
    (body : ∀ (f : Addr) (cdv : Value) (A : Around) (outer : List Env) (s : Shared) (H : Hp) (E : XK), Room k (A.deeper (envOfC x (defScope st) s.heap.objs.size f cdv)) →
      ∃ t, PSs (cxOf CX0 P w K mg base N x (defScope st) f cdv A outer s H E).nox (defBody st) t ∧ ∀ a H0 Q, pre a H0 → Ex H0 H → (∀ x H', H x = none → Ex H H' → NetAt C H' x (val a) → Q (.ref x) H') → t { nx := fun _ H' => Q .non H', rt := Q } (start N (args a)) H) :
    Has P w K mg base (k + 1) x ps (pureB C args pre val) := has_of D S (fun vs H Q E ⟨a, _, _, e, _⟩ => by rw [e]; exact la a) bind fun f cdv A outer s H E hr => by
  obtain ⟨t, h1, h2⟩ := body f cdv A outer s H E hr
  refine ⟨t, h1, fun vs Q h => ?_⟩
  obtain ⟨a, H0, e, rfl, hp, q⟩ := h
  exact h2 a H0 Q hp e q
theorem eb_call {α : Type} {args : α → List V} {pre : α → Hp → Prop} {val : α → Network} {σ : L2.St} {H : Hp} {ta : TA} (a : α) (h : EvA ta σ H (args a)) (hp : pre a H) : EvB C (tCall (pureB C args pre val) [] E0 ta) σ H (val a) := fun H1 e Q q =>
  h H1 e _ fun H2 e2 => ⟨a, H, e.trans e2, List.append_nil _, hp, fun x H3 hx e3 hN => q x H3 (fresh_back e2 hx) (e2.trans e3) hN⟩

theorem pplV_set : ∀ (as : List Area) (i v : Nat), (pplV as).set i (.int v) = pplV (as.modify i fun a => { a with people := v })
  | [], i, v => by simp [pplV]
  | a :: as, 0, v => by simp [pplV]
  | a :: as, i + 1, v => by
    have ih := pplV_set as i v
    unfold pplV at ih ⊢
    simp [ih]
theorem exV_modify {f : Area → Area} (hf : ∀ a, (f a).isExit = a.isExit) : ∀ (as : List Area) (i : Nat), exV (as.modify i f) = exV as
  | [], i => by simp [exV]
  | a :: as, 0 => by simp [exV, hf]
  | a :: as, i + 1 => by
    have ih := exV_modify hf as i
    unfold exV at ih ⊢
    simp [ih]
theorem Tups.set {H : Hp} {f : Passage → Passage} : ∀ {ts : List Addr} {ps : List Passage} {i : Nat} {t : Addr} {p : Passage}, Tups H ts ps → ps[i]? = some p → H t = some (.tup (tupV (f p))) → Tups H (ts.set i t) (ps.modify i f)
  | _, _, _, _, _, .nil, e, _ => by simp at e
  | _, _, 0, _, _, .cons r q, e, h => by
    simp at e
    subst e
    simp only [List.set_cons_zero, List.modify_zero_cons]
    exact .cons h q
  | _, _, i + 1, t, p, .cons r q, e, h => by
    simp only [List.set_cons_succ, List.modify_succ_cons]
    exact .cons r (Tups.set q (by simpa using e) h)

abbrev s_building_with_people : Stmt := top 22
abbrev N_building_with_people : List Str := ["building", "area", "people", "numbers"]
abbrev P_building_with_people : List Str := ["building", "area", "people"]
theorem sc_building_with_people : FnScope N_building_with_people P_building_with_people (defScope s_building_with_people) := ⟨rfl, rfl, rfl, by decide +kernel, rfl, by decide +kernel, by decide +kernel⟩
def sp_building_with_people (C : Addr) : Sp := pureB C (α := Addr × Network × Nat × Nat) (fun a => [.ref a.1, .int a.2.2.1, .int a.2.2.2]) (fun a H => NetAt C H a.1 a.2.1 ∧ a.2.2.1 < a.2.1.areas.length) (fun a => a.2.1.withPeople a.2.2.1 a.2.2.2)
theorem has_building_with_people (T : Txt K mg C CD) (D : DefAt K mg "building_with_people" s_building_with_people) (h_Building : HasC P w K mg base 1 "Building" C P_Building_init (sp_Binit K C)) :
    Has P w K mg base 3 "building_with_people" P_building_with_people (sp_building_with_people C) := by
  refine has_B D sc_building_with_people (fun _ => rfl) (fun _ _ _ _ _ _ us hl => match us, hl with | [_, _, _], _ => rfl) fun f cdv A outer s H E hr => ⟨_, (pss_cons (ps_set (i := 3) sc_building_with_people.nd rfl (Or.inl rfl) (pe_callTy call_list_of (by rfl) T.b_list (by decide +kernel) (pa_cons (pe_fld (pv 0) rfl) pa_nil))) (pss_cons (ps_asg (pv 2) (pg_sub (pv 3) (pv 1) set_list)) (pss_one (ps_ret (pe_mkH h_Building (hr.mono (by decide)) rfl (pa_cons (pv 3) (pa_cons (pe_fld (pv 0) rfl) (pa_cons (pe_fld (pv 0) rfl) pa_nil)))))))), ?_⟩
  rintro ⟨b, n, k, v⟩ H0 Q ⟨⟨pa, ea, la, ts, hN⟩, hk⟩ e q
  replace hN := hN.mono e
  refine s_asgL (el_list (ev_people T.tb hN (ev_var rfl)) (SqL.o hN.ppl)) fun p H1 hp e1 h1 => ?_
  refine s_setL h1 (ev_var rfl) (ev_var rfl) (ev_var (v := .int (k : Int)) rfl) (by unfold pplV; rw [List.length_map]; exact hk) fun H2 e2 => ?_
  have ex := Ex.grow e1 hp e2 (o := .lst ((pplV n.areas).set k (.int v)))
  have hN2 := hN.mono ex
  refine eb_make (C := C) (as := n.areas.modify k fun a => { a with people := v }) (ps := n.passages) (ea_cons (ev_var rfl) (ea_cons (ev_exits T.tb hN2 (ev_var rfl)) (ea_cons (ev_passages T.tb hN2 (ev_var rfl)) ea_nil))) ?_ ?_ (SqL.o hN2.pas) hN2.tup _ (Ex.refl _) Q fun x H3 hx e3 hN3 => ?_
  · rw [← pplV_set]
    exact SqL.o upd_same
  · rw [exV_modify (f := fun a => { a with people := v }) (fun _ => rfl)]
    exact SqL.o hN2.exi
  · refine q x H3 ?_ (ex.trans e3) hN3
    exact fresh_back ex hx
abbrev s_building_with_capacity : Stmt := top 23
abbrev N_building_with_capacity : List Str := ["building", "passage", "capacity", "passages"]
abbrev P_building_with_capacity : List Str := ["building", "passage", "capacity"]
theorem sc_building_with_capacity : FnScope N_building_with_capacity P_building_with_capacity (defScope s_building_with_capacity) := ⟨rfl, rfl, rfl, by decide +kernel, rfl, by decide +kernel, by decide +kernel⟩
def sp_building_with_capacity (C : Addr) : Sp := pureB C (α := Addr × Network × Nat × Nat) (fun a => [.ref a.1, .int a.2.2.1, .int a.2.2.2]) (fun a H => NetAt C H a.1 a.2.1 ∧ a.2.2.1 < a.2.1.passages.length) (fun a => a.2.1.withCapacity a.2.2.1 a.2.2.2)
theorem has_building_with_capacity (T : Txt K mg C CD) (D : DefAt K mg "building_with_capacity" s_building_with_capacity) (h_Building : HasC P w K mg base 1 "Building" C P_Building_init (sp_Binit K C))
    (h_with_capacity : Has P w K mg base 1 "with_capacity" P_with_capacity sp_with_capacity) :
    Has P w K mg base 3 "building_with_capacity" P_building_with_capacity (sp_building_with_capacity C) := by
  refine has_B D sc_building_with_capacity (fun _ => rfl) (fun _ _ _ _ _ _ us hl => match us, hl with | [_, _, _], _ => rfl) fun f cdv A outer s H E hr => ⟨_, (pss_cons (ps_set (i := 3) sc_building_with_capacity.nd rfl (Or.inl rfl) (pe_callTy call_list_of (by rfl) T.b_list (by decide +kernel) (pa_cons (pe_fld (pv 0) rfl) pa_nil))) (pss_cons (ps_asg (pe_callH h_with_capacity (hr.mono (by decide)) rfl (pa_cons (pe_ix ix_list (pv 3) (pv 1) (fun _ _ => rfl)) (pa_cons (pv 2) pa_nil))) (pg_sub (pv 3) (pv 1) set_list)) (pss_one (ps_ret (pe_mkH h_Building (hr.mono (by decide)) rfl (pa_cons (pe_fld (pv 0) rfl) (pa_cons (pe_fld (pv 0) rfl) (pa_cons (pv 3) pa_nil)))))))), ?_⟩
  rintro ⟨b, n, k, v⟩ H0 Q ⟨⟨pa, ea, la, ts, hN⟩, hk⟩ e q
  replace hN := hN.mono e
  obtain ⟨p, hp⟩ : ∃ p, n.passages[k]? = some p := ⟨_, List.getElem?_eq_getElem hk⟩
  obtain ⟨t, ht, hT⟩ := hN.tup.get' hp
  have hkt : k < ts.length := (List.getElem?_eq_some_iff.mp ht).1
  refine s_asgL (el_list (ev_passages T.tb hN (ev_var rfl)) (SqL.o hN.pas)) fun l H1 hl e1 h1 => ?_
  refine s_setU h1 (eu_call (ea_cons (ev_op (ev_var rfl) (ev_var rfl) (rv_ixL (SqL.o h1) (atI_nat (map_at ht)))) (ea_cons (ev_var rfl) ea_nil)) (spU (a := (t, p, v)) (e1 _ _ hT))) (ev_var rfl) (ev_var (v := .int (k : Int)) rfl) (by rw [List.length_map]; exact hkt) fun u H2 hu e2 h2 => ?_
  have ex := Ex.grow e1 hl e2 (o := .lst ((ts.map V.ref).set k (.ref u)))
  have hN2 := hN.mono ex
  have hul : u ≠ l := (ne_of_none h1 hu).symm
  refine eb_make (C := C) (as := n.areas) (ps := n.passages.modify k fun q => { q with capacity := v }) (ts := ts.set k u) (ea_cons (ev_people T.tb hN2 (ev_var rfl)) (ea_cons (ev_exits T.tb hN2 (ev_var rfl)) (ea_cons (ev_var rfl) ea_nil))) (SqL.o hN2.ppl) (SqL.o hN2.exi) ?_ ?_ _ (Ex.refl _) Q fun x H3 hx e3 hN3 => ?_
  · rw [List.map_set]
    exact SqL.o upd_same
  · exact hN2.tup.set hp (by rw [upd_ne hul]; exact h2)
  · refine q x H3 ?_ (ex.trans e3) hN3
    exact fresh_back ex hx
/-- the numbers of the passages that a test takes, as the program gathers them -/
def pick (f : Nat → Bool) (m : Nat) : List Nat := (List.range m).filter f
theorem pick_succ (f : Nat → Bool) (m : Nat) : pick f (m + 1) = if f m then pick f m ++ [m] else pick f m := by
  unfold pick
  rw [List.range_succ, List.filter_append]
  by_cases h : f m = true
  · simp [h]
  · simp [h]
theorem pick_len (f : Nat → Bool) (m : Nat) : (pick f m).length ≤ m := by
  unfold pick
  have := List.length_filter_le f (List.range m)
  simpa using this
abbrev natV (l : List Nat) : List V := l.map fun (k : Nat) => V.int k
abbrev s_outgoing : Stmt := top 24
abbrev N_outgoing : List Str := ["building", "area", "found", "number", "passage"]
abbrev P_outgoing : List Str := ["building", "area"]
theorem sc_outgoing : FnScope N_outgoing P_outgoing (defScope s_outgoing) := ⟨rfl, rfl, rfl, by decide +kernel, rfl, by decide +kernel, by decide +kernel⟩
def sp_outgoing (C : Addr) : Sp := pureL (α := Addr × Network × Nat) (fun a => [.ref a.1, .int a.2.2]) (fun a H => NetAt C H a.1 a.2.1 ∧ WF a.2.1) (fun a => natV (pick (fun k => (a.2.1.passage k).source == a.2.2) a.2.1.passages.length))
theorem passage_at {n : Network} {k : Nat} {p : Passage} (h : n.passages[k]? = some p) : n.passage k = p := by
  unfold Network.passage
  rw [List.getD_eq_getElem?_getD, h]
  rfl
theorem has_outgoing (T : Txt K mg C CD) (D : DefAt K mg "outgoing" s_outgoing) (h_source_of : Has P w K mg base 1 "source_of" P_source_of sp_source_of) :
    Has P w K mg base 2 "outgoing" P_outgoing (sp_outgoing C) := by
  refine has_L D sc_outgoing (fun _ => rfl) (fun _ _ _ _ _ _ us hl => match us, hl with | [_, _], _ => rfl) fun f cdv A outer s H E hr => ⟨_, (pss_cons (ps_set (i := 2) sc_outgoing.nd rfl (Or.inl rfl) (pe_lst pa_nil)) (pss_cons (ps_for PassesOwn.never rfl (pi_enum rfl T.b_enumerate (pa_cons (pe_fld (pv 0) rfl) pa_nil)) (pg_tup rfl (pgs_cons (pg_name (i := 3) sc_outgoing.nd rfl (Or.inl rfl)) (pgs_cons (pg_name (i := 4) sc_outgoing.nd rfl (Or.inl rfl)) pgs_nil))) (pss_one (ps_if (pt_cmpR op_eq (pe_callH h_source_of (hr.mono (by decide)) rfl (pa_cons (pv 4) pa_nil)) (pv 1) (nomark _)) (pss_one (ps_expr (pe_bm PySem.F.plainAttrs_list PySem.F.slot_list_append PySem.F.type_list_append mt_append (pv 2) (pa_cons (pv 3) pa_nil)))) pss_nil))) (pss_one (ps_ret (pv 2))))), ?_⟩
  rintro ⟨b, n, k⟩ H0 Q ⟨⟨pa, ea, la, ts, hN⟩, hW⟩ e q
  replace hN := hN.mono e
  refine s_asgL el_lst0 fun l H1 hl e1 h1 => ?_
  refine s_forE (ev_passages T.tb (hN.mono e1) (ev_var rfl)) (SqL.o (hN.mono e1).pas)
    (fun m σ' H' => ∃ v1 v2, σ' = [some (.ref b), some (.int k), some (.ref l), v1, v2] ∧ Ex H H' ∧ H' l = some (.lst (natV (pick (fun k' => (n.passage k').source == k) m))))
    (fun H2 e2 => ⟨_, _, rfl, e1.trans e2, e2 _ _ h1⟩) (fun m σ' H' ⟨_, _, _, e2, _⟩ => SqL.o (hN.mono e2).pas) ?_ ?_
  · rintro m x σ' H' hm ⟨v1, v2, rfl, e2, h2⟩ H2 e3
    obtain ⟨t, ht, rfl⟩ := iref hm
    obtain ⟨p, hp, hT⟩ := hN.tup.get ht
    refine s_if (et_test (ev_op (ev_call (ea_cons (ev_var rfl) ea_nil) (spV (a := (t, p)) ((e2.trans e3) _ _ hT))) (ev_var (v := .int (k : Int)) rfl) (rv_eq rfl))) (fun hc H3 e4 => ?_) (fun hc H3 e4 => ?_)
    · refine s_app (e4 _ _ (e3 _ _ h2)) (ev_var rfl) (ev_var rfl) ?_ fun H4 e5 => ?_
      · have := pick_len (fun k' => (n.passage k').source == k) m
        have hm2 := (List.getElem?_eq_some_iff.mp ht).1
        have := hW.passages
        have := hN.tup.length
        rw [List.length_map]
        omega
      · refine ⟨_, _, rfl, Ex.grow e2 hl ((e3.trans e4).trans e5), ?_⟩
        rw [pick_succ, if_pos ?_]
        · rw [upd_same]
          unfold natV
          rw [List.map_append]
          rfl
        · rw [passage_at hp]
          have : (p.source : Int) = k := by simpa using hc
          simp
          omega
    · refine ⟨_, _, rfl, (e2.trans e3).trans e4, ?_⟩
      rw [pick_succ, if_neg ?_]
      · exact e4 _ _ (e3 _ _ h2)
      · rw [passage_at hp]
        have : ¬ (p.source : Int) = k := by simpa using hc
        simp
        omega
  · rintro σ' H' ⟨v1, v2, rfl, e2, h2⟩
    have hlen : (ts.map V.ref).length = n.passages.length := by rw [List.length_map, hN.tup.length]
    rw [hlen] at h2
    refine s_ret (ev_var rfl) fun H2 e3 => q l H2 hl (e2.trans e3) (e3 _ _ h2)
end
end Bx
end

section
set_option maxRecDepth 100000
set_option maxHeartbeats 4000000
/-! cuts.py -/
namespace Bx
open PySem PySem.Spec PyProof.Rows L2 Evl
open Kv434 (Area Passage Network Planner)

theorem fmod_nat (a b : Nat) : Int.fmod (a : Int) (b : Int) = ((a % b : Nat) : Int) := by
  rw [Int.fmod_eq_emod_of_nonneg _ (Int.natCast_nonneg b)]
  rfl
theorem fdiv_nat (a b : Nat) : Int.fdiv (a : Int) (b : Int) = ((a / b : Nat) : Int) := by
  rw [Int.fdiv_eq_ediv_of_nonneg _ (Int.natCast_nonneg b)]
  rfl
theorem WF.sr {n : Network} (h : WF n) : Src n := h.src
theorem WF.count {n : Network} (h : WF n) {t : Nat} (ht : t ≤ 5) : cnt t n.areas ≤ 16807 := cnt_small ht h.areas

section
variable {K : PySem.W.Frag} {σ : L2.St} {H : Hp} {ta tb te : TE} {xs : List V}
/-- a value behind a call whose second argument is a new list -/
theorem ev_call2L {sp : Sp} {x z : V} (h1 : Ev ta σ H x) (h2 : EvL tb σ H xs) (hs : ∀ p H1, Ex H H1 → H1 p = some (.lst xs) → SpV sp [x, .ref p] H1 z) : Ev (tCall sp [] E0 (tCons ta (tCons tb tNil))) σ H z := fun H1 e Q q =>
  h1 H1 e _ fun H2 e2 => h2 H2 (e.trans e2) _ fun p H3 hp e3 h3 => hs p H3 ((e.trans e2).trans e3) h3 H3 (Ex.refl _) Q (fun H4 e4 => q H4 ((e2.trans e3).trans e4)) E0
/-- [x, ..] * k -/
theorem el_rep {k : Nat} (h1 : EvL ta σ H xs) (h2 : Ev tb σ H (.int (k : Int))) (hk : k ≤ 1000) (hx : xs.length ≤ 10) : EvL (tOp rRep ta tb) σ H (List.replicate k xs).flatten := fun H1 e Q q =>
  h1 H1 e _ fun p H2 hp e2 h2' => h2 H2 (e.trans e2) _ fun H3 e3 => ⟨p, (k : Int), xs, rfl, rfl, e3 _ _ h2', by omega, by omega, by
    have : xs.length * k ≤ 10 * 1000 := Nat.mul_le_mul hx hk
    show xs.length * (k : Int).toNat ≤ 16777216
    rw [Int.toNat_natCast]
    omega, fun r hr => q r _ (fresh_back (e2.trans e3) hr) ((e2.trans e3).trans (Ex.new hr)) (by rw [upd_same, Int.toNat_natCast])⟩
end

section
variable {P : Program} {w : World} {K : PySem.W.Frag} {mg : Str → Option Value} {base : Heap} {C CD : Addr}
/-! ### cut_count -/
def cntTo (t : Nat) (as : List Area) (m : Nat) : Nat := (as.take m).foldl (fun c a => if a.isExit then c else c * (t + 2)) 1
theorem cntTo_all (t : Nat) (as : List Area) : cntTo t as as.length = cnt t as := by
  unfold cntTo
  rw [List.take_length, cnt_fold, Nat.one_mul]
theorem cntTo_succ {t : Nat} {as : List Area} {m : Nat} {a : Area} (h : as[m]? = some a) : cntTo t as (m + 1) = if a.isExit then cntTo t as m else cntTo t as m * (t + 2) := foldl_take_succ h
abbrev s_cut_count : Stmt := top 37
abbrev N_cut_count : List Str := ["building", "minute", "found", "is_exit"]
abbrev P_cut_count : List Str := ["building", "minute"]
theorem sc_cut_count : FnScope N_cut_count P_cut_count (defScope s_cut_count) := ⟨rfl, rfl, rfl, by decide +kernel, rfl, by decide +kernel, by decide +kernel⟩
def sp_cut_count (C : Addr) : Sp := pureV (α := Addr × Network × Nat) (fun a => [.ref a.1, .int a.2.2]) (fun a H => NetAt C H a.1 a.2.1 ∧ a.2.2 ≤ 5) (fun a => .int (cnt a.2.2 a.2.1.areas : Nat))
theorem has_cut_count (T : Txt K mg C CD) (D : DefAt K mg "cut_count" s_cut_count) : Has P w K mg base 1 "cut_count" P_cut_count (sp_cut_count C) := by
  refine has_V D sc_cut_count (fun _ => rfl) (fun _ _ _ _ _ _ us hl => match us, hl with | [_, _], _ => rfl) fun f cdv A outer s H E hr => ⟨_, (pss_cons (ps_set (i := 2) sc_cut_count.nd rfl (Or.inl rfl) pe_int) (pss_cons (ps_for PassesOwn.never rfl (pi_list (pe_fld (pv 0) rfl)) (pg_name (i := 3) sc_cut_count.nd rfl (Or.inl rfl)) (pss_one (ps_if (pt_cmpR op_eq (pv 3) pe_int (nomark _)) (pss_one (ps_set (i := 2) sc_cut_count.nd rfl (Or.inl rfl) (pe_op op_mul (pv 2) (pe_op op_add (pv 1) pe_int)))) pss_nil))) (pss_one (ps_ret (pv 2))))), ?_⟩
  rintro ⟨b, n, t⟩ H0 Q ⟨⟨pa, ea, la, ts, hN⟩, ht⟩ e q
  replace hN := hN.mono e
  dsimp only at hN ht q
  refine s_asg ev_c fun H1 e1 => ?_
  refine s_forL (ev_exits T.tb (hN.mono e1) (ev_var rfl)) (SqL.o (hN.mono e1).exi) (fun m σ' H' => ∃ v, σ' = [some (.ref b), some (.int t), some (.int (cntTo t n.areas m : Nat)), v] ∧ Ex H H')
    (fun H2 e2 => ⟨_, rfl, e1.trans e2⟩) (fun m σ' H' _ ⟨_, _, e2⟩ => SqL.o (hN.mono e2).exi) ?_ ?_
  · rintro m x σ' H' hm ⟨v, rfl, e2⟩
    obtain ⟨a, ha, rfl⟩ := imap hm
    refine s_if (et_test (ev_op (ev_var rfl) ev_c (rv_eq rfl))) (fun hc H3 e3 => ?_) (fun hc H3 e3 => ?_)
    · have hx : a.isExit = false := by
        cases hh : a.isExit with
        | false => rfl
        | true => rw [hh] at hc; simp [flagI] at hc
      refine s_asg (v := .int (cntTo t n.areas (m + 1) : Nat)) (ev_is (ev_op (ev_var rfl) (ev_op (ev_var rfl) ev_c rv_I0) (rv_I (.inr (by constructor <;> omega)))) ?_) fun H4 e4 => ⟨_, rfl, (e2.trans e3).trans e4⟩
      rw [cntTo_succ ha, if_neg (by rw [hx]; exact Bool.false_ne_true)]
      rfl
    · have hx : a.isExit = true := by
        cases hh : a.isExit with
        | true => rfl
        | false => rw [hh] at hc; simp [flagI] at hc
      have hs : cntTo t n.areas (m + 1) = cntTo t n.areas m := by rw [cntTo_succ ha, if_pos hx]
      refine ⟨?v, ?h, e2.trans e3⟩
      case h =>
        rw [hs]
        rfl
  · rintro σ' H' ⟨v, rfl, e2⟩
    refine s_ret (ev_is (ev_var rfl) ?_) fun H3 e3 => q H3 (e2.trans e3)
    have : (exV n.areas).length = n.areas.length := by simp [exV]
    rw [this, cntTo_all]

/-! ### cut_at -/
abbrev s_cut_at : Stmt := top 38
abbrev N_cut_at : List Str := ["building", "minute", "number", "found", "rest", "is_exit"]
abbrev P_cut_at : List Str := ["building", "minute", "number"]
theorem sc_cut_at : FnScope N_cut_at P_cut_at (defScope s_cut_at) := ⟨rfl, rfl, rfl, by decide +kernel, rfl, by decide +kernel, by decide +kernel⟩
def sp_cut_at (C : Addr) : Sp := pureL (α := Addr × Network × Nat × Nat) (fun a => [.ref a.1, .int a.2.2.1, .int a.2.2.2]) (fun a H => NetAt C H a.1 a.2.1 ∧ a.2.2.1 ≤ 5 ∧ WF a.2.1) (fun a => natV (cutNo a.2.2.1 a.2.1.areas a.2.2.2))
theorem has_cut_at (T : Txt K mg C CD) (D : DefAt K mg "cut_at" s_cut_at) : Has P w K mg base 1 "cut_at" P_cut_at (sp_cut_at C) := by
  refine has_L D sc_cut_at (fun _ => rfl) (fun _ _ _ _ _ _ us hl => match us, hl with | [_, _, _], _ => rfl) fun f cdv A outer s H E hr => ⟨_, (pss_cons (ps_par (i := 3) (j := 4) rfl sc_cut_at.nd rfl rfl (by decide) rfl rfl (pa_cons (pe_lst pa_nil) (pa_cons (pv 2) pa_nil)) (by rfl)) (pss_cons (ps_for PassesOwn.never rfl (pi_reversed rfl T.b_reversed (pa_cons (pe_fld (pv 0) rfl) pa_nil)) (pg_name (i := 5) sc_cut_at.nd rfl (Or.inl rfl)) (pss_one (ps_if (pt_cmpR op_eq (pv 5) pe_int (nomark _)) (pss_one (ps_expr (pe_bm PySem.F.plainAttrs_list PySem.F.slot_list_append PySem.F.type_list_append mt_append (pv 3) (pa_cons (pe_op op_add (pv 1) pe_int) pa_nil)))) (pss_cons (ps_expr (pe_bm PySem.F.plainAttrs_list PySem.F.slot_list_append PySem.F.type_list_append mt_append (pv 3) (pa_cons (pe_op op_modN (pv 4) (pe_op op_add (pv 1) pe_int)) pa_nil))) (pss_one (ps_set (i := 4) sc_cut_at.nd rfl (Or.inl rfl) (pe_op op_fdivN (pv 4) (pe_op op_add (pv 1) pe_int)))))))) (pss_one (ps_ret (pe_revL (pv 3)))))), ?_⟩
  rintro ⟨b, n, t, k⟩ H0 Q ⟨⟨pa, ea, la, ts, hN⟩, ht, hW⟩ e q
  replace hN := hN.mono e
  dsimp only at hN ht q hW
  have hlen : (exV n.areas).length = n.areas.length := by simp [exV]
  refine s_parL el_lst0 (ev_var rfl) fun l H1 hl e1 h1 => ?_
  refine s_forV (ev_exits T.tb (hN.mono e1) (ev_var rfl)) (SqL.o (hN.mono e1).exi)
    (fun m σ' H' => ∃ v, σ' = [some (.ref b), some (.int t), some (.int k), some (.ref l), some (.int ((dig t (n.areas.drop (n.areas.length - m)) k).2 : Nat)), v] ∧ Ex H H' ∧ H' l = some (.lst (natV (dig t (n.areas.drop (n.areas.length - m)) k).1.reverse)))
    (fun H2 e2 => ⟨none, ?_, e1.trans e2, ?_⟩) (fun m σ' H' ⟨_, _, e2, _⟩ => SqL.o (hN.mono e2).exi) ?_ ?_
  · rw [Nat.sub_zero, List.drop_length]
    rfl
  · rw [Nat.sub_zero, List.drop_length]
    exact e2 _ _ h1
  · rintro m x σ' H' hm hmx ⟨v, rfl, e2, h2⟩
    rw [hlen] at hm hmx
    obtain ⟨a, ha, rfl⟩ := imap hmx
    have hd : n.areas.drop (n.areas.length - (m + 1)) = a :: n.areas.drop (n.areas.length - m) := by
      have := drop_cons ha
      rw [show n.areas.length - 1 - m + 1 = n.areas.length - m by omega] at this
      rw [← this]
      congr 1
      omega
    generalize hR : n.areas.drop (n.areas.length - m) = R at hd h2
    have hsz : (natV (dig t R k).1.reverse).length < 100000 := by
      have h3 : (dig t R k).1.length = R.length := cutNo_length t R k
      have h4 : R.length ≤ n.areas.length := by rw [← hR, List.length_drop]; omega
      have := hW.areas
      rw [List.length_map, List.length_reverse]
      omega
    refine s_if (et_test (ev_op (ev_var rfl) ev_c (rv_eq rfl))) (fun hc H3 e3 => ?_) (fun hc H3 e3 => ?_)
    · have hx : a.isExit = true := by
        cases hh : a.isExit with
        | true => rfl
        | false => rw [hh] at hc; simp [flagI] at hc
      have hdig : dig t (a :: R) k = ((t + 1) :: (dig t R k).1, (dig t R k).2) := by
        show (if a.isExit then _ else _) = _
        rw [if_pos hx]
      refine s_app (e3 _ _ h2) (ev_var rfl) (ev_op (ev_var rfl) ev_c rv_I0) hsz fun H4 e4 => ?_
      refine ⟨?v, ?h, Ex.grow e2 hl (e3.trans e4), ?g⟩
      case h =>
        rw [hd, hdig]
        rfl
      case g =>
        rw [upd_same, hd, hdig]
        simp [natV]
    · have hx : a.isExit = false := by
        cases hh : a.isExit with
        | false => rfl
        | true => rw [hh] at hc; simp [flagI] at hc
      have hdig : dig t (a :: R) k = ((dig t R k).2 % (t + 2) :: (dig t R k).1, (dig t R k).2 / (t + 2)) := by
        show (if a.isExit then _ else _) = _
        rw [if_neg (by rw [hx]; exact Bool.false_ne_true)]
      have e2t : (t : Int) + 2 = ((t + 2 : Nat) : Int) := by omega
      refine s_app (v := .int (((dig t R k).2 % (t + 2) : Nat) : Int)) (e3 _ _ h2) (ev_var rfl) (ev_is (ev_op (ev_var rfl) (ev_op (ev_var rfl) ev_c rv_I0) (rv_I (by omega))) ?_) hsz fun H4 e4 => ?_
      · rw [e2t, fmod_nat]
      · refine s_asg (v := .int (((dig t R k).2 / (t + 2) : Nat) : Int)) (ev_is (ev_op (ev_var rfl) (ev_op (ev_var rfl) ev_c rv_I0) (rv_I ⟨by omega, by omega⟩)) ?_) fun H5 e5 => ?_
        · rw [e2t, fdiv_nat]
        refine ⟨?v, ?h, (Ex.grow e2 hl (e3.trans e4)).trans e5, ?g⟩
        case h =>
          rw [hd, hdig]
          rfl
        case g =>
          rw [hd, hdig]
          refine e5 _ _ ?_
          rw [upd_same]
          simp [natV]
  · rintro σ' H' ⟨v, rfl, e2, h2⟩
    rw [hlen, Nat.sub_self, List.drop_zero] at h2
    refine s_retL (el_is (el_rev (ev_var rfl) (SqL.o h2)) ?_) fun p H3 hp e3 h3 => q p H3 (fresh_back e2 hp) (e2.trans e3) h3
    rw [← List.map_reverse, List.reverse_reverse]
    rfl

/-! ### is_cut -/
theorem isCutB_iff (t : Nat) : ∀ (as : List Area) (c : List Nat), c.length = as.length → (isCutB t as c = true ↔ ∀ (m : Nat) (a : Area) (x : Nat), as[m]? = some a → c[m]? = some x → x ≤ t + 1 ∧ (a.isExit = true → x = t + 1))
  | [], [], _ => by simp [isCutB]
  | [], _ :: _, h => by simp at h
  | _ :: _, [], h => by simp at h
  | a :: as, x :: c, h => by
    have ih := isCutB_iff t as c (by simpa using h)
    unfold isCutB
    rw [Bool.and_eq_true, ih]
    constructor
    · rintro ⟨h1, h2⟩ m b y e1 e2
      cases m with
      | zero =>
        simp at e1 e2
        subst e1 e2
        simp at h1
        refine ⟨h1.1, fun hx => ?_⟩
        rcases h1.2 with q | q
        · rw [hx] at q; cases q
        · exact q
      | succ m => exact h2 m b y (by simpa using e1) (by simpa using e2)
    · intro hh
      refine ⟨?_, fun m b y e1 e2 => hh (m + 1) b y (by simpa using e1) (by simpa using e2)⟩
      have := hh 0 a x rfl rfl
      cases hx : a.isExit with
      | true => simp [this.1, this.2 hx]
      | false => simp [this.1]
abbrev s_is_cut : Stmt := top 39
abbrev N_is_cut : List Str := ["building", "minute", "cut", "crossing", "is_exit"]
abbrev P_is_cut : List Str := ["building", "minute", "cut"]
theorem sc_is_cut : FnScope N_is_cut P_is_cut (defScope s_is_cut) := ⟨rfl, rfl, rfl, by decide +kernel, rfl, by decide +kernel, by decide +kernel⟩
def sp_is_cut (K : PySem.W.Frag) (C : Addr) : Sp := pureV (α := Addr × Network × Nat × Addr × List Nat) (fun a => [.ref a.1, .int a.2.2.1, .ref a.2.2.2.1]) (fun a H => NetAt C H a.1 a.2.1 ∧ SqL K H a.2.2.2.1 (natV a.2.2.2.2)) (fun a => .bl (isCutB a.2.2.1 a.2.1.areas a.2.2.2.2))
theorem has_is_cut (T : Txt K mg C CD) (D : DefAt K mg "is_cut" s_is_cut) : Has P w K mg base 1 "is_cut" P_is_cut (sp_is_cut K C) := by
  refine has_V D sc_is_cut (fun _ => rfl) (fun _ _ _ _ _ _ us hl => match us, hl with | [_, _, _], _ => rfl) fun f cdv A outer s H E hr => ⟨_, (pss_cons (ps_if (pt_cmpR op_ne (pe_callB call_len_seq (by rfl) T.b_len PySem.boot_len (pa_cons (pv 2) pa_nil)) (pe_callB call_len_seq (by rfl) T.b_len PySem.boot_len (pa_cons (pe_fld (pv 0) rfl) pa_nil)) (nomark _)) (pss_one (ps_ret pe_bl)) pss_nil) (pss_cons (ps_for PassesOwn.never rfl (pi_zip rfl T.b_zip (pa_cons (pv 2) (pa_cons (pe_fld (pv 0) rfl) pa_nil))) (pg_tup rfl (pgs_cons (pg_name (i := 3) sc_is_cut.nd rfl (Or.inl rfl)) (pgs_cons (pg_name (i := 4) sc_is_cut.nd rfl (Or.inl rfl)) pgs_nil))) (pss_one (ps_if (PW.pt (pw_or (pt_cmpR op_gt (pv 3) (pe_op op_add (pv 1) pe_int) (nomark _)) (pw_or1 (PW.pt (pw_and (pt_cmpR op_eq (pv 4) pe_int (nomark _)) (pw_and1 (pt_cmpR op_ne (pv 3) (pe_op op_add (pv 1) pe_int) (nomark _)))))))) (pss_one (ps_ret pe_bl)) pss_nil))) (pss_one (ps_ret pe_bl)))), ?_⟩
  rintro ⟨b, n, t, ca, c⟩ H0 Q ⟨⟨pa, ea, la, ts, hN⟩, hc⟩ e q
  replace hN := hN.mono e
  replace hc := ex_l e hc
  dsimp only at hN hc q
  have hlen : (exV n.areas).length = n.areas.length := by simp [exV]
  have hlc : (natV c).length = c.length := by simp
  refine s_if (et_test (ev_op (ev_len (ev_var rfl) hc) (ev_len (ev_exits T.tb hN (ev_var rfl)) (SqL.o hN.exi)) (rv_ne rfl))) (fun hb H1 e1 => ?_) (fun hb H1 e1 => ?_)
  · refine s_ret (ev_is ev_c ?_) fun H2 e2 => q H2 (e1.trans e2)
    have hne : ¬ c.length = n.areas.length := by
      rw [hlen, hlc] at hb
      intro q
      rw [q] at hb
      simp at hb
    congr 1
    cases h : isCutB t n.areas c with
    | false => rfl
    | true => exact absurd (isCutB_length h) hne
  · have heq : c.length = n.areas.length := by
      rw [hlen, hlc] at hb
      have : ((c.length : Nat) : Int) = (n.areas.length : Nat) := by simpa using hb
      omega
    refine s_forZ (ev_var rfl) (ev_exits T.tb (hN.mono e1) (ev_var rfl)) (ex_l e1 hc) (SqL.o (hN.mono e1).exi) (by rw [hlen, hlc, heq])
      (fun m σ' H' => (∃ v1 v2, σ' = [some (.ref b), some (.int t), some (.ref ca), v1, v2]) ∧ Ex H H' ∧ ∀ j, j < m → ∀ a x, n.areas[j]? = some a → c[j]? = some x → x ≤ t + 1 ∧ (a.isExit = true → x = t + 1))
      (fun H2 e2 => ⟨⟨_, _, rfl⟩, e1.trans e2, fun j hj => by omega⟩) (fun m σ' H' ⟨_, e2, _⟩ => ⟨ex_l e2 hc, SqL.o (hN.mono e2).exi⟩) ?_ ?_
    · rintro m x y σ' H' hm hm' ⟨⟨v1, v2, rfl⟩, e2, hall⟩ H2 e3
      obtain ⟨z, hz, rfl⟩ := imap hm
      obtain ⟨a, ha, rfl⟩ := imap hm'
      refine s_if (et_or (et_test (ev_op (ev_var rfl) (ev_op (ev_var rfl) ev_c rv_I0) rv_I0)) fun _ => et_and (et_test (ev_op (ev_var rfl) ev_c (rv_eq rfl))) fun _ => et_test (ev_op (ev_var rfl) (ev_op (ev_var rfl) ev_c rv_I0) (rv_ne rfl))) (fun hb2 H3 e4 => ?_) (fun hb2 H3 e4 => ?_)
      · refine s_ret (ev_is ev_c ?_) fun H4 e5 => q H4 (((e2.trans e3).trans e4).trans e5)
        congr 1
        cases h : isCutB t n.areas c with
        | false => rfl
        | true =>
          have hh := (isCutB_iff t n.areas c heq).mp h m a z ha hz
          exfalso
          rw [Bool.or_eq_true, Bool.and_eq_true] at hb2
          rcases hb2 with q1 | ⟨q1, q2⟩
          · simp at q1
            omega
          · have hx : a.isExit = true := by
              cases hx : a.isExit with
              | true => rfl
              | false => rw [hx] at q1; simp [flagI] at q1
            have := hh.2 hx
            subst this
            simp at q2
      · refine ⟨⟨_, _, rfl⟩, (e2.trans e3).trans e4, fun j hj a' x' ha' hx' => ?_⟩
        by_cases hjm : j < m
        · exact hall j hjm a' x' ha' hx'
        · have : j = m := by omega
          subst this
          rw [ha] at ha'
          rw [hz] at hx'
          cases ha'
          cases hx'
          rw [Bool.or_eq_false_iff] at hb2
          obtain ⟨q1, q2⟩ := hb2
          have h1 : z ≤ t + 1 := by
            have : ¬ ((t : Int) + 1 < z) := by simpa using q1
            omega
          refine ⟨h1, fun hx => ?_⟩
          rw [hx] at q2
          simp [flagI] at q2
          omega
    · rintro σ' H' ⟨⟨v1, v2, rfl⟩, e2, hall⟩
      have hv : isCutB t n.areas c = true := (isCutB_iff t n.areas c heq).mpr fun m a x ha hx => hall m (by rw [hlc]; exact (List.getElem?_eq_some_iff.mp hx).1) a x ha hx
      show Q (.bl true) H'
      rw [hv] at q
      exact q H' e2

/-! ### crossings -/
theorem natV_at {c : List Nat} {i : Nat} (h : i < c.length) : (natV c)[i]? = some (.int (c.getD i 0 : Nat)) := by
  rw [List.getElem?_map, List.getElem?_eq_getElem h, List.getD_eq_getElem?_getD, List.getElem?_eq_getElem h]
  rfl
abbrev s_crossings : Stmt := top 40
abbrev N_crossings : List Str := ["passage", "cut"]
abbrev P_crossings : List Str := ["passage", "cut"]
theorem sc_crossings : FnScope N_crossings P_crossings (defScope s_crossings) := ⟨rfl, rfl, rfl, by decide +kernel, rfl, by decide +kernel, by decide +kernel⟩
def sp_crossings (K : PySem.W.Frag) : Sp := pureV (α := Addr × Passage × Addr × List Nat) (fun a => [.ref a.1, .ref a.2.2.1]) (fun a H => H a.1 = some (.tup (tupV a.2.1)) ∧ SqL K H a.2.2.1 (natV a.2.2.2) ∧ a.2.1.source < a.2.2.2.length ∧ a.2.1.target < a.2.2.2.length) (fun a => .int (cross a.2.1 a.2.2.2 : Nat))
theorem has_crossings (T : Txt K mg C CD) (D : DefAt K mg "crossings" s_crossings) (h_target_of : Has P w K mg base 1 "target_of" P_target_of sp_target_of) (h_source_of : Has P w K mg base 1 "source_of" P_source_of sp_source_of)
    (h_travel_time_of : Has P w K mg base 1 "travel_time_of" P_travel_time_of sp_travel_time_of) : Has P w K mg base 2 "crossings" P_crossings (sp_crossings K) := by
  refine has_V D sc_crossings (fun _ => rfl) (fun _ _ _ _ _ _ us hl => match us, hl with | [_, _], _ => rfl) fun f cdv A outer s H E hr => ⟨_, (pss_one (ps_ret (pe_callB (call_max2 rfl) (by rfl) T.b_max (by decide +kernel) (pa_cons pe_int (pa_cons (pe_op op_sub (pe_op op_sub (pe_ix ix_list (pv 1) (pe_callH h_target_of (hr.mono (by decide)) rfl (pa_cons (pv 0) pa_nil)) (fun _ _ => rfl)) (pe_callH h_travel_time_of (hr.mono (by decide)) rfl (pa_cons (pv 0) pa_nil))) (pe_ix ix_list (pv 1) (pe_callH h_source_of (hr.mono (by decide)) rfl (pa_cons (pv 0) pa_nil)) (fun _ _ => rfl))) pa_nil))))), ?_⟩
  rintro ⟨t, p, ca, c⟩ H0 Q ⟨hT, hc, h1, h2⟩ e q
  replace hT := e _ _ hT
  replace hc := ex_l e hc
  dsimp only at hT hc h1 h2 q
  refine s_ret (ev_is (ev_max2 ev_c (ev_op (ev_op (ev_op (ev_var rfl) (ev_call (ea_cons (ev_var rfl) ea_nil) (spV (a := (t, p)) hT)) (rv_ixL hc (atI_nat (natV_at h2)))) (ev_call (ea_cons (ev_var rfl) ea_nil) (spV (a := (t, p)) hT)) rv_I0)
    (ev_op (ev_var rfl) (ev_call (ea_cons (ev_var rfl) ea_nil) (spV (a := (t, p)) hT)) (rv_ixL hc (atI_nat (natV_at h1)))) rv_I0)) ?_) q
  dsimp only [cross]
  congr 1
  split <;> omega

/-! ### people_before, capacity_across, cut_capacity -/
theorem zip_at {as : List Area} {c : List Nat} {m : Nat} {a : Area} {x : Nat} (h1 : as[m]? = some a) (h2 : c[m]? = some x) : (as.zip c)[m]? = some (a, x) := by
  rw [List.getElem?_zip_eq_some]
  exact ⟨h1, h2⟩
def pplTo (as : List Area) (c : List Nat) (m : Nat) : Nat := (((as.zip c).take m).map fun q => if q.2 = 0 then 0 else q.1.people).sum
abbrev s_people_before : Stmt := top 41
abbrev N_people_before : List Str := ["building", "cut", "found", "people", "crossing"]
abbrev P_people_before : List Str := ["building", "cut"]
theorem sc_people_before : FnScope N_people_before P_people_before (defScope s_people_before) := ⟨rfl, rfl, rfl, by decide +kernel, rfl, by decide +kernel, by decide +kernel⟩
def sp_people_before (K : PySem.W.Frag) (C : Addr) : Sp := pureV (α := Addr × Network × Addr × List Nat) (fun a => [.ref a.1, .ref a.2.2.1]) (fun a H => NetAt C H a.1 a.2.1 ∧ SqL K H a.2.2.1 (natV a.2.2.2) ∧ a.2.2.2.length = a.2.1.areas.length) (fun a => .int (peopleB a.2.1.areas a.2.2.2 : Nat))
theorem has_people_before (T : Txt K mg C CD) (D : DefAt K mg "people_before" s_people_before) : Has P w K mg base 1 "people_before" P_people_before (sp_people_before K C) := by
  refine has_V D sc_people_before (fun _ => rfl) (fun _ _ _ _ _ _ us hl => match us, hl with | [_, _], _ => rfl) fun f cdv A outer s H E hr => ⟨_, (pss_cons (ps_set (i := 2) sc_people_before.nd rfl (Or.inl rfl) pe_int) (pss_cons (ps_for PassesOwn.never rfl (pi_zip rfl T.b_zip (pa_cons (pe_fld (pv 0) rfl) (pa_cons (pv 1) pa_nil))) (pg_tup rfl (pgs_cons (pg_name (i := 3) sc_people_before.nd rfl (Or.inl rfl)) (pgs_cons (pg_name (i := 4) sc_people_before.nd rfl (Or.inl rfl)) pgs_nil))) (pss_one (ps_if (pt_cmpR op_gt (pv 4) pe_int (nomark _)) (pss_one (ps_set (i := 2) sc_people_before.nd rfl (Or.inl rfl) (pe_op op_add (pv 2) (pv 3)))) pss_nil))) (pss_one (ps_ret (pv 2))))), ?_⟩
  rintro ⟨b, n, ca, c⟩ H0 Q ⟨⟨pa, ea, la, ts, hN⟩, hc, hl⟩ e q
  replace hN := hN.mono e
  replace hc := ex_l e hc
  dsimp only at hN hc hl q
  have hlen : (pplV n.areas).length = n.areas.length := by simp [pplV]
  refine s_asg ev_c fun H1 e1 => ?_
  refine s_forZ (ev_people T.tb (hN.mono e1) (ev_var rfl)) (ev_var rfl) (SqL.o (hN.mono e1).ppl) (ex_l e1 hc) (by simp [pplV, hl])
    (fun m σ' H' => ∃ v1 v2, σ' = [some (.ref b), some (.ref ca), some (.int (pplTo n.areas c m : Nat)), v1, v2] ∧ Ex H H') (fun H2 e2 => ⟨_, _, rfl, e1.trans e2⟩) (fun m σ' H' ⟨_, _, _, e2⟩ => ⟨SqL.o (hN.mono e2).ppl, ex_l e2 hc⟩) ?_ ?_
  · rintro m x y σ' H' hm hm' ⟨v1, v2, rfl, e2⟩ H2 e3
    obtain ⟨a, ha, rfl⟩ := imap hm
    obtain ⟨z, hz, rfl⟩ := imap hm'
    have hs : pplTo n.areas c (m + 1) = pplTo n.areas c m + if z = 0 then 0 else a.people := sum_take_succ (zip_at ha hz)
    refine s_if (et_test (ev_op (ev_var rfl) ev_c rv_I0)) (fun hb H3 e4 => ?_) (fun hb H3 e4 => ?_)
    · have hz0 : ¬ z = 0 := by
        have : (0 : Int) < z := by simpa using hb
        omega
      refine s_asg (v := .int (pplTo n.areas c (m + 1) : Nat)) (ev_is (ev_op (ev_var rfl) (ev_var rfl) rv_I0) ?_) fun H4 e5 => ⟨_, _, rfl, ((e2.trans e3).trans e4).trans e5⟩
      rw [hs, if_neg hz0]
      rfl
    · have hz0 : z = 0 := by
        have : ¬ (0 : Int) < z := by simpa using hb
        omega
      refine ⟨?v, ?u, ?h, (e2.trans e3).trans e4⟩
      case h =>
        rw [hs, if_pos hz0]
        rfl
  · rintro σ' H' ⟨v1, v2, rfl, e2⟩
    refine s_ret (ev_is (ev_var rfl) ?_) fun H3 e3 => q H3 (e2.trans e3)
    congr 2
    unfold pplTo peopleB
    rw [hlen, List.take_of_length_le (by rw [List.length_zip]; omega)]
def accTo (n : Network) (c : List Nat) (m : Nat) : Nat := ((n.passages.take m).map fun p => p.capacity * cross p c).sum
abbrev s_capacity_across : Stmt := top 42
abbrev N_capacity_across : List Str := ["building", "cut", "found", "passage"]
abbrev P_capacity_across : List Str := ["building", "cut"]
theorem sc_capacity_across : FnScope N_capacity_across P_capacity_across (defScope s_capacity_across) := ⟨rfl, rfl, rfl, by decide +kernel, rfl, by decide +kernel, by decide +kernel⟩
def sp_capacity_across (K : PySem.W.Frag) (C : Addr) : Sp := pureV (α := Addr × Network × Addr × List Nat) (fun a => [.ref a.1, .ref a.2.2.1]) (fun a H => NetAt C H a.1 a.2.1 ∧ SqL K H a.2.2.1 (natV a.2.2.2) ∧ a.2.2.2.length = a.2.1.areas.length ∧ WF a.2.1) (fun a => .int (acrossB a.2.1.passages a.2.2.2 : Nat))
theorem has_capacity_across (T : Txt K mg C CD) (D : DefAt K mg "capacity_across" s_capacity_across) (h_capacity_of : Has P w K mg base 1 "capacity_of" P_capacity_of sp_capacity_of)
    (h_crossings : Has P w K mg base 2 "crossings" P_crossings (sp_crossings K)) : Has P w K mg base 3 "capacity_across" P_capacity_across (sp_capacity_across K C) := by
  refine has_V D sc_capacity_across (fun _ => rfl) (fun _ _ _ _ _ _ us hl => match us, hl with | [_, _], _ => rfl) fun f cdv A outer s H E hr => ⟨_, (pss_cons (ps_set (i := 2) sc_capacity_across.nd rfl (Or.inl rfl) pe_int) (pss_cons (ps_for PassesOwn.never rfl (pi_list (pe_fld (pv 0) rfl)) (pg_name (i := 3) sc_capacity_across.nd rfl (Or.inl rfl)) (pss_one (ps_set (i := 2) sc_capacity_across.nd rfl (Or.inl rfl) (pe_op op_add (pv 2) (pe_op op_mul (pe_callH h_capacity_of (hr.mono (by decide)) rfl (pa_cons (pv 3) pa_nil)) (pe_callH h_crossings (hr.mono (by decide)) rfl (pa_cons (pv 3) (pa_cons (pv 1) pa_nil)))))))) (pss_one (ps_ret (pv 2))))), ?_⟩
  rintro ⟨b, n, ca, c⟩ H0 Q ⟨⟨pa, ea, la, ts, hN⟩, hc, hl, hW⟩ e q
  replace hN := hN.mono e
  replace hc := ex_l e hc
  dsimp only at hN hc hl q hW
  refine s_asg ev_c fun H1 e1 => ?_
  refine s_forL (ev_passages T.tb (hN.mono e1) (ev_var rfl)) (SqL.o (hN.mono e1).pas) (fun m σ' H' => ∃ v1, σ' = [some (.ref b), some (.ref ca), some (.int (accTo n c m : Nat)), v1] ∧ Ex H H') (fun H2 e2 => ⟨_, rfl, e1.trans e2⟩) (fun m σ' H' _ ⟨_, _, e2⟩ => SqL.o (hN.mono e2).pas) ?_ ?_
  · rintro m x σ' H' hm ⟨v1, rfl, e2⟩
    obtain ⟨t, ht, rfl⟩ := iref hm
    obtain ⟨p, hp, hT⟩ := hN.tup.get ht
    have hm' := List.mem_of_getElem? hp
    have h9 := hW.cap9 p hm'
    refine s_asg (v := .int (accTo n c (m + 1) : Nat)) (ev_is (ev_op (ev_var rfl) (ev_op (ev_call (ea_cons (ev_var rfl) ea_nil) (spV (a := (t, p)) (e2 _ _ hT))) (ev_call (ea_cons (ev_var rfl) (ea_cons (ev_var rfl) ea_nil)) (spV (a := (t, p, ca, c)) ⟨e2 _ _ hT, ex_l e2 hc, by rw [hl]; exact hW.src p hm', by rw [hl]; exact hW.tgt p hm'⟩))
      (rv_I (.inl (by dsimp only; constructor <;> omega)))) rv_I0) ?_) fun H3 e3 => ⟨_, rfl, e2.trans e3⟩
    have hs : accTo n c (m + 1) = accTo n c m + p.capacity * cross p c := sum_take_succ hp
    rw [hs]
    dsimp only
    rw [Int.natCast_add, Int.natCast_mul]
  · rintro σ' H' ⟨v1, rfl, e2⟩
    refine s_ret (ev_is (ev_var rfl) ?_) fun H3 e3 => q H3 (e2.trans e3)
    congr 2
    unfold accTo acrossB
    rw [List.length_map, hN.tup.length, List.take_length]
abbrev s_cut_capacity : Stmt := top 43
abbrev N_cut_capacity : List Str := ["building", "cut"]
abbrev P_cut_capacity : List Str := ["building", "cut"]
theorem sc_cut_capacity : FnScope N_cut_capacity P_cut_capacity (defScope s_cut_capacity) := ⟨rfl, rfl, rfl, by decide +kernel, rfl, by decide +kernel, by decide +kernel⟩
def sp_cut_capacity (K : PySem.W.Frag) (C : Addr) : Sp := pureV (α := Addr × Network × Addr × List Nat) (fun a => [.ref a.1, .ref a.2.2.1]) (fun a H => NetAt C H a.1 a.2.1 ∧ SqL K H a.2.2.1 (natV a.2.2.2) ∧ a.2.2.2.length = a.2.1.areas.length ∧ WF a.2.1) (fun a => .int (capF a.2.1 a.2.2.2 : Nat))
theorem has_cut_capacity (T : Txt K mg C CD) (D : DefAt K mg "cut_capacity" s_cut_capacity) (h_people_before : Has P w K mg base 1 "people_before" P_people_before (sp_people_before K C))
    (h_capacity_across : Has P w K mg base 3 "capacity_across" P_capacity_across (sp_capacity_across K C)) : Has P w K mg base 4 "cut_capacity" P_cut_capacity (sp_cut_capacity K C) := by
  refine has_V D sc_cut_capacity (fun _ => rfl) (fun _ _ _ _ _ _ us hl => match us, hl with | [_, _], _ => rfl) fun f cdv A outer s H E hr => ⟨_, (pss_one (ps_ret (pe_op op_add (pe_callH h_people_before (hr.mono (by decide)) rfl (pa_cons (pv 0) (pa_cons (pv 1) pa_nil))) (pe_callH h_capacity_across (hr.mono (by decide)) rfl (pa_cons (pv 0) (pa_cons (pv 1) pa_nil)))))), ?_⟩
  rintro ⟨b, n, ca, c⟩ H0 Q ⟨hN, hc, hl, hW⟩ e q
  replace hN := hN.mono e
  replace hc := ex_l e hc
  refine s_ret (ev_is (ev_op (ev_call (ea_cons (ev_var rfl) (ea_cons (ev_var rfl) ea_nil)) (spV (a := (b, n, ca, c)) ⟨hN, hc, hl⟩)) (ev_call (ea_cons (ev_var rfl) (ea_cons (ev_var rfl) ea_nil)) (spV (a := (b, n, ca, c)) ⟨hN, hc, hl, hW⟩)) rv_I0) ?_) q
  rfl

/-! ### smallest_cut -/
abbrev s_smallest_cut : Stmt := top 44
abbrev N_smallest_cut : List Str := ["building", "minute", "best", "least", "number", "cut", "capacity"]
abbrev P_smallest_cut : List Str := ["building", "minute"]
theorem sc_smallest_cut : FnScope N_smallest_cut P_smallest_cut (defScope s_smallest_cut) := ⟨rfl, rfl, rfl, by decide +kernel, rfl, by decide +kernel, by decide +kernel⟩
def sp_smallest_cut (C : Addr) : Sp := pureL (α := Addr × Network × Nat) (fun a => [.ref a.1, .int a.2.2]) (fun a H => NetAt C H a.1 a.2.1 ∧ WF a.2.1 ∧ a.2.2 ≤ 5 ∧ a.2.1.hasExit = true) (fun a => natV (a.2.1.minCut a.2.2))
theorem scan_len (n : Network) (t m : Nat) : (scan n t m).2.length = n.areas.length := by
  unfold scan
  have aux : ∀ (l : List (List Nat)) (b : Nat × List Nat), (∀ c ∈ l, c.length = n.areas.length) → b.2.length = n.areas.length → (l.foldl (stepB n) b).2.length = n.areas.length := by
    intro l
    induction l with
    | nil => intro b _ h; exact h
    | cons x l ih =>
      intro b hl h
      rw [List.foldl_cons]
      refine ih _ (fun c hc => hl c (List.mem_cons_of_mem _ hc)) ?_
      unfold stepB
      split
      · exact hl x List.mem_cons_self
      · exact h
  refine aux _ _ (fun c hc => ?_) (cutNo_length t n.areas 0)
  exact isCutB_length ((mem_cutsL t n.areas c).mp (List.mem_of_mem_drop (List.mem_of_mem_take hc)))
theorem has_smallest_cut (T : Txt K mg C CD) (D : DefAt K mg "smallest_cut" s_smallest_cut) (h_cut_at : Has P w K mg base 1 "cut_at" P_cut_at (sp_cut_at C)) (h_cut_capacity : Has P w K mg base 4 "cut_capacity" P_cut_capacity (sp_cut_capacity K C))
    (h_cut_count : Has P w K mg base 1 "cut_count" P_cut_count (sp_cut_count C)) : Has P w K mg base 5 "smallest_cut" P_smallest_cut (sp_smallest_cut C) := by
  refine has_L D sc_smallest_cut (fun _ => rfl) (fun _ _ _ _ _ _ us hl => match us, hl with | [_, _], _ => rfl) fun f cdv A outer s H E hr => ⟨_, (pss_cons (ps_set (i := 2) sc_smallest_cut.nd rfl (Or.inl rfl) (pe_callH h_cut_at (hr.mono (by decide)) rfl (pa_cons (pv 0) (pa_cons (pv 1) (pa_cons pe_int pa_nil))))) (pss_cons (ps_set (i := 3) sc_smallest_cut.nd rfl (Or.inl rfl) (pe_callH h_cut_capacity (hr.mono (by decide)) rfl (pa_cons (pv 0) (pa_cons (pv 2) pa_nil)))) (pss_cons (ps_for PassesOwn.never rfl (pi_range2 rfl T.b_range (pa_cons pe_int (pa_cons (pe_callH h_cut_count (hr.mono (by decide)) rfl (pa_cons (pv 0) (pa_cons (pv 1) pa_nil))) pa_nil))) (pg_name (i := 4) sc_smallest_cut.nd rfl (Or.inl rfl)) (pss_cons (ps_set (i := 5) sc_smallest_cut.nd rfl (Or.inl rfl) (pe_callH h_cut_at (hr.mono (by decide)) rfl (pa_cons (pv 0) (pa_cons (pv 1) (pa_cons (pv 4) pa_nil))))) (pss_cons (ps_set (i := 6) sc_smallest_cut.nd rfl (Or.inl rfl) (pe_callH h_cut_capacity (hr.mono (by decide)) rfl (pa_cons (pv 0) (pa_cons (pv 5) pa_nil)))) (pss_one (ps_if (pt_cmpR op_lt (pv 6) (pv 3) (nomark _)) (pss_one (ps_par (i := 2) (j := 3) rfl sc_smallest_cut.nd rfl rfl (by decide) rfl rfl (pa_cons (pv 5) (pa_cons (pv 6) pa_nil)) (by rfl))) pss_nil))))) (pss_one (ps_ret (pv 2)))))), ?_⟩
  rintro ⟨b, n, t⟩ H0 Q ⟨hN, hW, ht, hx⟩ e q
  replace hN := hN.mono e
  dsimp only at hN hW ht hx q
  have hcnt := hW.count ht
  have hpos := cnt_pos t n.areas
  refine s_asgL (el_call (ea_cons (ev_var rfl) (ea_cons (ev_var rfl) (ea_cons ev_c ea_nil))) (spL (a := (b, n, t, 0)) ⟨hN, ht, hW⟩)) fun p0 H1 hp0 e1 h1 => ?_
  refine s_asg (ev_call (ea_cons (ev_var rfl) (ea_cons (ev_var rfl) ea_nil)) (spV (a := (b, n, p0, cutNo t n.areas 0)) ⟨hN.mono e1, SqL.o h1, cutNo_length t n.areas 0, hW⟩)) fun H2 e2 => ?_
  have e12 := e1.trans e2
  refine s_forR2 (lo := 1) (n := (cnt t n.areas : Nat)) (ea_cons ev_c (ea_cons (ev_call (ea_cons (ev_var rfl) (ea_cons (ev_var rfl) ea_nil)) (spV (a := (b, n, t)) ⟨hN.mono e12, ht⟩)) ea_nil)) (by omega)
    (fun m σ' H' => ∃ pb v1 v2 v3, σ' = [some (.ref b), some (.int t), some (.ref pb), some (.int ((scan n t m).1 : Nat)), v1, v2, v3] ∧ Ex H H' ∧ H pb = none ∧ H' pb = some (.lst (natV (scan n t m).2)))
    (fun H3 e3 => ⟨p0, _, _, _, rfl, e12.trans e3, hp0, e3 _ _ (e2 _ _ h1)⟩) ?_ ?_
  · rintro m σ' H' hm ⟨pb, v1, v2, v3, rfl, e3, hpb, h3⟩
    have hm' : m + 1 < cnt t n.areas := by omega
    have hval : V.int (1 + (m : Int)) = V.int ((m + 1 : Nat) : Int) := by congr 1; omega
    refine s_asgL (el_call (ea_cons (ev_var rfl) (ea_cons (ev_var rfl) (ea_cons (ev_is (ev_var rfl) hval) ea_nil))) (spL (a := (b, n, t, m + 1)) ⟨hN.mono e3, ht, hW⟩)) fun pc H4 hpc e4 h4 => ?_
    refine s_asg (ev_call (ea_cons (ev_var rfl) (ea_cons (ev_var rfl) ea_nil)) (spV (a := (b, n, pc, cutNo t n.areas (m + 1))) ⟨hN.mono (e3.trans e4), SqL.o h4, cutNo_length t n.areas (m + 1), hW⟩)) fun H5 e5 => ?_
    have hst := scan_succ hm'
    refine s_if (et_test (ev_op (ev_var rfl) (ev_var rfl) rv_I0)) (fun hb H6 e6 => ?_) (fun hb H6 e6 => ?_)
    · have hlt : capF n (cutNo t n.areas (m + 1)) < (scan n t m).1 := by
        have : ((capF n (cutNo t n.areas (m + 1)) : Nat) : Int) < ((scan n t m).1 : Nat) := by simpa using hb
        omega
      have hst2 : scan n t (m + 1) = (capF n (cutNo t n.areas (m + 1)), cutNo t n.areas (m + 1)) := by
        rw [hst]
        exact if_pos hlt
      refine s_par (ev_var rfl) (ev_var rfl) fun H7 e7 => ?_
      refine ⟨pc, ?v1, ?v2, ?v3, ?h, (((e3.trans e4).trans e5).trans e6).trans e7, fresh_back e3 hpc, ?g⟩
      case h =>
        rw [hst2]
        rfl
      case g =>
        rw [hst2]
        exact e7 _ _ (e6 _ _ (e5 _ _ h4))
    · have hlt : ¬ capF n (cutNo t n.areas (m + 1)) < (scan n t m).1 := by
        have : ¬ ((capF n (cutNo t n.areas (m + 1)) : Nat) : Int) < ((scan n t m).1 : Nat) := by simpa using hb
        omega
      have hst2 : scan n t (m + 1) = scan n t m := by
        rw [hst]
        exact if_neg hlt
      refine ⟨pb, ?v1, ?v2, ?v3, ?h, ((e3.trans e4).trans e5).trans e6, hpb, ?g⟩
      case h =>
        rw [hst2]
        rfl
      case g =>
        rw [hst2]
        exact e6 _ _ (e5 _ _ (e4 _ _ h3))
  · rintro σ' H' ⟨pb, v1, v2, v3, rfl, e3, hpb, h3⟩
    have hn : (((cnt t n.areas : Nat) : Int) - 1).toNat = cnt t n.areas - 1 := by omega
    rw [hn, scan_all n t hx] at h3
    exact s_ret (ev_var rfl) fun H4 e4 => q pb H4 hpb (e3.trans e4) (e4 _ _ h3)
end
end Bx
end

section
set_option maxRecDepth 100000
set_option maxHeartbeats 4000000
/-! evacuations.py -/
namespace Bx
open PySem PySem.Spec PyProof.Rows L2 Evl
open Kv434 (Area Passage Network Planner)

theorem mem_modify {α : Type} {f : α → α} {p : α → Prop} (hf : ∀ a, p a → p (f a)) : ∀ {l : List α} {i : Nat}, (∀ a ∈ l, p a) → ∀ a ∈ l.modify i f, p a
  | [], i, _, a, ha => by simp at ha
  | b :: l, 0, h, a, ha => by
    rw [List.modify_zero_cons] at ha
    rcases List.mem_cons.mp ha with e | e
    · rw [e]; exact hf b (h b List.mem_cons_self)
    · exact h a (List.mem_cons_of_mem _ e)
  | b :: l, i + 1, h, a, ha => by
    rw [List.modify_succ_cons] at ha
    rcases List.mem_cons.mp ha with e | e
    · rw [e]; exact h b List.mem_cons_self
    · exact mem_modify hf (fun x hx => h x (List.mem_cons_of_mem _ hx)) a e
theorem WF.withPeople {n : Network} (h : WF n) (i : Nat) {v : Nat} (hv : v ≤ 20) : WF (n.withPeople i v) where
  areas := by rw [withPeople_areas, List.length_modify]; exact h.areas
  passages := h.passages
  people := mem_modify (p := fun (a : Area) => a.people ≤ 20) (fun a _ => hv) h.people
  src := fun p hp => by rw [withPeople_areas, List.length_modify]; exact h.src p hp
  tgt := fun p hp => by rw [withPeople_areas, List.length_modify]; exact h.tgt p hp
  cap1 := h.cap1
  cap9 := h.cap9
  tt1 := h.tt1
  tt3 := h.tt3
theorem WF.withCapacity {n : Network} (h : WF n) (k : Nat) {v : Nat} (h1 : 1 ≤ v) (h9 : v ≤ 9) : WF (n.withCapacity k v) where
  areas := h.areas
  passages := by
    show (n.passages.modify k _).length ≤ 8
    rw [List.length_modify]
    exact h.passages
  people := h.people
  src := mem_modify (f := fun (p : Passage) => { p with capacity := v }) (p := fun (p : Passage) => p.source < n.areas.length) (fun _ q => q) h.src
  tgt := mem_modify (f := fun (p : Passage) => { p with capacity := v }) (p := fun (p : Passage) => p.target < n.areas.length) (fun _ q => q) h.tgt
  cap1 := mem_modify (f := fun (p : Passage) => { p with capacity := v }) (p := fun (p : Passage) => 1 ≤ p.capacity) (fun _ _ => h1) h.cap1
  cap9 := mem_modify (f := fun (p : Passage) => { p with capacity := v }) (p := fun (p : Passage) => p.capacity ≤ 9) (fun _ _ => h9) h.cap9
  tt1 := mem_modify (f := fun (p : Passage) => { p with capacity := v }) (p := fun (p : Passage) => 1 ≤ p.travelTime) (fun _ q => q) h.tt1
  tt3 := mem_modify (f := fun (p : Passage) => { p with capacity := v }) (p := fun (p : Passage) => p.travelTime ≤ 3) (fun _ q => q) h.tt3

section
variable {P : Program} {w : World} {K : PySem.W.Frag} {mg : Str → Option Value} {base : Heap} {C CD : Addr}
/-- name = a new building -/
theorem s_asgB {σ : L2.St} {H : Hp} {te : TE} {D : Ends} {i : Nat} {n : Network} (h : EvB C te σ H n) (k : ∀ p H1, H p = none → Ex H H1 → NetAt C H1 p n → D.nx (σ.set i (some (.ref p))) H1) : tAsg te (gName i) D σ H := h H (Ex.refl H) _ fun p H1 hp e h1 => k p H1 hp e h1
theorem ev_call4L {σ : L2.St} {H : Hp} {ta tb tc td : TE} {xs : List V} {sp : Sp} {x y u z : V} (h1 : Ev ta σ H x) (h2 : EvL tb σ H xs) (h3 : Ev tc σ H y) (h4 : Ev td σ H u) (hs : ∀ p H1, Ex H H1 → H1 p = some (.lst xs) → SpV sp [x, .ref p, y, u] H1 z) :
    Ev (tCall sp [] E0 (tCons ta (tCons tb (tCons tc (tCons td tNil))))) σ H z := fun H1 e Q q =>
  h1 H1 e _ fun H2 e2 => h2 H2 (e.trans e2) _ fun p H3 hp e3 hl => h3 H3 ((e.trans e2).trans e3) _ fun H4 e4 => h4 H4 (((e.trans e2).trans e3).trans e4) _ fun H5 e5 =>
    hs p H5 ((((e.trans e2).trans e3).trans e4).trans e5) (e5 _ _ (e4 _ _ hl)) H5 (Ex.refl _) Q (fun H6 e6 => q H6 ((((e2.trans e3).trans e4).trans e5).trans e6)) E0
abbrev s_min_cut : Stmt := top 47
abbrev N_min_cut : List Str := ["building", "minute"]
abbrev P_min_cut : List Str := ["building", "minute"]
theorem sc_min_cut : FnScope N_min_cut P_min_cut (defScope s_min_cut) := ⟨rfl, rfl, rfl, by decide +kernel, rfl, by decide +kernel, by decide +kernel⟩
def sp_min_cut (C : Addr) : Sp := pureL (α := Addr × Network × Nat) (fun a => [.ref a.1, .int a.2.2]) (fun a H => NetAt C H a.1 a.2.1 ∧ WF a.2.1 ∧ a.2.2 ≤ 5) (fun a => natV (a.2.1.minCut a.2.2))
theorem zeros_eq (n : Network) : (List.replicate n.areas.length [V.int 0]).flatten = natV (n.areas.map fun _ => 0) := by
  unfold natV
  rw [List.map_map]
  generalize n.areas = as
  induction as with
  | nil => rfl
  | cons a as ih =>
    rw [List.length_cons, List.replicate_succ, List.flatten_cons, ih, List.map_cons]
    rfl
theorem has_min_cut (T : Txt K mg C CD) (D : DefAt K mg "min_cut" s_min_cut) (h_smallest_cut : Has P w K mg base 5 "smallest_cut" P_smallest_cut (sp_smallest_cut C)) (h_has_exits : Has P w K mg base 1 "has_exits" P_has_exits (sp_has_exits C))
    (h_area_count : Has P w K mg base 1 "area_count" P_area_count (sp_area_count C)) : Has P w K mg base 6 "min_cut" P_min_cut (sp_min_cut C) := by
  refine has_L D sc_min_cut (fun _ => rfl) (fun _ _ _ _ _ _ us hl => match us, hl with | [_, _], _ => rfl) fun f cdv A outer s H E hr => ⟨_, (pss_cons (ps_if (pt_not (pt_val (pe_callH h_has_exits (hr.mono (by decide)) rfl (pa_cons (pv 0) pa_nil)))) (pss_one (ps_ret (pe_op op_rep (pe_lst (pa_cons pe_int pa_nil)) (pe_callH h_area_count (hr.mono (by decide)) rfl (pa_cons (pv 0) pa_nil))))) pss_nil) (pss_one (ps_ret (pe_callH h_smallest_cut (hr.mono (by decide)) rfl (pa_cons (pv 0) (pa_cons (pv 1) pa_nil)))))), ?_⟩
  rintro ⟨b, n, t⟩ H0 Q ⟨hN, hW, ht⟩ e q
  replace hN := hN.mono e
  dsimp only at hN hW ht q
  refine s_if (et_not (et_B (ev_call (ea_cons (ev_var rfl) ea_nil) (spV (a := (b, n)) hN)))) (fun hb H1 e1 => ?_) (fun hb H1 e1 => ?_)
  · have hx : n.hasExit = false := by simpa using hb
    have := hW.areas
    refine s_retL (el_is (el_rep (k := n.areas.length) (el_lst1 ev_c) (ev_call (ea_cons (ev_var rfl) ea_nil) (spV (a := (b, n)) (hN.mono e1))) (by omega) (by show 1 ≤ 10; decide)) ?_) fun p H2 hp e2 h2 => q p H2 (fresh_back e1 hp) (e1.trans e2) h2
    rw [zeros_eq, minCut_none hx]
  · have hx : n.hasExit = true := by simpa using hb
    exact s_retL (el_call (ea_cons (ev_var rfl) (ea_cons (ev_var rfl) ea_nil)) (spL (a := (b, n, t)) ⟨hN.mono e1, hW, ht, hx⟩)) fun p H2 hp e2 h2 => q p H2 (fresh_back e1 hp) (e1.trans e2) h2
abbrev s_max_evacuated : Stmt := top 48
abbrev N_max_evacuated : List Str := ["building", "minute"]
abbrev P_max_evacuated : List Str := ["building", "minute"]
theorem sc_max_evacuated : FnScope N_max_evacuated P_max_evacuated (defScope s_max_evacuated) := ⟨rfl, rfl, rfl, by decide +kernel, rfl, by decide +kernel, by decide +kernel⟩
def sp_max_evacuated (C : Addr) : Sp := pureV (α := Addr × Network × Nat) (fun a => [.ref a.1, .int a.2.2]) (fun a H => NetAt C H a.1 a.2.1 ∧ WF a.2.1 ∧ a.2.2 ≤ 5) (fun a => .int (a.2.1.maxEvacuated a.2.2 : Nat))
theorem has_max_evacuated (T : Txt K mg C CD) (D : DefAt K mg "max_evacuated" s_max_evacuated) (h_cut_capacity : Has P w K mg base 4 "cut_capacity" P_cut_capacity (sp_cut_capacity K C)) (h_min_cut : Has P w K mg base 6 "min_cut" P_min_cut (sp_min_cut C)) :
    Has P w K mg base 7 "max_evacuated" P_max_evacuated (sp_max_evacuated C) := by
  refine has_V D sc_max_evacuated (fun _ => rfl) (fun _ _ _ _ _ _ us hl => match us, hl with | [_, _], _ => rfl) fun f cdv A outer s H E hr => ⟨_, (pss_one (ps_ret (pe_callH h_cut_capacity (hr.mono (by decide)) rfl (pa_cons (pv 0) (pa_cons (pe_callH h_min_cut (hr.mono (by decide)) rfl (pa_cons (pv 0) (pa_cons (pv 1) pa_nil))) pa_nil))))), ?_⟩
  rintro ⟨b, n, t⟩ H0 Q ⟨hN, hW, ht⟩ e q
  replace hN := hN.mono e
  dsimp only at hN hW ht q
  refine s_ret (ev_is (ev_call2L (z := .int (capF n (n.minCut t) : Nat)) (ev_var rfl) (el_call (ea_cons (ev_var rfl) (ea_cons (ev_var rfl) ea_nil)) (spL (a := (b, n, t)) ⟨hN, hW, ht⟩)) fun p H1 e1 h1 => spV (a := (b, n, p, n.minCut t)) ⟨hN.mono e1, SqL.o h1, minCut_length n t, hW⟩) ?_) q
  rw [max_eq]
abbrev s_earliest : Stmt := top 49
abbrev N_earliest : List Str := ["building", "total", "minute"]
abbrev P_earliest : List Str := ["building"]
theorem sc_earliest : FnScope N_earliest P_earliest (defScope s_earliest) := ⟨rfl, rfl, rfl, by decide +kernel, rfl, by decide +kernel, by decide +kernel⟩
def sp_earliest (C : Addr) : Sp := pureV (α := Addr × Network) (fun a => [.ref a.1]) (fun a H => NetAt C H a.1 a.2 ∧ WF a.2) (fun a => .int (earlyF a.2))
theorem has_earliest (T : Txt K mg C CD) (D : DefAt K mg "earliest" s_earliest) (h_total_people : Has P w K mg base 1 "total_people" P_total_people (sp_total_people C)) (h_max_evacuated : Has P w K mg base 7 "max_evacuated" P_max_evacuated (sp_max_evacuated C)) :
    Has P w K mg base 8 "earliest" P_earliest (sp_earliest C) := by
  refine has_V D sc_earliest (fun _ => rfl) (fun _ _ _ _ _ _ us hl => match us, hl with | [_], _ => rfl) fun f cdv A outer s H E hr => ⟨_, (pss_cons (ps_set (i := 1) sc_earliest.nd rfl (Or.inl rfl) (pe_callH h_total_people (hr.mono (by decide)) rfl (pa_cons (pv 0) pa_nil))) (pss_cons (ps_for PassesOwn.never rfl (pi_range1 rfl T.b_range (pa_cons (pe_op op_add (pe_gi rfl T.c_LAST_MINUTE) pe_int) pa_nil)) (pg_name (i := 2) sc_earliest.nd rfl (Or.inl rfl)) (pss_one (ps_if (pt_cmpR op_eq (pe_callH h_max_evacuated (hr.mono (by decide)) rfl (pa_cons (pv 0) (pa_cons (pv 2) pa_nil))) (pv 1) (nomark _)) (pss_one (ps_ret (pv 2))) pss_nil))) (pss_one (ps_ret (pe_gi rfl T.c_NEVER))))), ?_⟩
  rintro ⟨b, n⟩ H0 Q ⟨hN, hW⟩ e q
  replace hN := hN.mono e
  dsimp only at hN hW q
  refine s_asg (ev_call (ea_cons (ev_var rfl) ea_nil) (spV (a := (b, n)) hN)) fun H1 e1 => ?_
  refine s_forR1 (n := 6) (ea_cons (ev_is (ev_op ev_c ev_c rv_I0) rfl) ea_nil) (by omega) (fun m σ' H' => (∃ v, σ' = [some (.ref b), some (.int (total n : Nat)), v]) ∧ Ex H H' ∧ ∀ j < m, n.maxEvacuated j ≠ total n)
    (fun H2 e2 => ⟨⟨_, rfl⟩, e1.trans e2, fun j hj => by omega⟩) ?_ ?_
  · rintro m σ' H' hm ⟨⟨v, rfl⟩, e2, hall⟩
    refine s_if (et_test (ev_op (ev_call (ea_cons (ev_var rfl) (ea_cons (ev_var rfl) ea_nil)) (spV (a := (b, n, m)) ⟨hN.mono e2, hW, by show m ≤ 5; omega⟩)) (ev_var rfl) (rv_eq rfl))) (fun hb H3 e3 => ?_) (fun hb H3 e3 => ?_)
    · have hh : n.maxEvacuated m = total n := by
        have : ((n.maxEvacuated m : Nat) : Int) = (total n : Nat) := by simpa using hb
        omega
      refine s_ret (ev_is (ev_var rfl) ?_) fun H4 e4 => q H4 ((e2.trans e3).trans e4)
      unfold earlyF
      rw [early_some (by omega) hh hall]
    · refine ⟨⟨_, rfl⟩, e2.trans e3, fun j hj => ?_⟩
      by_cases hjm : j < m
      · exact hall j hjm
      · have : j = m := by omega
        subst this
        intro q2
        rw [q2] at hb
        simp at hb
  · rintro σ' H' ⟨⟨v, rfl⟩, e2, hall⟩
    have hv : earlyF n = -1 := by
      unfold earlyF
      rw [early_none hall]
    show Q (.int (-1)) H'
    rw [hv] at q
    exact q H' e2
abbrev s_spare_people : Stmt := top 50
abbrev N_spare_people : List Str := ["building", "area", "minute", "total", "found", "number", "cut", "left"]
abbrev P_spare_people : List Str := ["building", "area", "minute"]
theorem sc_spare_people : FnScope N_spare_people P_spare_people (defScope s_spare_people) := ⟨rfl, rfl, rfl, by decide +kernel, rfl, by decide +kernel, by decide +kernel⟩
def sp_spare_people (C : Addr) : Sp := pureV (α := Addr × Network × Nat × Nat) (fun a => [.ref a.1, .int a.2.2.1, .int a.2.2.2]) (fun a H => NetAt C H a.1 a.2.1 ∧ WF a.2.1 ∧ a.2.2.2 ≤ 5 ∧ a.2.2.1 < a.2.1.areas.length) (fun a => .int (spareAll a.2.1 a.2.2.1 a.2.2.2))
theorem min_if (f l : Int) : (if l < f then l else f) = min f l := by
  rw [Int.min_def]
  split <;> split <;> omega
theorem max_if (f l : Int) : (if l > f then l else f) = max f l := by
  rw [Int.max_def]
  split <;> split <;> omega
def rMin2 : List V → Hp → VK → Prop := fun xs H Q => ∃ i j, xs = [.int i, .int j] ∧ Q (.int (if j < i then j else i)) H
theorem ev_min2 {σ : L2.St} {H : Hp} {ta tb : TE} {i j : Int} (ha : Ev ta σ H (.int i)) (hb : Ev tb σ H (.int j)) : Ev (tCB rMin2 (tCons ta (tCons tb tNil))) σ H (.int (if j < i then j else i)) := fun H1 e Q q =>
  ha H1 e _ fun H2 e2 => hb H2 (e.trans e2) _ fun H3 e3 => ⟨i, j, rfl, q H3 (e2.trans e3)⟩
theorem has_spare_people (T : Txt K mg C CD) (D : DefAt K mg "spare_people" s_spare_people) (h_total_people : Has P w K mg base 1 "total_people" P_total_people (sp_total_people C)) (h_cut_count : Has P w K mg base 1 "cut_count" P_cut_count (sp_cut_count C))
    (h_cut_at : Has P w K mg base 1 "cut_at" P_cut_at (sp_cut_at C)) (h_cut_capacity : Has P w K mg base 4 "cut_capacity" P_cut_capacity (sp_cut_capacity K C)) : Has P w K mg base 5 "spare_people" P_spare_people (sp_spare_people C) := by
  refine has_V D sc_spare_people (fun _ => rfl) (fun _ _ _ _ _ _ us hl => match us, hl with | [_, _, _], _ => rfl) fun f cdv A outer s H E hr => ⟨_, (pss_cons (ps_par (i := 3) (j := 4) rfl sc_spare_people.nd rfl rfl (by decide) rfl rfl (pa_cons (pe_callH h_total_people (hr.mono (by decide)) rfl (pa_cons (pv 0) pa_nil)) (pa_cons (pe_gi rfl T.c_MAX_PEOPLE) pa_nil)) (by rfl)) (pss_cons (ps_for PassesOwn.never rfl (pi_range1 rfl T.b_range (pa_cons (pe_callH h_cut_count (hr.mono (by decide)) rfl (pa_cons (pv 0) (pa_cons (pv 2) pa_nil))) pa_nil)) (pg_name (i := 5) sc_spare_people.nd rfl (Or.inl rfl)) (pss_cons (ps_set (i := 6) sc_spare_people.nd rfl (Or.inl rfl) (pe_callH h_cut_at (hr.mono (by decide)) rfl (pa_cons (pv 0) (pa_cons (pv 2) (pa_cons (pv 5) pa_nil))))) (pss_cons (ps_set (i := 7) sc_spare_people.nd rfl (Or.inl rfl) (pe_op op_sub (pe_callH h_cut_capacity (hr.mono (by decide)) rfl (pa_cons (pv 0) (pa_cons (pv 6) pa_nil))) (pv 3))) (pss_one (ps_if (PW.pt (pw_or (pt_cmpR op_lt (pv 7) pe_int (nomark _)) (pw_or1 (pt_cmpR op_eq (pe_ix ix_list (pv 6) (pv 1) (fun _ _ => rfl)) pe_int (nomark _))))) (pss_one (ps_set (i := 4) sc_spare_people.nd rfl (Or.inl rfl) (pe_callB (call_min2 rfl) (by rfl) T.b_min (by decide +kernel) (pa_cons (pv 4) (pa_cons (pv 7) pa_nil))))) pss_nil))))) (pss_one (ps_ret (pv 4))))), ?_⟩
  rintro ⟨b, n, i, t⟩ H0 Q ⟨hN, hW, ht, hi⟩ e q
  replace hN := hN.mono e
  dsimp only at hN hW ht hi q
  have hcnt := hW.count ht
  refine s_par (ev_call (ea_cons (ev_var rfl) ea_nil) (spV (a := (b, n)) hN)) ev_c fun H1 e1 => ?_
  refine s_forR1 (n := (cnt t n.areas : Nat)) (ea_cons (ev_call (ea_cons (ev_var rfl) (ea_cons (ev_var rfl) ea_nil)) (spV (a := (b, n, t)) ⟨hN.mono e1, ht⟩)) ea_nil) (by omega)
    (fun m σ' H' => ∃ v1 v2 v3, σ' = [some (.ref b), some (.int i), some (.int t), some (.int (total n : Nat)), some (.int (spareF n i t m)), v1, v2, v3] ∧ Ex H H') (fun H2 e2 => ⟨_, _, _, rfl, e1.trans e2⟩) ?_ ?_
  · rintro m σ' H' hm ⟨v1, v2, v3, rfl, e2⟩
    have hm' : m < cnt t n.areas := by omega
    have hst := spare_succ (i := i) hm'
    have hlc := cutNo_length t n.areas m
    refine s_asgL (el_call (ea_cons (ev_var rfl) (ea_cons (ev_var rfl) (ea_cons (ev_var rfl) ea_nil))) (spL (a := (b, n, t, m)) ⟨hN.mono e2, ht, hW⟩)) fun pc H3 hpc e3 h3 => ?_
    refine s_asg (ev_op (ev_call (ea_cons (ev_var rfl) (ea_cons (ev_var rfl) ea_nil)) (spV (a := (b, n, pc, cutNo t n.areas m)) ⟨hN.mono (e2.trans e3), SqL.o h3, hlc, hW⟩)) (ev_var rfl) rv_I0) fun H4 e4 => ?_
    refine s_if (et_or (et_test (ev_op (ev_var rfl) ev_c rv_I0)) fun _ => et_test (ev_op (ev_op (ev_var rfl) (ev_var rfl) (rv_ixL (SqL.o (e4 _ _ h3)) (atI_nat (natV_at (i := i) (by rw [hlc]; exact hi))))) ev_c (rv_eq rfl))) (fun hb H5 e5 => ?_) (fun hb H5 e5 => ?_)
    · refine s_asg (v := .int (spareF n i t (m + 1))) (ev_is (ev_min2 (ev_var rfl) (ev_var rfl)) ?_) fun H6 e6 => ⟨_, _, _, rfl, (((e2.trans e3).trans e4).trans e5).trans e6⟩
      dsimp only
      rw [hst, min_if]
      unfold spareStep
      rw [if_pos ?_]
      rw [Bool.or_eq_true] at hb
      rcases hb with hb | hb
      · exact .inl (by simpa using hb)
      · refine .inr ?_
        have : (((cutNo t n.areas m).getD i 0 : Nat) : Int) = 0 := by simpa using hb
        omega
    · refine ⟨?v1, ?v2, ?v3, ?h, ((e2.trans e3).trans e4).trans e5⟩
      case h =>
        have hs : spareF n i t (m + 1) = spareF n i t m := by
          rw [hst]
          unfold spareStep
          rw [if_neg ?_]
          rw [Bool.or_eq_false_iff] at hb
          rintro (q1 | q1)
          · have := hb.1
            simp at this
            omega
          · have := hb.2
            rw [q1] at this
            simp at this
        rw [hs]
        rfl
  · rintro σ' H' ⟨v1, v2, v3, rfl, e2⟩
    refine s_ret (ev_is (ev_var rfl) ?_) fun H3 e3 => q H3 (e2.trans e3)
    rw [Int.toNat_natCast, spare_all]
abbrev s_max_people : Stmt := top 51
abbrev N_max_people : List Str := ["building", "area", "minute", "empty"]
abbrev P_max_people : List Str := ["building", "area", "minute"]
theorem sc_max_people : FnScope N_max_people P_max_people (defScope s_max_people) := ⟨rfl, rfl, rfl, by decide +kernel, rfl, by decide +kernel, by decide +kernel⟩
def sp_max_people (C : Addr) : Sp := pureV (α := Addr × Network × Nat × Nat) (fun a => [.ref a.1, .int a.2.2.1, .int a.2.2.2]) (fun a H => NetAt C H a.1 a.2.1 ∧ WF a.2.1 ∧ a.2.2.2 ≤ 5 ∧ a.2.2.1 < a.2.1.areas.length) (fun a => .int (maxPeopleF a.2.1 a.2.2.1 a.2.2.2))
theorem has_max_people (T : Txt K mg C CD) (D : DefAt K mg "max_people" s_max_people) (h_building_with_people : Has P w K mg base 3 "building_with_people" P_building_with_people (sp_building_with_people C)) (h_has_exits : Has P w K mg base 1 "has_exits" P_has_exits (sp_has_exits C))
    (h_spare_people : Has P w K mg base 5 "spare_people" P_spare_people (sp_spare_people C)) (h_total_people : Has P w K mg base 1 "total_people" P_total_people (sp_total_people C)) : Has P w K mg base 6 "max_people" P_max_people (sp_max_people C) := by
  refine has_V D sc_max_people (fun _ => rfl) (fun _ _ _ _ _ _ us hl => match us, hl with | [_, _, _], _ => rfl) fun f cdv A outer s H E hr => ⟨_, (pss_cons (ps_set (i := 3) sc_max_people.nd rfl (Or.inl rfl) (pe_callH h_building_with_people (hr.mono (by decide)) rfl (pa_cons (pv 0) (pa_cons (pv 1) (pa_cons pe_int pa_nil))))) (pss_cons (ps_if (pt_not (pt_val (pe_callH h_has_exits (hr.mono (by decide)) rfl (pa_cons (pv 0) pa_nil)))) (pss_one (ps_ret (pe_ifExp (pt_cmpR op_eq (pe_callH h_total_people (hr.mono (by decide)) rfl (pa_cons (pv 3) pa_nil)) pe_int (nomark _)) pe_int (pe_gi rfl T.c_NEVER)))) pss_nil) (pss_one (ps_ret (pe_callB (call_max2 rfl) (by rfl) T.b_max (by decide +kernel) (pa_cons (pe_gi rfl T.c_NEVER) (pa_cons (pe_callH h_spare_people (hr.mono (by decide)) rfl (pa_cons (pv 3) (pa_cons (pv 1) (pa_cons (pv 2) pa_nil)))) pa_nil))))))), ?_⟩
  rintro ⟨b, n, i, t⟩ H0 Q ⟨hN, hW, ht, hi⟩ e q
  replace hN := hN.mono e
  dsimp only at hN hW ht hi q
  refine s_asgB (C := C) (n := n.withPeople i 0) (eb_call (a := (b, n, i, 0)) (ea_cons (ev_var rfl) (ea_cons (ev_var rfl) (ea_cons ev_c ea_nil))) ⟨hN, hi⟩) fun pe H1 hpe e1 hE => ?_
  have hWE := hW.withPeople i (v := 0) (by omega)
  have hiE : i < (n.withPeople i 0).areas.length := by rw [withPeople_areas, List.length_modify]; exact hi
  refine s_if (et_not (et_B (ev_call (ea_cons (ev_var rfl) ea_nil) (spV (a := (b, n)) (hN.mono e1))))) (fun hb H2 e2 => ?_) (fun hb H2 e2 => ?_)
  · have hx : n.hasExit = false := by simpa using hb
    have hv := maxPeople_none (i := i) (t := t) hx
    refine s_ret (ev_if (et_test (ev_op (ev_call (ea_cons (ev_var rfl) ea_nil) (spV (a := (pe, n.withPeople i 0)) (hE.mono e2))) ev_c (rv_eq rfl))) (fun hc => ev_is ev_c ?_) (fun hc => ev_is ev_c ?_)) fun H3 e3 => q H3 ((e1.trans e2).trans e3)
    · have h0 : total (n.withPeople i 0) = 0 := by
        have : ((total (n.withPeople i 0) : Nat) : Int) = 0 := by simpa using hc
        omega
      rw [hv, if_pos h0]
    · have h0 : ¬ total (n.withPeople i 0) = 0 := fun q => by
        dsimp only at hc
        rw [q] at hc
        simp at hc
      rw [hv, if_neg h0]
  · have hx : n.hasExit = true := by simpa using hb
    have hv := maxPeople_exit (t := t) hW.sr hi hx
    refine s_ret (ev_is (ev_max2 ev_c (ev_call (ea_cons (ev_var rfl) (ea_cons (ev_var rfl) (ea_cons (ev_var rfl) ea_nil))) (spV (a := (pe, n.withPeople i 0, i, t)) ⟨hE.mono e2, hWE, ht, hiE⟩))) ?_) fun H3 e3 => q H3 ((e1.trans e2).trans e3)
    dsimp only
    rw [max_if, hv]
abbrev s_limits_all : Stmt := top 52
abbrev N_limits_all : List Str := ["building", "cut", "passage", "total"]
abbrev P_limits_all : List Str := ["building", "cut", "passage", "total"]
theorem sc_limits_all : FnScope N_limits_all P_limits_all (defScope s_limits_all) := ⟨rfl, rfl, rfl, by decide +kernel, rfl, by decide +kernel, by decide +kernel⟩
def sp_limits_all (K : PySem.W.Frag) (C : Addr) : Sp := pureV (α := Addr × Network × Addr × List Nat × Addr × Passage) (fun a => [.ref a.1, .ref a.2.2.1, .ref a.2.2.2.2.1, .int (total a.2.1 : Nat)]) (fun a H => NetAt C H a.1 a.2.1 ∧ WF a.2.1 ∧ SqL K H a.2.2.1 (natV a.2.2.2.1) ∧ a.2.2.2.1.length = a.2.1.areas.length ∧ H a.2.2.2.2.1 = some (.tup (tupV a.2.2.2.2.2)) ∧ a.2.2.2.2.2 ∈ a.2.1.passages)
  (fun a => .bl (limB a.2.1 a.2.2.2.2.2 a.2.2.2.1))
theorem has_limits_all (T : Txt K mg C CD) (D : DefAt K mg "limits_all" s_limits_all) (h_cut_capacity : Has P w K mg base 4 "cut_capacity" P_cut_capacity (sp_cut_capacity K C)) (h_crossings : Has P w K mg base 2 "crossings" P_crossings (sp_crossings K)) :
    Has P w K mg base 5 "limits_all" P_limits_all (sp_limits_all K C) := by
  refine has_V D sc_limits_all (fun _ => rfl) (fun _ _ _ _ _ _ us hl => match us, hl with | [_, _, _, _], _ => rfl) fun f cdv A outer s H E hr => ⟨_, (pss_one (ps_ret (pe_cmpR op_lt (pe_op op_sub (pe_callH h_cut_capacity (hr.mono (by decide)) rfl (pa_cons (pv 0) (pa_cons (pv 1) pa_nil))) (pe_callH h_crossings (hr.mono (by decide)) rfl (pa_cons (pv 2) (pa_cons (pv 1) pa_nil)))) (pv 3) (nomark _)))), ?_⟩
  rintro ⟨b, n, ca, c, t, p⟩ H0 Q ⟨hN, hW, hc, hl, hT, hp⟩ e q
  replace hN := hN.mono e
  replace hc := ex_l e hc
  replace hT := e _ _ hT
  dsimp only at hN hW hc hl hT hp q
  exact s_ret (ev_op (ev_op (ev_call (ea_cons (ev_var rfl) (ea_cons (ev_var rfl) ea_nil)) (spV (a := (b, n, ca, c)) ⟨hN, hc, hl, hW⟩)) (ev_call (ea_cons (ev_var rfl) (ea_cons (ev_var rfl) ea_nil)) (spV (a := (t, p, ca, c)) ⟨hT, hc, by rw [hl]; exact hW.src p hp, by rw [hl]; exact hW.tgt p hp⟩)) rv_I0) (ev_var rfl) rv_I0) q
abbrev s_is_limiting : Stmt := top 53
abbrev N_is_limiting : List Str := ["building", "minute", "passage", "total", "number"]
abbrev P_is_limiting : List Str := ["building", "minute", "passage"]
theorem sc_is_limiting : FnScope N_is_limiting P_is_limiting (defScope s_is_limiting) := ⟨rfl, rfl, rfl, by decide +kernel, rfl, by decide +kernel, by decide +kernel⟩
def sp_is_limiting (C : Addr) : Sp := pureV (α := Addr × Network × Nat × Addr × Passage) (fun a => [.ref a.1, .int a.2.2.1, .ref a.2.2.2.1]) (fun a H => NetAt C H a.1 a.2.1 ∧ WF a.2.1 ∧ a.2.2.1 ≤ 5 ∧ H a.2.2.2.1 = some (.tup (tupV a.2.2.2.2)) ∧ a.2.2.2.2 ∈ a.2.1.passages) (fun a => .bl (limF a.2.1 a.2.2.1 a.2.2.2.2))
theorem has_is_limiting (T : Txt K mg C CD) (D : DefAt K mg "is_limiting" s_is_limiting) (h_total_people : Has P w K mg base 1 "total_people" P_total_people (sp_total_people C)) (h_cut_count : Has P w K mg base 1 "cut_count" P_cut_count (sp_cut_count C))
    (h_limits_all : Has P w K mg base 5 "limits_all" P_limits_all (sp_limits_all K C)) (h_cut_at : Has P w K mg base 1 "cut_at" P_cut_at (sp_cut_at C)) : Has P w K mg base 6 "is_limiting" P_is_limiting (sp_is_limiting C) := by
  refine has_V D sc_is_limiting (fun _ => rfl) (fun _ _ _ _ _ _ us hl => match us, hl with | [_, _, _], _ => rfl) fun f cdv A outer s H E hr => ⟨_, (pss_cons (ps_set (i := 3) sc_is_limiting.nd rfl (Or.inl rfl) (pe_callH h_total_people (hr.mono (by decide)) rfl (pa_cons (pv 0) pa_nil))) (pss_cons (ps_if (pt_cmpR op_eq (pv 3) pe_int (nomark _)) (pss_one (ps_ret pe_bl)) pss_nil) (pss_cons (ps_for PassesOwn.never rfl (pi_range1 rfl T.b_range (pa_cons (pe_callH h_cut_count (hr.mono (by decide)) rfl (pa_cons (pv 0) (pa_cons (pv 1) pa_nil))) pa_nil)) (pg_name (i := 4) sc_is_limiting.nd rfl (Or.inl rfl)) (pss_one (ps_if (pt_val (pe_callH h_limits_all (hr.mono (by decide)) rfl (pa_cons (pv 0) (pa_cons (pe_callH h_cut_at (hr.mono (by decide)) rfl (pa_cons (pv 0) (pa_cons (pv 1) (pa_cons (pv 4) pa_nil)))) (pa_cons (pv 2) (pa_cons (pv 3) pa_nil)))))) (pss_one (ps_ret pe_bl)) pss_nil))) (pss_one (ps_ret pe_bl))))), ?_⟩
  rintro ⟨b, n, t, pt, p⟩ H0 Q ⟨hN, hW, ht, hT, hp⟩ e q
  replace hN := hN.mono e
  replace hT := e _ _ hT
  dsimp only at hN hW ht hT hp q
  have hcnt := hW.count ht
  refine s_asg (ev_call (ea_cons (ev_var rfl) ea_nil) (spV (a := (b, n)) hN)) fun H1 e1 => ?_
  refine s_if (et_test (ev_op (ev_var rfl) ev_c (rv_eq rfl))) (fun hb H2 e2 => ?_) (fun hb H2 e2 => ?_)
  · have h0 : total n = 0 := by
      have : ((total n : Nat) : Int) = 0 := by simpa using hb
      omega
    have hv : limF n t p = false := by
      unfold limF
      rw [h0]
      rfl
    rw [hv] at q
    exact q H2 (e1.trans e2)
  · have h0 : (total n != 0) = true := by
      rw [bne_iff_ne]
      intro q
      dsimp only at hb
      rw [q] at hb
      simp at hb
    have e12 := e1.trans e2
    refine s_forR1 (n := (cnt t n.areas : Nat)) (ea_cons (ev_call (ea_cons (ev_var rfl) (ea_cons (ev_var rfl) ea_nil)) (spV (a := (b, n, t)) ⟨hN.mono e12, ht⟩)) ea_nil) (by omega)
      (fun m σ' H' => (∃ v1, σ' = [some (.ref b), some (.int t), some (.ref pt), some (.int (total n : Nat)), v1]) ∧ Ex H H' ∧ ∀ j < m, limB n p (cutNo t n.areas j) = false) (fun H3 e3 => ⟨⟨_, rfl⟩, e12.trans e3, fun j hj => by omega⟩) ?_ ?_
    · rintro m σ' H' hm ⟨⟨v1, rfl⟩, e3, hall⟩
      have hm' : m < cnt t n.areas := by omega
      have hlc := cutNo_length t n.areas m
      have hcall : Ev (tCall (sp_limits_all K C) [] E0 (tCons (tVar 0) (tCons (tCall (sp_cut_at C) [] E0 (tCons (tVar 0) (tCons (tVar 1) (tCons (tVar 4) tNil)))) (tCons (tVar 2) (tCons (tVar 3) tNil)))))
          [some (.ref b), some (.int t), some (.ref pt), some (.int (total n : Nat)), some (.int (m : Int))] H' (.bl (limB n p (cutNo t n.areas m))) := by
        exact ev_call4L (ev_var rfl) (el_call (ea_cons (ev_var rfl) (ea_cons (ev_var rfl) (ea_cons (ev_var rfl) ea_nil))) (spL (a := (b, n, t, m)) ⟨hN.mono e3, ht, hW⟩)) (ev_var rfl) (ev_var rfl)
          fun pc H6 e6 h6 => spV (a := (b, n, pc, cutNo t n.areas m, pt, p)) ⟨hN.mono (e3.trans e6), hW, SqL.o h6, hlc, (e3.trans e6) _ _ hT, hp⟩
      refine s_if (et_B hcall) (fun hb2 H4 e4 => ?_) (fun hb2 H4 e4 => ?_)
      · have hv : limF n t p = true := by
          unfold limF
          rw [h0, Bool.true_and, List.any_eq_true]
          exact ⟨_, cutNo_mem hm', hb2⟩
        rw [hv] at q
        exact q H4 (e3.trans e4)
      · refine ⟨⟨_, rfl⟩, e3.trans e4, fun j hj => ?_⟩
        by_cases hjm : j < m
        · exact hall j hjm
        · have : j = m := by omega
          subst this
          exact hb2
    · rintro σ' H' ⟨⟨v1, rfl⟩, e3, hall⟩
      rw [Int.toNat_natCast] at hall
      have hv : limF n t p = false := by
        unfold limF
        rw [Bool.and_eq_false_iff]
        refine .inr ?_
        rw [List.any_eq_false]
        intro c hc
        rw [cuts_eq, cutsL_range] at hc
        obtain ⟨j, hj, rfl⟩ := List.mem_map.mp hc
        rw [hall j (List.mem_range.mp hj)]
        exact Bool.false_ne_true
      show Q (.bl false) H'
      rw [hv] at q
      exact q H' e3
def critB (n : Network) (t k : Nat) : Bool := (n.passage k).capacity == 1 || limF n t (n.passage k)
abbrev s_critical_passages : Stmt := top 54
abbrev N_critical_passages : List Str := ["building", "minute", "found", "number", "passage"]
abbrev P_critical_passages : List Str := ["building", "minute"]
theorem sc_critical_passages : FnScope N_critical_passages P_critical_passages (defScope s_critical_passages) := ⟨rfl, rfl, rfl, by decide +kernel, rfl, by decide +kernel, by decide +kernel⟩
def sp_critical_passages (C : Addr) : Sp := pureL (α := Addr × Network × Nat) (fun a => [.ref a.1, .int a.2.2]) (fun a H => NetAt C H a.1 a.2.1 ∧ WF a.2.1 ∧ a.2.2 ≤ 5) (fun a => natV (pick (critB a.2.1 a.2.2) a.2.1.passages.length))
theorem has_critical_passages (T : Txt K mg C CD) (D : DefAt K mg "critical_passages" s_critical_passages) (h_is_limiting : Has P w K mg base 6 "is_limiting" P_is_limiting (sp_is_limiting C)) (h_capacity_of : Has P w K mg base 1 "capacity_of" P_capacity_of sp_capacity_of) :
    Has P w K mg base 7 "critical_passages" P_critical_passages (sp_critical_passages C) := by
  refine has_L D sc_critical_passages (fun _ => rfl) (fun _ _ _ _ _ _ us hl => match us, hl with | [_, _], _ => rfl) fun f cdv A outer s H E hr => ⟨_, (pss_cons (ps_set (i := 2) sc_critical_passages.nd rfl (Or.inl rfl) (pe_lst pa_nil)) (pss_cons (ps_for PassesOwn.never rfl (pi_enum rfl T.b_enumerate (pa_cons (pe_fld (pv 0) rfl) pa_nil)) (pg_tup rfl (pgs_cons (pg_name (i := 3) sc_critical_passages.nd rfl (Or.inl rfl)) (pgs_cons (pg_name (i := 4) sc_critical_passages.nd rfl (Or.inl rfl)) pgs_nil))) (pss_one (ps_if (PW.pt (pw_or (pt_cmpR op_eq (pe_callH h_capacity_of (hr.mono (by decide)) rfl (pa_cons (pv 4) pa_nil)) pe_int (nomark _)) (pw_or1 (pt_val (pe_callH h_is_limiting (hr.mono (by decide)) rfl (pa_cons (pv 0) (pa_cons (pv 1) (pa_cons (pv 4) pa_nil)))))))) (pss_one (ps_expr (pe_bm PySem.F.plainAttrs_list PySem.F.slot_list_append PySem.F.type_list_append mt_append (pv 2) (pa_cons (pv 3) pa_nil)))) pss_nil))) (pss_one (ps_ret (pv 2))))), ?_⟩
  rintro ⟨b, n, t⟩ H0 Q ⟨⟨pa, ea, la, ts, hN⟩, hW, ht⟩ e q
  replace hN := hN.mono e
  dsimp only at hN hW ht q
  refine s_asgL el_lst0 fun l H1 hl e1 h1 => ?_
  refine s_forE (ev_passages T.tb (hN.mono e1) (ev_var rfl)) (SqL.o (hN.mono e1).pas)
    (fun m σ' H' => ∃ v1 v2, σ' = [some (.ref b), some (.int t), some (.ref l), v1, v2] ∧ Ex H H' ∧ H' l = some (.lst (natV (pick (critB n t) m))))
    (fun H2 e2 => ⟨_, _, rfl, e1.trans e2, e2 _ _ h1⟩) (fun m σ' H' ⟨_, _, _, e2, _⟩ => SqL.o (hN.mono e2).pas) ?_ ?_
  · rintro m x σ' H' hm ⟨v1, v2, rfl, e2, h2⟩ H2 e3
    obtain ⟨pt, hpt, rfl⟩ := iref hm
    obtain ⟨p, hp, hT⟩ := hN.tup.get hpt
    have hmem := List.mem_of_getElem? hp
    have e23 := e2.trans e3
    have hcr : critB n t m = (p.capacity == 1 || limF n t p) := by
      unfold critB
      rw [passage_at hp]
    have hpa : NetAt C H b n := ⟨pa, ea, la, ts, hN⟩
    refine s_if (b := critB n t m) (et_is (et_or (et_test (ev_op (ev_call (ea_cons (ev_var rfl) ea_nil) (spV (a := (pt, p)) (e23 _ _ hT))) ev_c (rv_eq rfl))) fun _ => et_B (ev_call (ea_cons (ev_var rfl) (ea_cons (ev_var rfl) (ea_cons (ev_var rfl) ea_nil))) (spV (a := (b, n, t, pt, p)) ⟨hpa.mono e23, hW, ht, e23 _ _ hT, hmem⟩))) ?_) (fun hc H3 e4 => ?_) (fun hc H3 e4 => ?_)
    · rw [hcr]
      congr 1
      dsimp only
      rw [Bool.eq_iff_iff]
      simp
      omega
    · refine s_app (e4 _ _ (e3 _ _ h2)) (ev_var rfl) (ev_var rfl) ?_ fun H4 e5 => ?_
      · have := pick_len (critB n t) m
        have hm2 := (List.getElem?_eq_some_iff.mp hpt).1
        have := hW.passages
        have := hN.tup.length
        rw [List.length_map]
        omega
      · refine ⟨_, _, rfl, Ex.grow e2 hl ((e3.trans e4).trans e5), ?_⟩
        rw [pick_succ, if_pos hc, upd_same]
        unfold natV
        rw [List.map_append]
        rfl
    · refine ⟨_, _, rfl, (e2.trans e3).trans e4, ?_⟩
      rw [pick_succ, if_neg (by rw [hc]; exact Bool.false_ne_true)]
      exact e4 _ _ (e3 _ _ h2)
  · rintro σ' H' ⟨v1, v2, rfl, e2, h2⟩
    have hlen : (ts.map V.ref).length = n.passages.length := by rw [List.length_map, hN.tup.length]
    rw [hlen] at h2
    refine s_ret (ev_var rfl) fun H2 e3 => q l H2 hl (e2.trans e3) (e3 _ _ h2)
end
end Bx
end

section
set_option maxRecDepth 100000
set_option maxHeartbeats 4000000
/-! plans.py -/
namespace Bx
open PySem PySem.Spec PyProof.Rows L2 Evl
open Kv434 (Area Passage Network Planner PlanStep parseSteps peopleOf isStepList)

def stV (s : PlanStep) : List V := [.int s.passage, .int s.minute, .int s.people]
abbrev Steps (H : Hp) : List Addr → List PlanStep → Prop := Paired fun u s => H u = some (.tup (stV s))
theorem Steps.mono {H H' : Hp} (e : ∀ b xs, H b = some (.tup xs) → H' b = some (.tup xs)) : ∀ {us : List Addr} {l : List PlanStep}, Steps H us l → Steps H' us l
  | _, _, .nil => .nil
  | _, _, .cons r t => .cons (e _ _ r) (Steps.mono e t)
theorem Steps.snoc {H : Hp} {u : Addr} {s : PlanStep} (h : H u = some (.tup (stV s))) : ∀ {us : List Addr} {l : List PlanStep}, Steps H us l → Steps H (us ++ [u]) (l ++ [s])
  | _, _, .nil => .cons h .nil
  | _, _, .cons r t => .cons r (Steps.snoc h t)
theorem Steps.get {H : Hp} : ∀ {us : List Addr} {l : List PlanStep} {i : Nat} {u : Addr}, Steps H us l → us[i]? = some u → ∃ s, l[i]? = some s ∧ H u = some (.tup (stV s))
  | _, _, _, _, .nil, e => by simp at e
  | _, _, 0, _, .cons r _, e => by simp at e; subst e; exact ⟨_, rfl, r⟩
  | _, _, i + 1, u, .cons _ q, e => by
    obtain ⟨p, h1, h2⟩ := Steps.get (i := i) (u := u) q (by simpa using e)
    exact ⟨p, by simpa using h1, h2⟩
theorem Steps.length {H : Hp} {us : List Addr} {l : List PlanStep} (h : Steps H us l) : us.length = l.length := Paired.length h
/-- at a the steps l -/
def StepsAt (K : PySem.W.Frag) (H : Hp) (a : Addr) (l : List PlanStep) : Prop := ∃ us, SqL K H a (us.map V.ref) ∧ Steps H us l
theorem StepsAt.mono {K : PySem.W.Frag} {H H' : Hp} {a : Addr} {l : List PlanStep} (h : StepsAt K H a l) (e : Ex H H') : StepsAt K H' a l := let ⟨us, h1, h2⟩ := h; ⟨us, ex_l e h1, h2.mono fun b xs q => e b _ q⟩
theorem exV_len (as : List Area) : (exV as).length = as.length := by simp [exV]
theorem pplV_len (as : List Area) : (pplV as).length = as.length := by simp [pplV]

section
variable {P : Program} {w : World} {K : PySem.W.Frag} {mg : Str → Option Value} {base : Heap} {C CD : Addr}
abbrev s_is_form : Stmt := top 58
abbrev N_is_form : List Str := ["numbers"]
abbrev P_is_form : List Str := ["numbers"]
theorem sc_is_form : FnScope N_is_form P_is_form (defScope s_is_form) := ⟨rfl, rfl, rfl, by decide +kernel, rfl, by decide +kernel, by decide +kernel⟩
def sp_is_form (K : PySem.W.Frag) : Sp := pureV (α := Addr × List Nat) (fun a => [.ref a.1]) (fun a H => SqL K H a.1 (natV a.2)) (fun a => .bl (isStepList a.2))
theorem has_is_form (T : Txt K mg C CD) (D : DefAt K mg "is_form" s_is_form) : Has P w K mg base 1 "is_form" P_is_form (sp_is_form K) := by
  refine has_V D sc_is_form (fun _ => rfl) (fun _ _ _ _ _ _ us hl => match us, hl with | [_], _ => rfl) fun f cdv A outer s H E hr => ⟨_, (pss_one (ps_ret (pe_and (pe_cmpR op_eq (pe_op op_modN (pe_callB call_len_seq (by rfl) T.b_len PySem.boot_len (pa_cons (pv 0) pa_nil)) (pe_gi rfl T.c_NUMBERS_IN_STEP)) pe_int (nomark _)) (pe_one (pe_cmpR op_le (pe_callB call_len_seq (by rfl) T.b_len PySem.boot_len (pa_cons (pv 0) pa_nil)) (pe_gi rfl T.c_MAX_NUMBERS) (nomark _)))))), ?_⟩
  rintro ⟨a, ns⟩ H0 Q hA e q
  replace hA := ex_l e hA
  dsimp only at hA q
  refine s_ret (ev_is (ev_andV (ev_op (ev_op (ev_len (ev_var rfl) hA) ev_c (rv_I (by decide))) ev_c (rv_eq rfl)) fun _ => ev_op (ev_len (ev_var rfl) hA) ev_c rv_I0) ?_) q
  rw [List.length_map]
  congr 1
  unfold isStepList
  congr 1
  · have : Int.fmod (ns.length : Int) 3 = ((ns.length % 3 : Nat) : Int) := fmod_nat ns.length 3
    rw [this, Bool.eq_iff_iff]
    simp
    omega
  · rw [decide_eq_decide]
    omega
abbrev s_steps_of : Stmt := top 59
abbrev N_steps_of : List Str := ["numbers", "found", "place"]
abbrev P_steps_of : List Str := ["numbers"]
theorem sc_steps_of : FnScope N_steps_of P_steps_of (defScope s_steps_of) := ⟨rfl, rfl, rfl, by decide +kernel, rfl, by decide +kernel, by decide +kernel⟩
def sp_steps_of (K : PySem.W.Frag) : Sp := fun vs H Q _ => ∃ (a : Addr) (ns : List Nat) (m : Nat) (H0 : Hp), Ex H0 H ∧ vs = [.ref a] ∧ SqL K H0 a (natV ns) ∧ ns.length = 3 * m ∧ m ≤ 12 ∧ ∀ p H', H p = none → Ex H H' → StepsAt K H' p (parseSteps ns) → Q (.ref p) H'
theorem rg3 {m : Nat} (h : m ≤ 12) : RgC 0 ((3 * m : Nat) : Int) 3 m := by
  have : m = 0 ∨ m = 1 ∨ m = 2 ∨ m = 3 ∨ m = 4 ∨ m = 5 ∨ m = 6 ∨ m = 7 ∨ m = 8 ∨ m = 9 ∨ m = 10 ∨ m = 11 ∨ m = 12 := by omega
  rcases this with e | e | e | e | e | e | e | e | e | e | e | e | e <;> subst e <;> exact ⟨by decide, by decide, by decide +kernel, by decide +kernel⟩
theorem s_forR3 {σ : L2.St} {H : Hp} {D : Ends} {tu : TS} {ta : TA} {j : Nat} {lo hi c : Int} {n : Nat} (h : EvA ta σ H [.int lo, .int hi, .int c]) (hr : RgC lo hi c n) (Pv : Nat → L2.St → Hp → Prop) (h0 : ∀ H1, Ex H H1 → Pv 0 σ H1)
    (hs : ∀ (i : Nat) σ' H', i < n → Pv i σ' H' → tu { D with nx := Pv (i + 1), ct := Pv (i + 1), bk := D.nx } (σ'.set j (some (.int (lo + (i : Nat) * c)))) H') (hd : ∀ σ' H', Pv n σ' H' → D.nx σ' H') : tFor (iRng3 ta) (gName j) tu D σ H :=
  h H (Ex.refl H) _ fun H1 e => ⟨lo, hi, c, n, rfl, hr, for_rangeC Pv (h0 H1 e) (fun i σ' H' hi p => hs i σ' H' hi p) hd⟩
theorem has_steps_of (T : Txt K mg C CD) (D : DefAt K mg "steps_of" s_steps_of) : Has P w K mg base 1 "steps_of" P_steps_of (sp_steps_of K) := by
  refine has_of D sc_steps_of (fun vs H Q E h => ?_) (fun _ _ _ _ _ _ us hl => match us, hl with | [_], _ => rfl) fun f cdv A outer s H E hr => ⟨_, (pss_cons (ps_set (i := 1) sc_steps_of.nd rfl (Or.inl rfl) (pe_lst pa_nil)) (pss_cons (ps_for PassesOwn.never rfl (pi_range3 rfl T.b_range (pa_cons pe_int (pa_cons (pe_callB call_len_seq (by rfl) T.b_len PySem.boot_len (pa_cons (pv 0) pa_nil)) (pa_cons (pe_gi rfl T.c_NUMBERS_IN_STEP) pa_nil)))) (pg_name (i := 2) sc_steps_of.nd rfl (Or.inl rfl)) (pss_one (ps_expr (pe_bm PySem.F.plainAttrs_list PySem.F.slot_list_append PySem.F.type_list_append mt_append (pv 1) (pa_cons (pe_tup (pa_cons (pe_ix ix_list (pv 0) (pv 2) (fun _ _ => rfl)) (pa_cons (pe_ix ix_list (pv 0) (pe_op op_add (pv 2) pe_int) (fun _ _ => rfl)) (pa_cons (pe_ix ix_list (pv 0) (pe_op op_add (pv 2) pe_int) (fun _ _ => rfl)) pa_nil)))) pa_nil))))) (pss_one (ps_ret (pv 1))))), ?_⟩
  · obtain ⟨a, ns, m, H0, _, rfl, _⟩ := h
    rfl
  · rintro vs Q ⟨a, ns, m, H0, e, rfl, hA, hm, h12, q⟩
    replace hA := ex_l e hA
    refine s_asgL el_lst0 fun l H1 hl e1 h1 => ?_
    refine s_forR3 (lo := 0) (hi := ((3 * m : Nat) : Int)) (c := 3) (ea_cons ev_c (ea_cons (ev_is (ev_len (ev_var rfl) (ex_l e1 hA)) (by rw [List.length_map, hm])) (ea_cons ev_c ea_nil))) (rg3 h12)
      (fun i σ' H' => ∃ v us, σ' = [some (.ref a), some (.ref l), v] ∧ Ex H H' ∧ H' l = some (.lst (us.map V.ref)) ∧ Steps H' us ((parseSteps ns).take i))
      (fun H2 e2 => ⟨_, [], rfl, e1.trans e2, e2 _ _ h1, .nil⟩) ?_ ?_
    · rintro i σ' H' hi ⟨v, us, rfl, e2, h2, hs⟩
      have hget := parse_get m ns i hm hi
      have hA2 := ex_l e2 hA
      have hv0 : V.int (0 + ((i : Nat) : Int) * 3) = V.int ((3 * i : Nat) : Int) := by congr 1; omega
      have hv1 : V.int ((0 + ((i : Nat) : Int) * 3) + 1) = V.int ((3 * i + 1 : Nat) : Int) := by congr 1; omega
      have hv2 : V.int ((0 + ((i : Nat) : Int) * 3) + 2) = V.int ((3 * i + 2 : Nat) : Int) := by congr 1; omega
      have hus : us.length ≤ 12 := by
        rw [hs.length, List.length_take]
        omega
      refine s_appU (ys := stV ⟨ns.getD (3 * i) 0, ns.getD (3 * i + 1) 0, ns.getD (3 * i + 2) 0⟩) h2 (ev_var rfl) (eu_tup (ea_cons (ev_op (ev_var rfl) (ev_is (ev_var rfl) hv0) (rv_ixL hA2 (atI_nat (natV_at (by omega))))) (ea_cons (ev_op (ev_var rfl) (ev_is (ev_op (ev_var rfl) ev_c rv_I0) hv1) (rv_ixL hA2 (atI_nat (natV_at (by omega)))))
        (ea_cons (ev_op (ev_var rfl) (ev_is (ev_op (ev_var rfl) ev_c rv_I0) hv2) (rv_ixL hA2 (atI_nat (natV_at (by omega))))) ea_nil))) (by show 3 ≤ 100000; decide)) (by rw [List.length_map]; omega) fun u H3 hu e3 h3 => ?_
      refine ⟨_, us ++ [u], rfl, Ex.grow e2 hl e3, ?_, ?_⟩
      · rw [upd_same, List.map_append]
        rfl
      · rw [take_succ_snoc hget]
        have hh : ∀ b xs, H3 b = some (.tup xs) → upd H3 l (.lst (us.map V.ref ++ [.ref u])) b = some (.tup xs) := fun b xs hb => by
          rw [upd_ne (ne_of hb (e3 _ _ h2) (by intro z; cases z))]
          exact hb
        exact Steps.snoc (hh _ _ h3) (hs.mono fun b xs hb => hh b xs (e3 _ _ hb))
    · rintro σ' H' ⟨v, us, rfl, e2, h2, hs⟩
      rw [List.take_of_length_le (by rw [parse_len m ns hm]; exact Nat.le_refl _)] at hs
      refine s_ret (ev_var rfl) fun H2 e3 => q l H2 hl (e2.trans e3) ⟨us, SqL.o (e3 _ _ h2), hs.mono fun b xs hb => e3 _ _ hb⟩
abbrev s_has_known_steps : Stmt := top 60
abbrev N_has_known_steps : List Str := ["building", "steps", "passage", "minute", "people"]
abbrev P_has_known_steps : List Str := ["building", "steps"]
theorem sc_has_known_steps : FnScope N_has_known_steps P_has_known_steps (defScope s_has_known_steps) := ⟨rfl, rfl, rfl, by decide +kernel, rfl, by decide +kernel, by decide +kernel⟩
def sp_has_known_steps (K : PySem.W.Frag) (C : Addr) : Sp := pureV (α := Addr × Network × Addr × List PlanStep) (fun a => [.ref a.1, .ref a.2.2.1]) (fun a H => NetAt C H a.1 a.2.1 ∧ StepsAt K H a.2.2.1 a.2.2.2) (fun a => .bl (knownB a.2.1 a.2.2.2))
theorem has_has_known_steps (T : Txt K mg C CD) (D : DefAt K mg "has_known_steps" s_has_known_steps) (h_has_passage : Has P w K mg base 1 "has_passage" P_has_passage (sp_has_passage C)) :
    Has P w K mg base 2 "has_known_steps" P_has_known_steps (sp_has_known_steps K C) := by
  refine has_V D sc_has_known_steps (fun _ => rfl) (fun _ _ _ _ _ _ us hl => match us, hl with | [_, _], _ => rfl) fun f cdv A outer s H E hr => ⟨_, (pss_cons (ps_for PassesOwn.never rfl (pi_list (pv 1)) (pg_tup rfl (pgs_cons (pg_name (i := 2) sc_has_known_steps.nd rfl (Or.inl rfl)) (pgs_cons (pg_name (i := 3) sc_has_known_steps.nd rfl (Or.inl rfl)) (pgs_cons (pg_name (i := 4) sc_has_known_steps.nd rfl (Or.inl rfl)) pgs_nil)))) (pss_one (ps_if (PW.pt (pw_or (pt_not (pt_val (pe_callH h_has_passage (hr.mono (by decide)) rfl (pa_cons (pv 0) (pa_cons (pv 2) pa_nil))))) (pw_or1 (pt_cmpR op_gt (pv 3) (pe_gi rfl T.c_LAST_MINUTE) (nomark _))))) (pss_one (ps_ret pe_bl)) pss_nil))) (pss_one (ps_ret pe_bl))), ?_⟩
  rintro ⟨b, n, sa, l⟩ H0 Q ⟨hN, hS⟩ e q
  replace hN := hN.mono e
  obtain ⟨us, hS, hU⟩ := hS.mono e
  dsimp only at hN hS hU q
  refine s_for3 (ev_var rfl) hS (fun m σ' H' => (∃ v1 v2 v3, σ' = [some (.ref b), some (.ref sa), v1, v2, v3]) ∧ Ex H H' ∧ ∀ j s, j < m → l[j]? = some s → (decide (s.passage < n.passages.length) && decide (s.minute ≤ Kv434.lastMinute)) = true)
    (fun H1 e1 => ⟨⟨_, _, _, rfl⟩, e1, fun j s hj => by omega⟩) (fun m σ' H' _ ⟨_, e1, _⟩ => ex_l e1 hS) ?_ ?_
  · rintro m u σ' H' hm ⟨⟨v1, v2, v3, rfl⟩, e1, hall⟩
    obtain ⟨st, hst, hu⟩ := hU.get hm
    refine ⟨_, _, _, e1 _ _ hu, ?_⟩
    refine s_if (b := !(decide (st.passage < n.passages.length) && decide (st.minute ≤ Kv434.lastMinute))) (et_is (et_or (et_not (et_B (ev_call (ea_cons (ev_var rfl) (ea_cons (ev_var rfl) ea_nil)) (spV (a := (b, n, st.passage)) (hN.mono e1))))) fun _ => et_test (ev_op (ev_var rfl) ev_c rv_I0)) ?_) (fun hb H2 e2 => ?_) (fun hb H2 e2 => ?_)
    · rw [Bool.eq_iff_iff]
      have h5 : (decide (st.minute ≤ Kv434.lastMinute)) = decide (st.minute ≤ 5) := rfl
      rw [h5]
      simp
      omega
    · have hv : knownB n l = false := all_take_false hst (by rw [Bool.not_eq_true'] at hb; exact hb)
      rw [hv] at q
      exact q H2 (e1.trans e2)
    · refine ⟨⟨_, _, _, rfl⟩, e1.trans e2, fun j s hj hs => ?_⟩
      by_cases hjm : j < m
      · exact hall j s hjm hs
      · have : j = m := by omega
        subst this
        rw [hst] at hs
        cases hs
        simpa using hb
  · rintro σ' H' ⟨⟨v1, v2, v3, rfl⟩, e1, hall⟩
    have hv : knownB n l = true := by
      unfold knownB
      rw [List.all_eq_true]
      intro s hs
      obtain ⟨j, hj⟩ := List.mem_iff_getElem?.mp hs
      exact hall j s (by rw [hU.length]; exact (List.getElem?_eq_some_iff.mp hj).1) hj
    show Q (.bl true) H'
    rw [hv] at q
    exact q H' e1
abbrev s_entering : Stmt := top 61
abbrev N_entering : List Str := ["steps", "own", "moment", "found", "passage", "minute", "people"]
abbrev P_entering : List Str := ["steps", "own", "moment"]
theorem sc_entering : FnScope N_entering P_entering (defScope s_entering) := ⟨rfl, rfl, rfl, by decide +kernel, rfl, by decide +kernel, by decide +kernel⟩
def sp_entering (K : PySem.W.Frag) : Sp := pureV (α := Addr × List PlanStep × Nat × Nat) (fun a => [.ref a.1, .int a.2.2.1, .int a.2.2.2]) (fun a H => StepsAt K H a.1 a.2.1) (fun a => .int (enterF a.2.1 a.2.2.1 a.2.2.2 : Nat))
theorem has_entering (T : Txt K mg C CD) (D : DefAt K mg "entering" s_entering) : Has P w K mg base 1 "entering" P_entering (sp_entering K) := by
  refine has_V D sc_entering (fun _ => rfl) (fun _ _ _ _ _ _ us hl => match us, hl with | [_, _, _], _ => rfl) fun f cdv A outer s H E hr => ⟨_, (pss_cons (ps_set (i := 3) sc_entering.nd rfl (Or.inl rfl) pe_int) (pss_cons (ps_for PassesOwn.never rfl (pi_list (pv 0)) (pg_tup rfl (pgs_cons (pg_name (i := 4) sc_entering.nd rfl (Or.inl rfl)) (pgs_cons (pg_name (i := 5) sc_entering.nd rfl (Or.inl rfl)) (pgs_cons (pg_name (i := 6) sc_entering.nd rfl (Or.inl rfl)) pgs_nil)))) (pss_one (ps_if (PW.pt (pw_and (pt_cmpR op_eq (pv 4) (pv 1) (nomark _)) (pw_and1 (pt_cmpR op_eq (pv 5) (pv 2) (nomark _))))) (pss_one (ps_set (i := 3) sc_entering.nd rfl (Or.inl rfl) (pe_op op_add (pv 3) (pv 6)))) pss_nil))) (pss_one (ps_ret (pv 3))))), ?_⟩
  rintro ⟨sa, l, k, t⟩ H0 Q hS e q
  obtain ⟨us, hS, hU⟩ := hS.mono e
  dsimp only at hS hU q
  refine s_asg ev_c fun H1 e1 => ?_
  refine s_for3 (ev_var rfl) (ex_l e1 hS) (fun m σ' H' => (∃ v1 v2 v3, σ' = [some (.ref sa), some (.int k), some (.int t), some (.int (enterF (l.take m) k t : Nat)), v1, v2, v3]) ∧ Ex H H') (fun H2 e2 => ⟨⟨_, _, _, rfl⟩, e1.trans e2⟩) (fun m σ' H' _ ⟨_, e2⟩ => ex_l e2 hS) ?_ ?_
  · rintro m u σ' H' hm ⟨⟨v1, v2, v3, rfl⟩, e2⟩
    obtain ⟨st, hst, hu⟩ := hU.get hm
    have hsucc : enterF (l.take (m + 1)) k t = enterF (l.take m) k t + if (st.passage == k && st.minute == t) = true then st.people else 0 := peopleOf_succ hst _
    refine ⟨_, _, _, e2 _ _ hu, ?_⟩
    refine s_if (b := st.passage == k && st.minute == t) (et_is (et_and (et_test (ev_op (ev_var rfl) (ev_var rfl) (rv_eq rfl))) fun _ => et_test (ev_op (ev_var rfl) (ev_var rfl) (rv_eq rfl))) ?_) (fun hb H2 e3 => ?_) (fun hb H2 e3 => ?_)
    · rw [Bool.eq_iff_iff]
      simp
      omega
    · refine s_asg (v := .int (enterF (l.take (m + 1)) k t : Nat)) (ev_is (ev_op (ev_var rfl) (ev_var rfl) rv_I0) ?_) fun H3 e4 => ⟨⟨_, _, _, rfl⟩, (e2.trans e3).trans e4⟩
      rw [hsucc, if_pos hb]
      rfl
    · refine ⟨⟨?v1, ?v2, ?v3, ?h⟩, e2.trans e3⟩
      case h =>
        rw [hsucc, if_neg (by rw [hb]; exact Bool.false_ne_true)]
        rfl
  · rintro σ' H' ⟨⟨v1, v2, v3, rfl⟩, e2⟩
    refine s_ret (ev_is (ev_var rfl) ?_) fun H3 e3 => q H3 (e2.trans e3)
    rw [hU.length, List.take_length]
abbrev s_keeps_capacities : Stmt := top 62
abbrev N_keeps_capacities : List Str := ["building", "steps", "number", "minute"]
abbrev P_keeps_capacities : List Str := ["building", "steps"]
theorem sc_keeps_capacities : FnScope N_keeps_capacities P_keeps_capacities (defScope s_keeps_capacities) := ⟨rfl, rfl, rfl, by decide +kernel, rfl, by decide +kernel, by decide +kernel⟩
def sp_keeps_capacities (K : PySem.W.Frag) (C : Addr) : Sp := pureV (α := Addr × Network × Addr × List PlanStep) (fun a => [.ref a.1, .ref a.2.2.1]) (fun a H => NetAt C H a.1 a.2.1 ∧ WF a.2.1 ∧ StepsAt K H a.2.2.1 a.2.2.2) (fun a => .bl (capsB a.2.1 a.2.2.2))
theorem has_keeps_capacities (T : Txt K mg C CD) (D : DefAt K mg "keeps_capacities" s_keeps_capacities) (h_passage_count : Has P w K mg base 1 "passage_count" P_passage_count (sp_passage_count C)) (h_entering : Has P w K mg base 1 "entering" P_entering (sp_entering K))
    (h_capacity_of : Has P w K mg base 1 "capacity_of" P_capacity_of sp_capacity_of) : Has P w K mg base 2 "keeps_capacities" P_keeps_capacities (sp_keeps_capacities K C) := by
  refine has_V D sc_keeps_capacities (fun _ => rfl) (fun _ _ _ _ _ _ us hl => match us, hl with | [_, _], _ => rfl) fun f cdv A outer s H E hr => ⟨_, (pss_cons (ps_for PassesOwn.never rfl (pi_range1 rfl T.b_range (pa_cons (pe_callH h_passage_count (hr.mono (by decide)) rfl (pa_cons (pv 0) pa_nil)) pa_nil)) (pg_name (i := 2) sc_keeps_capacities.nd rfl (Or.inl rfl)) (pss_one (ps_for PassesOwn.never rfl (pi_range1 rfl T.b_range (pa_cons (pe_op op_add (pe_gi rfl T.c_LAST_MINUTE) pe_int) pa_nil)) (pg_name (i := 3) sc_keeps_capacities.nd rfl (Or.inl rfl)) (pss_one (ps_if (pt_cmpR op_gt (pe_callH h_entering (hr.mono (by decide)) rfl (pa_cons (pv 1) (pa_cons (pv 2) (pa_cons (pv 3) pa_nil)))) (pe_callH h_capacity_of (hr.mono (by decide)) rfl (pa_cons (pe_ix ix_list (pe_fld (pv 0) rfl) (pv 2) (fun _ _ => rfl)) pa_nil)) (nomark _)) (pss_one (ps_ret pe_bl)) pss_nil))))) (pss_one (ps_ret pe_bl))), ?_⟩
  rintro ⟨b, n, sa, l⟩ H0 Q ⟨⟨pa, ea, la, ts, hN⟩, hW, hS⟩ e q
  replace hN := hN.mono e
  replace hS := hS.mono e
  dsimp only at hN hW hS q
  have hpa : NetAt C H b n := ⟨pa, ea, la, ts, hN⟩
  have h8 := hW.passages
  refine s_forR1 (n := (n.passages.length : Nat)) (ea_cons (ev_call (ea_cons (ev_var rfl) ea_nil) (spV (a := (b, n)) hpa)) ea_nil) (by omega)
    (fun k σ' H' => (∃ v1 v2, σ' = [some (.ref b), some (.ref sa), v1, v2]) ∧ Ex H H' ∧ ∀ j < k, ∀ m < 6, enterF l j m ≤ (n.passage j).capacity) (fun H1 e1 => ⟨⟨_, _, rfl⟩, e1, fun j hj => by omega⟩) ?_ ?_
  · rintro k σ' H' hk ⟨⟨v1, v2, rfl⟩, e1, hall⟩
    have hk' : k < n.passages.length := by omega
    obtain ⟨p, hp⟩ : ∃ p, n.passages[k]? = some p := ⟨_, List.getElem?_eq_getElem hk'⟩
    obtain ⟨t, ht, hT⟩ := hN.tup.get' hp
    refine s_forR1 (n := 6) (ea_cons (ev_is (ev_op ev_c ev_c rv_I0) rfl) ea_nil) (by omega)
      (fun m σ' H' => (∃ v2, σ' = [some (.ref b), some (.ref sa), some (.int (k : Int)), v2]) ∧ Ex H H' ∧ ∀ j < m, enterF l k j ≤ p.capacity) (fun H2 e2 => ⟨⟨_, rfl⟩, e1.trans e2, fun j hj => by omega⟩) ?_ ?_
    · rintro m σ' H' hm ⟨⟨v2, rfl⟩, e2, hall2⟩
      refine s_if (b := decide (p.capacity < enterF l k m)) (et_is (et_test (ev_op (ev_call (ea_cons (ev_var rfl) (ea_cons (ev_var rfl) (ea_cons (ev_var rfl) ea_nil))) (spV (a := (sa, l, k, m)) (hS.mono e2)))
        (ev_call (ea_cons (ev_op (ev_passages T.tb (hN.mono e2) (ev_var rfl)) (ev_var rfl) (rv_ixL (SqL.o (hN.mono e2).pas) (atI_nat (map_at ht)))) ea_nil) (spV (a := (t, p)) (e2 _ _ hT))) rv_I0)) ?_) (fun hb H3 e3 => ?_) (fun hb H3 e3 => ?_)
      · rw [decide_eq_decide]
        dsimp only
        omega
      · have hv : capsB n l = false := all_range_false hk' (all_range_false (show m < 6 by omega) (by
          rw [passage_at hp]
          have : p.capacity < enterF l k m := by simpa using hb
          simpa using this))
        rw [hv] at q
        exact q H3 (e2.trans e3)
      · refine ⟨⟨_, rfl⟩, e2.trans e3, fun j hj => ?_⟩
        by_cases hjm : j < m
        · exact hall2 j hjm
        · have : j = m := by omega
          subst this
          simpa using hb
    · rintro σ' H' ⟨⟨v2, rfl⟩, e2, hall2⟩
      refine ⟨⟨_, _, rfl⟩, e2, fun j hj => ?_⟩
      by_cases hjk : j < k
      · exact hall j hjk
      · have : j = k := by omega
        subst this
        rw [passage_at hp]
        exact hall2
  · rintro σ' H' ⟨⟨v1, v2, rfl⟩, e1, hall⟩
    rw [Int.toNat_natCast] at hall
    have hv : capsB n l = true := all_range_true fun k hk => all_range_true fun m hm => decide_eq_true (hall k hk m hm)
    show Q (.bl true) H'
    rw [hv] at q
    exact q H' e1
theorem known_at {n : Network} {l : List PlanStep} (h : knownB n l = true) {i : Nat} {s : PlanStep} (hs : l[i]? = some s) : ∃ p, n.passages[s.passage]? = some p := ⟨_, List.getElem?_eq_getElem (known_passage h (List.mem_of_getElem? hs)).1⟩
abbrev s_arrived : Stmt := top 63
abbrev N_arrived : List Str := ["building", "steps", "area", "moment", "found", "number", "minute", "people", "passage"]
abbrev P_arrived : List Str := ["building", "steps", "area", "moment"]
theorem sc_arrived : FnScope N_arrived P_arrived (defScope s_arrived) := ⟨rfl, rfl, rfl, by decide +kernel, rfl, by decide +kernel, by decide +kernel⟩
def sp_arrived (K : PySem.W.Frag) (C : Addr) : Sp := pureV (α := Addr × Network × Addr × List PlanStep × Nat × Nat) (fun a => [.ref a.1, .ref a.2.2.1, .int a.2.2.2.2.1, .int a.2.2.2.2.2]) (fun a H => NetAt C H a.1 a.2.1 ∧ StepsAt K H a.2.2.1 a.2.2.2.1 ∧ knownB a.2.1 a.2.2.2.1 = true) (fun a => .int (arrivedF a.2.1 a.2.2.2.1 a.2.2.2.2.1 a.2.2.2.2.2 : Nat))
theorem has_arrived (T : Txt K mg C CD) (D : DefAt K mg "arrived" s_arrived) (h_target_of : Has P w K mg base 1 "target_of" P_target_of sp_target_of) (h_travel_time_of : Has P w K mg base 1 "travel_time_of" P_travel_time_of sp_travel_time_of) :
    Has P w K mg base 2 "arrived" P_arrived (sp_arrived K C) := by
  refine has_V D sc_arrived (fun _ => rfl) (fun _ _ _ _ _ _ us hl => match us, hl with | [_, _, _, _], _ => rfl) fun f cdv A outer s H E hr => ⟨_, (pss_cons (ps_set (i := 4) sc_arrived.nd rfl (Or.inl rfl) pe_int) (pss_cons (ps_for PassesOwn.never rfl (pi_list (pv 1)) (pg_tup rfl (pgs_cons (pg_name (i := 5) sc_arrived.nd rfl (Or.inl rfl)) (pgs_cons (pg_name (i := 6) sc_arrived.nd rfl (Or.inl rfl)) (pgs_cons (pg_name (i := 7) sc_arrived.nd rfl (Or.inl rfl)) pgs_nil)))) (pss_cons (ps_set (i := 8) sc_arrived.nd rfl (Or.inl rfl) (pe_ix ix_list (pe_fld (pv 0) rfl) (pv 5) (fun _ _ => rfl))) (pss_one (ps_if (PW.pt (pw_and (pt_cmpR op_eq (pe_callH h_target_of (hr.mono (by decide)) rfl (pa_cons (pv 8) pa_nil)) (pv 2) (nomark _)) (pw_and1 (pt_cmpR op_le (pe_op op_add (pv 6) (pe_callH h_travel_time_of (hr.mono (by decide)) rfl (pa_cons (pv 8) pa_nil))) (pv 3) (nomark _))))) (pss_one (ps_set (i := 4) sc_arrived.nd rfl (Or.inl rfl) (pe_op op_add (pv 4) (pv 7)))) pss_nil)))) (pss_one (ps_ret (pv 4))))), ?_⟩
  rintro ⟨b, n, sa, l, i, t⟩ H0 Q ⟨⟨pa, ea, la, ts, hN⟩, hS, hK⟩ e q
  replace hN := hN.mono e
  obtain ⟨us, hS, hU⟩ := hS.mono e
  dsimp only at hN hS hU hK q
  refine s_asg ev_c fun H1 e1 => ?_
  refine s_for3 (ev_var rfl) (ex_l e1 hS) (fun m σ' H' => (∃ v1 v2 v3 v4, σ' = [some (.ref b), some (.ref sa), some (.int i), some (.int t), some (.int (arrivedF n (l.take m) i t : Nat)), v1, v2, v3, v4]) ∧ Ex H H') (fun H2 e2 => ⟨⟨_, _, _, _, rfl⟩, e1.trans e2⟩) (fun m σ' H' _ ⟨_, e2⟩ => ex_l e2 hS) ?_ ?_
  · rintro m u σ' H' hm ⟨⟨v1, v2, v3, v4, rfl⟩, e2⟩
    obtain ⟨st, hst, hu⟩ := hU.get hm
    obtain ⟨p, hp⟩ := known_at hK hst
    obtain ⟨pt, hpt, hT⟩ := hN.tup.get' hp
    have hsucc : arrivedF n (l.take (m + 1)) i t = arrivedF n (l.take m) i t + if (decide (p.target = i) && decide (st.minute + p.travelTime ≤ t)) = true then st.people else 0 := by
      have := peopleOf_succ hst fun s => decide ((n.passage s.passage).target = i) && decide (s.minute + (n.passage s.passage).travelTime ≤ t)
      rw [passage_at hp] at this
      exact this
    refine ⟨_, _, _, e2 _ _ hu, ?_⟩
    refine s_asg (ev_op (ev_passages T.tb (hN.mono e2) (ev_var rfl)) (ev_var rfl) (rv_ixL (SqL.o (hN.mono e2).pas) (atI_nat (map_at hpt)))) fun H3 e3 => ?_
    have e23 := e2.trans e3
    refine s_if (b := decide (p.target = i) && decide (st.minute + p.travelTime ≤ t)) (et_is (et_and (et_test (ev_op (ev_call (ea_cons (ev_var rfl) ea_nil) (spV (a := (pt, p)) (e23 _ _ hT))) (ev_var rfl) (rv_eq rfl))) fun _ =>
      et_test (ev_op (ev_op (ev_var rfl) (ev_call (ea_cons (ev_var rfl) ea_nil) (spV (a := (pt, p)) (e23 _ _ hT))) rv_I0) (ev_var rfl) rv_I0)) ?_) (fun hb H4 e4 => ?_) (fun hb H4 e4 => ?_)
    · dsimp only
      rw [Bool.eq_iff_iff]
      simp
      omega
    · refine s_asg (v := .int (arrivedF n (l.take (m + 1)) i t : Nat)) (ev_is (ev_op (ev_var rfl) (ev_var rfl) rv_I0) ?_) fun H5 e5 => ⟨⟨_, _, _, _, rfl⟩, (e23.trans e4).trans e5⟩
      rw [hsucc, if_pos hb]
      rfl
    · refine ⟨⟨?v1, ?v2, ?v3, ?v4, ?h⟩, e23.trans e4⟩
      case h =>
        rw [hsucc, if_neg (by rw [hb]; exact Bool.false_ne_true)]
        rfl
  · rintro σ' H' ⟨⟨v1, v2, v3, v4, rfl⟩, e2⟩
    refine s_ret (ev_is (ev_var rfl) ?_) fun H3 e3 => q H3 (e2.trans e3)
    rw [hU.length, List.take_length]
abbrev s_gone : Stmt := top 64
abbrev N_gone : List Str := ["building", "steps", "area", "moment", "found", "number", "minute", "people"]
abbrev P_gone : List Str := ["building", "steps", "area", "moment"]
theorem sc_gone : FnScope N_gone P_gone (defScope s_gone) := ⟨rfl, rfl, rfl, by decide +kernel, rfl, by decide +kernel, by decide +kernel⟩
def sp_gone (K : PySem.W.Frag) (C : Addr) : Sp := pureV (α := Addr × Network × Addr × List PlanStep × Nat × Nat) (fun a => [.ref a.1, .ref a.2.2.1, .int a.2.2.2.2.1, .int a.2.2.2.2.2]) (fun a H => NetAt C H a.1 a.2.1 ∧ StepsAt K H a.2.2.1 a.2.2.2.1 ∧ knownB a.2.1 a.2.2.2.1 = true) (fun a => .int (goneF a.2.1 a.2.2.2.1 a.2.2.2.2.1 a.2.2.2.2.2 : Nat))
theorem has_gone (T : Txt K mg C CD) (D : DefAt K mg "gone" s_gone) (h_source_of : Has P w K mg base 1 "source_of" P_source_of sp_source_of) : Has P w K mg base 2 "gone" P_gone (sp_gone K C) := by
  refine has_V D sc_gone (fun _ => rfl) (fun _ _ _ _ _ _ us hl => match us, hl with | [_, _, _, _], _ => rfl) fun f cdv A outer s H E hr => ⟨_, (pss_cons (ps_set (i := 4) sc_gone.nd rfl (Or.inl rfl) pe_int) (pss_cons (ps_for PassesOwn.never rfl (pi_list (pv 1)) (pg_tup rfl (pgs_cons (pg_name (i := 5) sc_gone.nd rfl (Or.inl rfl)) (pgs_cons (pg_name (i := 6) sc_gone.nd rfl (Or.inl rfl)) (pgs_cons (pg_name (i := 7) sc_gone.nd rfl (Or.inl rfl)) pgs_nil)))) (pss_one (ps_if (PW.pt (pw_and (pt_cmpR op_eq (pe_callH h_source_of (hr.mono (by decide)) rfl (pa_cons (pe_ix ix_list (pe_fld (pv 0) rfl) (pv 5) (fun _ _ => rfl)) pa_nil)) (pv 2) (nomark _)) (pw_and1 (pt_cmpR op_lt (pv 6) (pv 3) (nomark _))))) (pss_one (ps_set (i := 4) sc_gone.nd rfl (Or.inl rfl) (pe_op op_add (pv 4) (pv 7)))) pss_nil))) (pss_one (ps_ret (pv 4))))), ?_⟩
  rintro ⟨b, n, sa, l, i, t⟩ H0 Q ⟨⟨pa, ea, la, ts, hN⟩, hS, hK⟩ e q
  replace hN := hN.mono e
  obtain ⟨us, hS, hU⟩ := hS.mono e
  dsimp only at hN hS hU hK q
  refine s_asg ev_c fun H1 e1 => ?_
  refine s_for3 (ev_var rfl) (ex_l e1 hS) (fun m σ' H' => (∃ v1 v2 v3, σ' = [some (.ref b), some (.ref sa), some (.int i), some (.int t), some (.int (goneF n (l.take m) i t : Nat)), v1, v2, v3]) ∧ Ex H H') (fun H2 e2 => ⟨⟨_, _, _, rfl⟩, e1.trans e2⟩) (fun m σ' H' _ ⟨_, e2⟩ => ex_l e2 hS) ?_ ?_
  · rintro m u σ' H' hm ⟨⟨v1, v2, v3, rfl⟩, e2⟩
    obtain ⟨st, hst, hu⟩ := hU.get hm
    obtain ⟨p, hp⟩ := known_at hK hst
    obtain ⟨pt, hpt, hT⟩ := hN.tup.get' hp
    have hsucc : goneF n (l.take (m + 1)) i t = goneF n (l.take m) i t + if (decide (p.source = i) && decide (st.minute < t)) = true then st.people else 0 := by
      have := peopleOf_succ hst fun s => decide ((n.passage s.passage).source = i) && decide (s.minute < t)
      rw [passage_at hp] at this
      exact this
    refine ⟨_, _, _, e2 _ _ hu, ?_⟩
    refine s_if (b := decide (p.source = i) && decide (st.minute < t)) (et_is (et_and (et_test (ev_op (ev_call (ea_cons (ev_op (ev_passages T.tb (hN.mono e2) (ev_var rfl)) (ev_var rfl) (rv_ixL (SqL.o (hN.mono e2).pas) (atI_nat (map_at hpt)))) ea_nil) (spV (a := (pt, p)) (e2 _ _ hT))) (ev_var rfl) (rv_eq rfl))) fun _ =>
      et_test (ev_op (ev_var rfl) (ev_var rfl) rv_I0)) ?_) (fun hb H4 e4 => ?_) (fun hb H4 e4 => ?_)
    · dsimp only
      rw [Bool.eq_iff_iff]
      simp
      omega
    · refine s_asg (v := .int (goneF n (l.take (m + 1)) i t : Nat)) (ev_is (ev_op (ev_var rfl) (ev_var rfl) rv_I0) ?_) fun H5 e5 => ⟨⟨_, _, _, rfl⟩, (e2.trans e4).trans e5⟩
      rw [hsucc, if_pos hb]
      rfl
    · refine ⟨⟨?v1, ?v2, ?v3, ?h⟩, e2.trans e4⟩
      case h =>
        rw [hsucc, if_neg (by rw [hb]; exact Bool.false_ne_true)]
        rfl
  · rintro σ' H' ⟨⟨v1, v2, v3, rfl⟩, e2⟩
    refine s_ret (ev_is (ev_var rfl) ?_) fun H3 e3 => q H3 (e2.trans e3)
    rw [hU.length, List.take_length]
theorem area_at {n : Network} {i : Nat} {a : Area} (h : n.areas[i]? = some a) : n.area i = a := by
  unfold Network.area
  rw [List.getD_eq_getElem?_getD, h]
  rfl
abbrev s_present : Stmt := top 65
abbrev N_present : List Str := ["building", "steps", "area", "moment"]
abbrev P_present : List Str := ["building", "steps", "area", "moment"]
theorem sc_present : FnScope N_present P_present (defScope s_present) := ⟨rfl, rfl, rfl, by decide +kernel, rfl, by decide +kernel, by decide +kernel⟩
def sp_present (K : PySem.W.Frag) (C : Addr) : Sp := pureV (α := Addr × Network × Addr × List PlanStep × Nat × Nat) (fun a => [.ref a.1, .ref a.2.2.1, .int a.2.2.2.2.1, .int a.2.2.2.2.2]) (fun a H => NetAt C H a.1 a.2.1 ∧ StepsAt K H a.2.2.1 a.2.2.2.1 ∧ knownB a.2.1 a.2.2.2.1 = true ∧ a.2.2.2.2.1 < a.2.1.areas.length) (fun a => .int (a.2.1.present a.2.2.2.1 a.2.2.2.2.1 a.2.2.2.2.2))
theorem has_present (T : Txt K mg C CD) (D : DefAt K mg "present" s_present) (h_gone : Has P w K mg base 2 "gone" P_gone (sp_gone K C)) (h_arrived : Has P w K mg base 2 "arrived" P_arrived (sp_arrived K C)) :
    Has P w K mg base 3 "present" P_present (sp_present K C) := by
  refine has_V D sc_present (fun _ => rfl) (fun _ _ _ _ _ _ us hl => match us, hl with | [_, _, _, _], _ => rfl) fun f cdv A outer s H E hr => ⟨_, (pss_one (ps_ret (pe_op op_sub (pe_op op_add (pe_ix ix_list (pe_fld (pv 0) rfl) (pv 2) (fun _ _ => rfl)) (pe_callH h_arrived (hr.mono (by decide)) rfl (pa_cons (pv 0) (pa_cons (pv 1) (pa_cons (pv 2) (pa_cons (pv 3) pa_nil)))))) (pe_callH h_gone (hr.mono (by decide)) rfl (pa_cons (pv 0) (pa_cons (pv 1) (pa_cons (pv 2) (pa_cons (pv 3) pa_nil)))))))), ?_⟩
  rintro ⟨b, n, sa, l, i, t⟩ H0 Q ⟨⟨pa, ea, la, ts, hN⟩, hS, hK, hi⟩ e q
  replace hN := hN.mono e
  replace hS := hS.mono e
  dsimp only at hN hS hK hi q
  have hpa : NetAt C H b n := ⟨pa, ea, la, ts, hN⟩
  obtain ⟨a, ha⟩ : ∃ a, n.areas[i]? = some a := ⟨_, List.getElem?_eq_getElem hi⟩
  have hai : (pplV n.areas)[i]? = some (.int a.people) := map_at ha
  refine s_ret (ev_is (ev_op (ev_op (ev_op (ev_people T.tb hN (ev_var rfl)) (ev_var rfl) (rv_ixL (SqL.o hN.ppl) (atI_nat hai))) (ev_call (ea_cons (ev_var rfl) (ea_cons (ev_var rfl) (ea_cons (ev_var rfl) (ea_cons (ev_var rfl) ea_nil)))) (spV (a := (b, n, sa, l, i, t)) ⟨hpa, hS, hK⟩)) rv_I0)
    (ev_call (ea_cons (ev_var rfl) (ea_cons (ev_var rfl) (ea_cons (ev_var rfl) (ea_cons (ev_var rfl) ea_nil)))) (spV (a := (b, n, sa, l, i, t)) ⟨hpa, hS, hK⟩)) rv_I0) ?_) q
  dsimp only
  rw [present_eq, area_at ha]
abbrev s_leaving : Stmt := top 66
abbrev N_leaving : List Str := ["building", "steps", "area", "moment"]
abbrev P_leaving : List Str := ["building", "steps", "area", "moment"]
theorem sc_leaving : FnScope N_leaving P_leaving (defScope s_leaving) := ⟨rfl, rfl, rfl, by decide +kernel, rfl, by decide +kernel, by decide +kernel⟩
def sp_leaving (K : PySem.W.Frag) (C : Addr) : Sp := pureV (α := Addr × Network × Addr × List PlanStep × Nat × Nat) (fun a => [.ref a.1, .ref a.2.2.1, .int a.2.2.2.2.1, .int a.2.2.2.2.2]) (fun a H => NetAt C H a.1 a.2.1 ∧ StepsAt K H a.2.2.1 a.2.2.2.1 ∧ knownB a.2.1 a.2.2.2.1 = true) (fun a => .int (leaveF a.2.1 a.2.2.2.1 a.2.2.2.2.1 a.2.2.2.2.2 : Nat))
theorem has_leaving (T : Txt K mg C CD) (D : DefAt K mg "leaving" s_leaving) (h_gone : Has P w K mg base 2 "gone" P_gone (sp_gone K C)) : Has P w K mg base 3 "leaving" P_leaving (sp_leaving K C) := by
  refine has_V D sc_leaving (fun _ => rfl) (fun _ _ _ _ _ _ us hl => match us, hl with | [_, _, _, _], _ => rfl) fun f cdv A outer s H E hr => ⟨_, (pss_one (ps_ret (pe_op op_sub (pe_callH h_gone (hr.mono (by decide)) rfl (pa_cons (pv 0) (pa_cons (pv 1) (pa_cons (pv 2) (pa_cons (pe_op op_add (pv 3) pe_int) pa_nil))))) (pe_callH h_gone (hr.mono (by decide)) rfl (pa_cons (pv 0) (pa_cons (pv 1) (pa_cons (pv 2) (pa_cons (pv 3) pa_nil)))))))), ?_⟩
  rintro ⟨b, n, sa, l, i, t⟩ H0 Q ⟨hN, hS, hK⟩ e q
  replace hN := hN.mono e
  replace hS := hS.mono e
  dsimp only at hN hS hK q
  refine s_ret (ev_is (ev_op (ev_call (ea_cons (ev_var rfl) (ea_cons (ev_var rfl) (ea_cons (ev_var rfl) (ea_cons (ev_is (ev_op (ev_var rfl) ev_c rv_I0) (show V.int ((t : Int) + 1) = V.int ((t + 1 : Nat) : Int) from rfl)) ea_nil)))) (spV (a := (b, n, sa, l, i, t + 1)) ⟨hN, hS, hK⟩))
    (ev_call (ea_cons (ev_var rfl) (ea_cons (ev_var rfl) (ea_cons (ev_var rfl) (ea_cons (ev_var rfl) ea_nil)))) (spV (a := (b, n, sa, l, i, t)) ⟨hN, hS, hK⟩)) rv_I0) ?_) q
  dsimp only
  rw [gone_succ]
  congr 1
  omega
abbrev s_keeps_people : Stmt := top 67
abbrev N_keeps_people : List Str := ["building", "steps", "area", "minute"]
abbrev P_keeps_people : List Str := ["building", "steps"]
theorem sc_keeps_people : FnScope N_keeps_people P_keeps_people (defScope s_keeps_people) := ⟨rfl, rfl, rfl, by decide +kernel, rfl, by decide +kernel, by decide +kernel⟩
def sp_keeps_people (K : PySem.W.Frag) (C : Addr) : Sp := pureV (α := Addr × Network × Addr × List PlanStep) (fun a => [.ref a.1, .ref a.2.2.1]) (fun a H => NetAt C H a.1 a.2.1 ∧ WF a.2.1 ∧ StepsAt K H a.2.2.1 a.2.2.2 ∧ knownB a.2.1 a.2.2.2 = true) (fun a => .bl (peopleKeptB a.2.1 a.2.2.2))
theorem has_keeps_people (T : Txt K mg C CD) (D : DefAt K mg "keeps_people" s_keeps_people) (h_area_count : Has P w K mg base 1 "area_count" P_area_count (sp_area_count C)) (h_leaving : Has P w K mg base 3 "leaving" P_leaving (sp_leaving K C))
    (h_present : Has P w K mg base 3 "present" P_present (sp_present K C)) : Has P w K mg base 4 "keeps_people" P_keeps_people (sp_keeps_people K C) := by
  refine has_V D sc_keeps_people (fun _ => rfl) (fun _ _ _ _ _ _ us hl => match us, hl with | [_, _], _ => rfl) fun f cdv A outer s H E hr => ⟨_, (pss_cons (ps_for PassesOwn.never rfl (pi_range1 rfl T.b_range (pa_cons (pe_callH h_area_count (hr.mono (by decide)) rfl (pa_cons (pv 0) pa_nil)) pa_nil)) (pg_name (i := 2) sc_keeps_people.nd rfl (Or.inl rfl)) (pss_one (ps_for PassesOwn.never rfl (pi_range1 rfl T.b_range (pa_cons (pe_op op_add (pe_gi rfl T.c_LAST_MINUTE) pe_int) pa_nil)) (pg_name (i := 3) sc_keeps_people.nd rfl (Or.inl rfl)) (pss_one (ps_if (pt_cmpR op_gt (pe_callH h_leaving (hr.mono (by decide)) rfl (pa_cons (pv 0) (pa_cons (pv 1) (pa_cons (pv 2) (pa_cons (pv 3) pa_nil))))) (pe_callH h_present (hr.mono (by decide)) rfl (pa_cons (pv 0) (pa_cons (pv 1) (pa_cons (pv 2) (pa_cons (pv 3) pa_nil))))) (nomark _)) (pss_one (ps_ret pe_bl)) pss_nil))))) (pss_one (ps_ret pe_bl))), ?_⟩
  rintro ⟨b, n, sa, l⟩ H0 Q ⟨hN, hW, hS, hK⟩ e q
  replace hN := hN.mono e
  replace hS := hS.mono e
  dsimp only at hN hW hS hK q
  have h5 := hW.areas
  refine s_forR1 (n := (n.areas.length : Nat)) (ea_cons (ev_call (ea_cons (ev_var rfl) ea_nil) (spV (a := (b, n)) hN)) ea_nil) (by omega)
    (fun k σ' H' => (∃ v1 v2, σ' = [some (.ref b), some (.ref sa), v1, v2]) ∧ Ex H H' ∧ ∀ j < k, ∀ m < 6, ((leaveF n l j m : Nat) : Int) ≤ n.present l j m) (fun H1 e1 => ⟨⟨_, _, rfl⟩, e1, fun j hj => by omega⟩) ?_ ?_
  · rintro k σ' H' hk ⟨⟨v1, v2, rfl⟩, e1, hall⟩
    have hk' : k < n.areas.length := by omega
    refine s_forR1 (n := 6) (ea_cons (ev_is (ev_op ev_c ev_c rv_I0) rfl) ea_nil) (by omega)
      (fun m σ' H' => (∃ v2, σ' = [some (.ref b), some (.ref sa), some (.int (k : Int)), v2]) ∧ Ex H H' ∧ ∀ j < m, ((leaveF n l k j : Nat) : Int) ≤ n.present l k j) (fun H2 e2 => ⟨⟨_, rfl⟩, e1.trans e2, fun j hj => by omega⟩) ?_ ?_
    · rintro m σ' H' hm ⟨⟨v2, rfl⟩, e2, hall2⟩
      refine s_if (et_test (ev_op (ev_call (ea_cons (ev_var rfl) (ea_cons (ev_var rfl) (ea_cons (ev_var rfl) (ea_cons (ev_var rfl) ea_nil)))) (spV (a := (b, n, sa, l, k, m)) ⟨hN.mono e2, hS.mono e2, hK⟩))
        (ev_call (ea_cons (ev_var rfl) (ea_cons (ev_var rfl) (ea_cons (ev_var rfl) (ea_cons (ev_var rfl) ea_nil)))) (spV (a := (b, n, sa, l, k, m)) ⟨hN.mono e2, hS.mono e2, hK, hk'⟩)) rv_I0)) (fun hb H3 e3 => ?_) (fun hb H3 e3 => ?_)
      · have hlt : n.present l k m < ((leaveF n l k m : Nat) : Int) := by simpa using hb
        have hv : peopleKeptB n l = false := all_range_false hk' (all_range_false (show m < 6 by omega) (decide_eq_false (by omega)))
        rw [hv] at q
        exact q H3 (e2.trans e3)
      · have hge : ((leaveF n l k m : Nat) : Int) ≤ n.present l k m := by simpa using hb
        refine ⟨⟨_, rfl⟩, e2.trans e3, fun j hj => ?_⟩
        by_cases hjm : j < m
        · exact hall2 j hjm
        · have : j = m := by omega
          subst this
          exact hge
    · rintro σ' H' ⟨⟨v2, rfl⟩, e2, hall2⟩
      refine ⟨⟨_, _, rfl⟩, e2, fun j hj => ?_⟩
      by_cases hjk : j < k
      · exact hall j hjk
      · have : j = k := by omega
        subst this
        exact hall2
  · rintro σ' H' ⟨⟨v1, v2, rfl⟩, e1, hall⟩
    rw [Int.toNat_natCast] at hall
    have hv : peopleKeptB n l = true := all_range_true fun k hk => all_range_true fun m hm => decide_eq_true (hall k hk m hm)
    show Q (.bl true) H'
    rw [hv] at q
    exact q H' e1
abbrev s_is_valid : Stmt := top 68
abbrev N_is_valid : List Str := ["building", "steps"]
abbrev P_is_valid : List Str := ["building", "steps"]
theorem sc_is_valid : FnScope N_is_valid P_is_valid (defScope s_is_valid) := ⟨rfl, rfl, rfl, by decide +kernel, rfl, by decide +kernel, by decide +kernel⟩
def sp_is_valid (K : PySem.W.Frag) (C : Addr) : Sp := pureV (α := Addr × Network × Addr × List PlanStep) (fun a => [.ref a.1, .ref a.2.2.1]) (fun a H => NetAt C H a.1 a.2.1 ∧ WF a.2.1 ∧ StepsAt K H a.2.2.1 a.2.2.2) (fun a => .bl (a.2.1.isValidPlan a.2.2.2))
theorem has_is_valid (T : Txt K mg C CD) (D : DefAt K mg "is_valid" s_is_valid) (h_keeps_people : Has P w K mg base 4 "keeps_people" P_keeps_people (sp_keeps_people K C)) (h_has_known_steps : Has P w K mg base 2 "has_known_steps" P_has_known_steps (sp_has_known_steps K C))
    (h_keeps_capacities : Has P w K mg base 2 "keeps_capacities" P_keeps_capacities (sp_keeps_capacities K C)) : Has P w K mg base 5 "is_valid" P_is_valid (sp_is_valid K C) := by
  refine has_V D sc_is_valid (fun _ => rfl) (fun _ _ _ _ _ _ us hl => match us, hl with | [_, _], _ => rfl) fun f cdv A outer s H E hr => ⟨_, (pss_cons (ps_if (PW.pt (pw_or (pt_not (pt_val (pe_callH h_has_known_steps (hr.mono (by decide)) rfl (pa_cons (pv 0) (pa_cons (pv 1) pa_nil))))) (pw_or1 (pt_not (pt_val (pe_callH h_keeps_capacities (hr.mono (by decide)) rfl (pa_cons (pv 0) (pa_cons (pv 1) pa_nil)))))))) (pss_one (ps_ret pe_bl)) pss_nil) (pss_one (ps_ret (pe_callH h_keeps_people (hr.mono (by decide)) rfl (pa_cons (pv 0) (pa_cons (pv 1) pa_nil)))))), ?_⟩
  rintro ⟨b, n, sa, l⟩ H0 Q ⟨hN, hW, hS⟩ e q
  replace hN := hN.mono e
  replace hS := hS.mono e
  dsimp only at hN hW hS q
  rw [valid_eq] at q
  refine s_if (et_or (et_not (et_B (ev_call (ea_cons (ev_var rfl) (ea_cons (ev_var rfl) ea_nil)) (spV (a := (b, n, sa, l)) ⟨hN, hS⟩)))) fun _ => et_not (et_B (ev_call (ea_cons (ev_var rfl) (ea_cons (ev_var rfl) ea_nil)) (spV (a := (b, n, sa, l)) ⟨hN, hW, hS⟩)))) (fun hb H1 e1 => ?_) (fun hb H1 e1 => ?_)
  · have hv : (knownB n l && capsB n l) = false := by
      rw [Bool.or_eq_true] at hb
      rw [Bool.and_eq_false_iff]
      rcases hb with hb | hb
      · exact .inl (by simpa using hb)
      · exact .inr (by simpa using hb)
    rw [hv, Bool.false_and] at q
    exact q H1 e1
  · rw [Bool.or_eq_false_iff] at hb
    have h1 : knownB n l = true := by simpa using hb.1
    have h2 : capsB n l = true := by simpa using hb.2
    rw [h1, h2, Bool.true_and, Bool.true_and] at q
    exact s_ret (ev_call (ea_cons (ev_var rfl) (ea_cons (ev_var rfl) ea_nil)) (spV (a := (b, n, sa, l)) ⟨hN.mono e1, hW, hS.mono e1, h1⟩)) fun H2 e2 => q H2 (e1.trans e2)
abbrev s_evacuated : Stmt := top 69
abbrev N_evacuated : List Str := ["building", "steps", "minute", "found", "area"]
abbrev P_evacuated : List Str := ["building", "steps", "minute"]
theorem sc_evacuated : FnScope N_evacuated P_evacuated (defScope s_evacuated) := ⟨rfl, rfl, rfl, by decide +kernel, rfl, by decide +kernel, by decide +kernel⟩
def sp_evacuated (K : PySem.W.Frag) (C : Addr) : Sp := pureV (α := Addr × Network × Addr × List PlanStep × Nat) (fun a => [.ref a.1, .ref a.2.2.1, .int a.2.2.2.2]) (fun a H => NetAt C H a.1 a.2.1 ∧ WF a.2.1 ∧ StepsAt K H a.2.2.1 a.2.2.2.1 ∧ knownB a.2.1 a.2.2.2.1 = true) (fun a => .int (a.2.1.evacuatedBy a.2.2.2.1 a.2.2.2.2))
theorem has_evacuated (T : Txt K mg C CD) (D : DefAt K mg "evacuated" s_evacuated) (h_area_count : Has P w K mg base 1 "area_count" P_area_count (sp_area_count C)) (h_present : Has P w K mg base 3 "present" P_present (sp_present K C)) :
    Has P w K mg base 4 "evacuated" P_evacuated (sp_evacuated K C) := by
  refine has_V D sc_evacuated (fun _ => rfl) (fun _ _ _ _ _ _ us hl => match us, hl with | [_, _, _], _ => rfl) fun f cdv A outer s H E hr => ⟨_, (pss_cons (ps_set (i := 3) sc_evacuated.nd rfl (Or.inl rfl) pe_int) (pss_cons (ps_for PassesOwn.never rfl (pi_range1 rfl T.b_range (pa_cons (pe_callH h_area_count (hr.mono (by decide)) rfl (pa_cons (pv 0) pa_nil)) pa_nil)) (pg_name (i := 4) sc_evacuated.nd rfl (Or.inl rfl)) (pss_one (ps_if (pt_cmpR op_eq (pe_ix ix_list (pe_fld (pv 0) rfl) (pv 4) (fun _ _ => rfl)) pe_int (nomark _)) (pss_one (ps_set (i := 3) sc_evacuated.nd rfl (Or.inl rfl) (pe_op op_add (pv 3) (pe_callH h_present (hr.mono (by decide)) rfl (pa_cons (pv 0) (pa_cons (pv 1) (pa_cons (pv 4) (pa_cons (pv 2) pa_nil)))))))) pss_nil))) (pss_one (ps_ret (pv 3))))), ?_⟩
  rintro ⟨b, n, sa, l, t⟩ H0 Q ⟨⟨pa, ea, la, ts, hN⟩, hW, hS, hK⟩ e q
  replace hN := hN.mono e
  replace hS := hS.mono e
  dsimp only at hN hW hS hK q
  have hpa : NetAt C H b n := ⟨pa, ea, la, ts, hN⟩
  have h5 := hW.areas
  refine s_asg ev_c fun H1 e1 => ?_
  refine s_forR1 (n := (n.areas.length : Nat)) (ea_cons (ev_call (ea_cons (ev_var rfl) ea_nil) (spV (a := (b, n)) (hpa.mono e1))) ea_nil) (by omega)
    (fun k σ' H' => (∃ v1, σ' = [some (.ref b), some (.ref sa), some (.int t), some (.int (evacF n l t k)), v1]) ∧ Ex H H') (fun H2 e2 => ⟨⟨_, rfl⟩, e1.trans e2⟩) ?_ ?_
  · rintro k σ' H' hk ⟨⟨v1, rfl⟩, e2⟩
    have hk' : k < n.areas.length := by omega
    obtain ⟨a, ha⟩ : ∃ a, n.areas[k]? = some a := ⟨_, List.getElem?_eq_getElem hk'⟩
    have hae : (exV n.areas)[k]? = some (.int (flagI a.isExit)) := map_at ha
    have hsucc := evac_succ n l t k
    rw [area_at ha] at hsucc
    refine s_if (b := a.isExit) (et_is (et_test (ev_op (ev_op (ev_exits T.tb (hN.mono e2) (ev_var rfl)) (ev_var rfl) (rv_ixL (SqL.o (hN.mono e2).exi) (atI_nat hae))) ev_c (rv_eq rfl))) ?_) (fun hb H3 e3 => ?_) (fun hb H3 e3 => ?_)
    · cases a.isExit <;> rfl
    · refine s_asg (v := .int (evacF n l t (k + 1))) (ev_is (ev_op (ev_var rfl) (ev_call (ea_cons (ev_var rfl) (ea_cons (ev_var rfl) (ea_cons (ev_var rfl) (ea_cons (ev_var rfl) ea_nil)))) (spV (a := (b, n, sa, l, k, t)) ⟨hpa.mono (e2.trans e3), hS.mono (e2.trans e3), hK, hk'⟩)) rv_I0) ?_) fun H4 e4 => ⟨⟨_, rfl⟩, (e2.trans e3).trans e4⟩
      rw [hsucc, if_pos hb]
    · refine ⟨⟨?v1, ?h⟩, e2.trans e3⟩
      case h =>
        rw [hsucc, if_neg (by rw [hb]; exact Bool.false_ne_true), Int.add_zero]
        rfl
  · rintro σ' H' ⟨⟨v1, rfl⟩, e2⟩
    refine s_ret (ev_is (ev_var rfl) ?_) fun H3 e3 => q H3 (e2.trans e3)
    rw [Int.toNat_natCast]
    rfl
end
end Bx
end

section
set_option maxRecDepth 100000
set_option maxHeartbeats 4000000
/-! queries.py -/
namespace Bx
open PySem PySem.Spec PyProof.Rows L2 Evl
open Kv434 (Area Passage Network Planner PlanStep parseSteps peopleOf isStepList Response Operation)

/-! ### answers -/
def rowR (r : Response) : List V := (Kv434Neutral.resultRow r).map V.int
/-- what is due of an operation on a building -/
def ans (n : Network) (o : Operation) : List V := rowR (Planner.run ⟨n⟩ o).2
theorem row_if {c : Prop} [Decidable c] (x y : Planner × Response) : rowR (if c then x else y).2 = if c then rowR x.2 else rowR y.2 := by split <;> rfl
theorem row_err (k : Int) : rowR (Response.error k) = [.int k] := rfl
theorem row_num (k : Nat) : rowR (Response.number k) = [.int k] := rfl
theorem ints_natV (l : List Nat) : (Kv434Neutral.integers l).map V.int = natV l := by
  unfold Kv434Neutral.integers natV
  rw [List.map_map]
  rfl
theorem row_mk (k : Int) (l : List Nat) : rowR ⟨k, l⟩ = .int k :: natV l := by
  show V.int k :: (Kv434Neutral.integers l).map V.int = _
  rw [ints_natV]
theorem row_list (l : List Nat) : rowR (Response.list l) = .int l.length :: natV l := row_mk _ _
theorem row_minute (t : Option Nat) : rowR (Response.minute t) = [.int (if (match t with | none => (-1 : Int) | some m => (m : Nat)) = -1 then -33 else (match t with | none => (-1 : Int) | some m => (m : Nat)))] := by
  cases t with
  | none => rfl
  | some m =>
    show [V.int ((m : Nat) : Int)] = [V.int (if ((m : Nat) : Int) = -1 then -33 else ((m : Nat) : Int))]
    rw [if_neg (by omega)]

section
variable {P : Program} {w : World} {K : PySem.W.Frag} {mg : Str → Option Value} {base : Heap} {C CD : Addr}
section
variable {σ : L2.St} {H : Hp} {ta tb te : TE} {xs ys : List V} {D : Ends}
/-- xs + ys -/
theorem el_cat {b : Addr} (h1 : EvL ta σ H xs) (h2 : Ev tb σ H (.ref b)) (hb : H b = some (.lst ys)) (hz : xs.length + ys.length ≤ 100000) : EvL (tOp rCat ta tb) σ H (xs ++ ys) := fun H1 e Q q =>
  h1 H1 e _ fun p H2 hp e2 h2' => h2 H2 (e.trans e2) _ fun H3 e3 => ⟨p, b, xs, ys, rfl, rfl, e3 _ _ h2', ((e.trans e2).trans e3) _ _ hb, sz_of hz, fun r hr => q r _ (fresh_back (e2.trans e3) hr) ((e2.trans e3).trans (Ex.new hr)) upd_same⟩
theorem el_cat2 (h1 : EvL ta σ H xs) (h2 : ∀ H1, Ex H H1 → EvL tb σ H1 ys) (hz : xs.length + ys.length ≤ 100000) : EvL (tOp rCat ta tb) σ H (xs ++ ys) := fun H1 e Q q =>
  h1 H1 e _ fun p H2 hp e2 h2' => h2 H2 (e.trans e2) H2 (Ex.refl _) _ fun b H3 hb e3 h3 => ⟨p, b, xs, ys, rfl, rfl, e3 _ _ h2', h3, sz_of hz, fun r hr => q r _ (fresh_back (e2.trans e3) hr) ((e2.trans e3).trans (Ex.new hr)) upd_same⟩
/-- list(a tuple) -/
theorem el_listT {p : Addr} (ha : Ev ta σ H (.ref p)) (h : SqT K H p xs) : EvL (tCB (rListS K) (tCons ta tNil)) σ H xs := fun H1 e Q q =>
  ha H1 e _ fun H2 e2 => ⟨p, xs, rfl, Or.inr (ex_t (e.trans e2) h), fun l hl => q l _ (fresh_back e2 hl) (e2.trans (Ex.new hl)) upd_same⟩
/-- xs.extend(a new list) -/
theorem s_extL {l : Addr} (hl : H l = some (.lst xs)) (ha : Ev ta σ H (.ref l)) (h : EvL te σ H ys) (hz : xs.length + ys.length ≤ 100000) (k : ∀ H1, Ex H H1 → D.nx σ (upd H1 l (.lst (xs ++ ys)))) :
    tDrop (tBM K "list" rExtend ta (tCons te tNil)) D σ H := ha H (Ex.refl H) _ fun H1 e1 =>
  ⟨Or.inl ⟨rfl, xs, SqL.o (e1 l _ hl)⟩, h H1 e1 _ fun p H2 hp e2 h2 => ⟨l, p, xs, ys, rfl, rfl, e2 l _ (e1 l _ hl), h2, sz_of hz, k H2 (e1.trans e2)⟩⟩
/-- xs.extend(ys) -/
theorem s_ext {l b : Addr} (hl : H l = some (.lst xs)) (hb : H b = some (.lst ys)) (ha : Ev ta σ H (.ref l)) (h : Ev te σ H (.ref b)) (hz : xs.length + ys.length ≤ 200000) (k : ∀ H1, Ex H H1 → D.nx σ (upd H1 l (.lst (xs ++ ys)))) :
    tDrop (tBM K "list" rExtend ta (tCons te tNil)) D σ H := ha H (Ex.refl H) _ fun H1 e1 =>
  ⟨Or.inl ⟨rfl, xs, SqL.o (e1 l _ hl)⟩, h H1 e1 _ fun H2 e2 => ⟨l, b, xs, ys, rfl, rfl, e2 l _ (e1 l _ hl), e2 _ _ (e1 _ _ hb), Nat.le_trans hz (by decide), k H2 (e1.trans e2)⟩⟩
/-- a value behind a call whose argument is a new building -/
theorem ev_callB1 {sp : Sp} {n : Network} {z : V} (h : EvB C te σ H n) (hs : ∀ p H1, Ex H H1 → NetAt C H1 p n → SpV sp [.ref p] H1 z) : Ev (tCall sp [] E0 (tCons te tNil)) σ H z := fun H1 e Q q =>
  h H1 e _ fun p H2 hp e2 h2 => hs p H2 (e.trans e2) h2 H2 (Ex.refl _) Q (fun H3 e3 => q H3 (e2.trans e3)) E0
/-- int(a truth value) -/
def rInt1 : List V → Hp → VK → Prop := fun xs H Q => (∃ i, xs = [.int i] ∧ Q (.int i) H) ∨ ∃ k, xs = [.bl k] ∧ Q (.int (if k then 1 else 0)) H
theorem ev_intB {k : Bool} (h : Ev te σ H (.bl k)) : Ev (tCB rInt1 (tCons te tNil)) σ H (.int (if k then 1 else 0)) := fun H1 e Q q => h H1 e _ fun H2 e2 => .inr ⟨k, rfl, q H2 e2⟩
theorem el_lst3 {tc : TE} {x y z : V} (h1 : Ev ta σ H x) (h2 : Ev tb σ H y) (h3 : Ev tc σ H z) : EvL (tLst (tCons ta (tCons tb (tCons tc tNil)))) σ H [x, y, z] := el_lst (ea_cons h1 (ea_cons h2 (ea_cons h3 ea_nil))) (by show 3 ≤ 100000; decide)
theorem el_lst2 {x y : V} (h1 : Ev ta σ H x) (h2 : Ev tb σ H y) : EvL (tLst (tCons ta (tCons tb tNil))) σ H [x, y] := el_lst (ea_cons h1 (ea_cons h2 ea_nil)) (by show 2 ≤ 100000; decide)
/-- xs[1:] -/
theorem cut_tail (x : V) (l : List V) : cutV (x :: l) (some 1) none = l := by
  have e1 : HT.sIx (x :: l).length 0 (some 1) = 1 := by
    unfold HT.sIx
    simp
  have e2 : HT.sIx (x :: l).length (x :: l).length none = (x :: l).length := rfl
  unfold cutV
  rw [e1, e2]
  simp
theorem el_tail {a : Addr} {x : V} (h : Ev te σ H (.ref a)) (hs : SqL K H a (x :: xs)) : EvL (tSl (rSlL K) te (tPart (tC (.int 1))) tNoPart) σ H xs := el_is (el_sl h (eo_some ev_c) eo_none hs) (cut_tail x xs)
end

/-! ### counted, minute_answer -/
abbrev s_counted : Stmt := top 72
abbrev N_counted : List Str := ["numbers"]
abbrev P_counted : List Str := ["numbers"]
theorem sc_counted : FnScope N_counted P_counted (defScope s_counted) := ⟨rfl, rfl, rfl, by decide +kernel, rfl, by decide +kernel, by decide +kernel⟩
def sp_counted : Sp := pureL (α := Addr × List V) (fun a => [.ref a.1]) (fun a H => H a.1 = some (.lst a.2) ∧ a.2.length ≤ 50) (fun a => .int a.2.length :: a.2)
theorem has_counted (T : Txt K mg C CD) (D : DefAt K mg "counted" s_counted) : Has P w K mg base 1 "counted" P_counted sp_counted := by
  refine has_L D sc_counted (fun _ => rfl) (fun _ _ _ _ _ _ us hl => match us, hl with | [_], _ => rfl) fun f cdv A outer s H E hr => ⟨_, (pss_one (ps_ret (pe_op op_cat (pe_lst (pa_cons (pe_callB call_len_seq (by rfl) T.b_len PySem.boot_len (pa_cons (pv 0) pa_nil)) pa_nil)) (pv 0)))), ?_⟩
  rintro ⟨a, xs⟩ H0 Q ⟨hA, hz⟩ e q
  replace hA := e _ _ hA
  dsimp only at hA hz q
  exact s_retL (el_cat (el_lst1 (ev_len (ev_var rfl) (SqL.o hA))) (ev_var rfl) hA (by show 1 + xs.length ≤ 100000; omega)) q
abbrev s_minute_answer : Stmt := top 73
abbrev N_minute_answer : List Str := ["minute"]
abbrev P_minute_answer : List Str := ["minute"]
theorem sc_minute_answer : FnScope N_minute_answer P_minute_answer (defScope s_minute_answer) := ⟨rfl, rfl, rfl, by decide +kernel, rfl, by decide +kernel, by decide +kernel⟩
def sp_minute_answer : Sp := pureL (α := Int) (fun a => [.int a]) (fun a H => True) (fun a => [.int (if a = -1 then -33 else a)])
theorem has_minute_answer (T : Txt K mg C CD) (D : DefAt K mg "minute_answer" s_minute_answer) : Has P w K mg base 1 "minute_answer" P_minute_answer sp_minute_answer := by
  refine has_L D sc_minute_answer (fun _ => rfl) (fun _ _ _ _ _ _ us hl => match us, hl with | [_], _ => rfl) fun f cdv A outer s H E hr => ⟨_, (pss_one (ps_ret (pe_ifExp (pt_cmpR op_eq (pv 0) (pe_gi rfl T.c_NEVER) (nomark _)) (pe_lst (pa_cons (pe_gi rfl T.c_IMPOSSIBLE) pa_nil)) (pe_lst (pa_cons (pv 0) pa_nil))))), ?_⟩
  rintro t H0 Q _ e q
  refine s_retL (el_if (et_test (ev_op (ev_var rfl) ev_c (rv_eq rfl))) (fun hc => el_is (el_lst1 ev_c) ?_) (fun hc => el_is (el_lst1 (ev_var rfl)) ?_)) q
  · have : t = -1 := by simpa using hc
    rw [if_pos this]
  · have : ¬ t = -1 := by simpa using hc
    rw [if_neg this]
/-! ### the answers, each -/
abbrev qArgs (a : Addr × Network × Addr × List Nat) : List V := [.ref a.1, .ref a.2.2.1]
abbrev qPre (K : PySem.W.Frag) (C : Addr) (a : Addr × Network × Addr × List Nat) (H : Hp) : Prop := NetAt C H a.1 a.2.1 ∧ WF a.2.1 ∧ SqL K H a.2.2.1 (natV a.2.2.2)
/-- a query of an operation o that reads its numbers off the list -/
def sp_q (K : PySem.W.Frag) (C : Addr) (o : List Nat → Operation) (ok : List Nat → Prop) : Sp := pureL qArgs (fun a H => qPre K C a H ∧ ok a.2.2.2) (fun a => ans a.2.1 (o a.2.2.2))
abbrev o_listAreas : List Nat → Operation := fun _ => .listAreas
abbrev o_listPassages : List Nat → Operation := fun _ => .listPassages
abbrev o_maxEvacuated : List Nat → Operation := fun ns => .maxEvacuated (ns.getD 0 0)
abbrev o_minRemaining : List Nat → Operation := fun ns => .minRemaining (ns.getD 0 0)
abbrev o_earliest : List Nat → Operation := fun _ => .earliestEvacuation
abbrev o_minCut : List Nat → Operation := fun ns => .minCut (ns.getD 0 0)
abbrev o_cutCapacity : List Nat → Operation := fun ns => .cutCapacity (ns.getD 0 0) (ns.drop 1)
abbrev o_isValid : List Nat → Operation := fun ns => .isValidPlan ns
abbrev o_evacuated : List Nat → Operation := fun ns => .evacuatedByPlan (ns.getD 0 0) (ns.drop 1)
abbrev o_ifCapacity : List Nat → Operation := fun ns => .earliestIfCapacity (ns.getD 0 0) (ns.getD 1 0)
abbrev o_ifPeople : List Nat → Operation := fun ns => .earliestIfPeople (ns.getD 0 0) (ns.getD 1 0)
abbrev o_maxPeople : List Nat → Operation := fun ns => .maxPeople (ns.getD 0 0) (ns.getD 1 0)
abbrev o_critical : List Nat → Operation := fun _ => .criticalPassages
abbrev o_outgoing : List Nat → Operation := fun ns => .outgoingPassages (ns.getD 0 0)
abbrev o_state : List Nat → Operation := fun _ => .getState
abbrev len (k : Nat) : List Nat → Prop := fun ns => ns.length = k
theorem len1 {ns : List Nat} (h : ns.length = 1) : ∃ x, ns = [x] := match ns, h with | [x], _ => ⟨x, rfl⟩
theorem len2 {ns : List Nat} (h : ns.length = 2) : ∃ x y, ns = [x, y] := match ns, h with | [x, y], _ => ⟨x, y, rfl⟩
theorem len4 {ns : List Nat} (h : ns.length = 4) : ∃ x y z u, ns = [x, y, z, u] := match ns, h with | [x, y, z, u], _ => ⟨x, y, z, u, rfl⟩
theorem lenS {ns : List Nat} (h : 1 ≤ ns.length) : ∃ x r, ns = x :: r := match ns, h with | x :: r, _ => ⟨x, r, rfl⟩

def areaRow (as : List Area) : List V := as.flatMap fun a => [.int a.people, .int (flagI a.isExit)]
theorem areaRow_eq : ∀ as : List Area, natV (as.flatMap fun area => [area.people, Kv434.flag area.isExit]) = areaRow as
  | [] => rfl
  | a :: as => by
    have ih := areaRow_eq as
    unfold natV areaRow at ih ⊢
    rw [List.flatMap_cons, List.map_append, ih, List.flatMap_cons]
    congr 1
    show [V.int _, V.int _] = [V.int _, V.int _]
    congr 2
    cases a.isExit <;> rfl
theorem areaRow_len : ∀ as : List Area, (areaRow as).length = 2 * as.length
  | [] => rfl
  | a :: as => by
    have ih := areaRow_len as
    unfold areaRow at ih ⊢
    rw [List.flatMap_cons, List.length_append, ih]
    show 2 + 2 * as.length = 2 * (as.length + 1)
    omega
theorem flatMap_take_succ {α β : Type} {f : α → List β} {l : List α} {i : Nat} {x : α} (h : l[i]? = some x) : (l.take (i + 1)).flatMap f = (l.take i).flatMap f ++ f x := by
  rw [take_succ_snoc h, List.flatMap_append]
  simp
abbrev s_list_areas : Stmt := top 74
abbrev N_list_areas : List Str := ["building", "numbers", "found", "people", "is_exit"]
abbrev P_list_areas : List Str := ["building", "numbers"]
theorem sc_list_areas : FnScope N_list_areas P_list_areas (defScope s_list_areas) := ⟨rfl, rfl, rfl, by decide +kernel, rfl, by decide +kernel, by decide +kernel⟩
theorem has_list_areas (T : Txt K mg C CD) (D : DefAt K mg "list_areas" s_list_areas) (h_area_count : Has P w K mg base 1 "area_count" P_area_count (sp_area_count C)) : Has P w K mg base 2 "list_areas" P_list_areas (sp_q K C o_listAreas (fun _ => True)) := by
  refine has_L D sc_list_areas (fun _ => rfl) (fun _ _ _ _ _ _ us hl => match us, hl with | [_, _], _ => rfl) fun f cdv A outer s H E hr => ⟨_, (pss_cons (ps_set (i := 2) sc_list_areas.nd rfl (Or.inl rfl) (pe_lst (pa_cons (pe_callH h_area_count (hr.mono (by decide)) rfl (pa_cons (pv 0) pa_nil)) pa_nil))) (pss_cons (ps_for PassesOwn.never rfl (pi_zip rfl T.b_zip (pa_cons (pe_fld (pv 0) rfl) (pa_cons (pe_fld (pv 0) rfl) pa_nil))) (pg_tup rfl (pgs_cons (pg_name (i := 3) sc_list_areas.nd rfl (Or.inl rfl)) (pgs_cons (pg_name (i := 4) sc_list_areas.nd rfl (Or.inl rfl)) pgs_nil))) (pss_one (ps_expr (pe_bm PySem.F.plainAttrs_list PySem.F.slot_list_extend PySem.F.type_list_extend mt_extend (pv 2) (pa_cons (pe_lst (pa_cons (pv 3) (pa_cons (pv 4) pa_nil))) pa_nil))))) (pss_one (ps_ret (pv 2))))), ?_⟩
  rintro ⟨b, n, na, ns⟩ H0 Q ⟨⟨⟨pa, ea, la, ts, hN⟩, hW, _⟩, _⟩ e q
  replace hN := hN.mono e
  dsimp only at hN hW q
  have hpa : NetAt C H b n := ⟨pa, ea, la, ts, hN⟩
  have h5 := hW.areas
  have hans : ans n .listAreas = .int n.areas.length :: areaRow n.areas := by
    show rowR ⟨_, _⟩ = _
    rw [row_mk, areaRow_eq]
  rw [hans] at q
  refine s_asgL (el_lst1 (ev_call (ea_cons (ev_var rfl) ea_nil) (spV (a := (b, n)) hpa))) fun l H1 hl e1 h1 => ?_
  refine s_forZ (ev_people T.tb (hN.mono e1) (ev_var rfl)) (ev_exits T.tb (hN.mono e1) (ev_var rfl)) (SqL.o (hN.mono e1).ppl) (SqL.o (hN.mono e1).exi) (by rw [pplV_len, exV_len])
    (fun m σ' H' => ∃ v1 v2, σ' = [some (.ref b), some (.ref na), some (.ref l), v1, v2] ∧ Ex H H' ∧ H' l = some (.lst (.int n.areas.length :: areaRow (n.areas.take m)))) (fun H2 e2 => ⟨_, _, rfl, e1.trans e2, e2 _ _ h1⟩)
    (fun m σ' H' ⟨_, _, _, e2, _⟩ => ⟨SqL.o (hN.mono e2).ppl, SqL.o (hN.mono e2).exi⟩) ?_ ?_
  · rintro m x y σ' H' hm hm' ⟨v1, v2, rfl, e2, h2⟩ H2 e3
    obtain ⟨a, ha, rfl⟩ := imap hm
    obtain ⟨a', ha', rfl⟩ := imap hm'
    rw [ha] at ha'
    cases ha'
    have hs : areaRow (n.areas.take (m + 1)) = areaRow (n.areas.take m) ++ [.int a.people, .int (flagI a.isExit)] := flatMap_take_succ ha
    refine s_extL (e3 _ _ h2) (ev_var rfl) (el_lst2 (ev_var rfl) (ev_var rfl)) ?_ fun H3 e4 => ⟨_, _, rfl, Ex.grow e2 hl (e3.trans e4), ?_⟩
    · rw [List.length_cons, areaRow_len, List.length_take]
      show _ + 2 ≤ 100000
      omega
    · rw [upd_same, hs]
      rfl
  · rintro σ' H' ⟨v1, v2, rfl, e2, h2⟩
    rw [pplV_len, List.take_length] at h2
    exact s_ret (ev_var rfl) fun H3 e3 => q l H3 hl (e2.trans e3) (e3 _ _ h2)
def passRow (ps : List Passage) : List V := ps.flatMap tupV
theorem passRow_eq : ∀ ps : List Passage, natV (ps.flatMap fun q => [q.source, q.target, q.capacity, q.travelTime]) = passRow ps
  | [] => rfl
  | p :: ps => by
    have ih := passRow_eq ps
    unfold natV passRow at ih ⊢
    rw [List.flatMap_cons, List.map_append, ih, List.flatMap_cons]
    rfl
theorem passRow_len : ∀ ps : List Passage, (passRow ps).length = 4 * ps.length
  | [] => rfl
  | p :: ps => by
    have ih := passRow_len ps
    unfold passRow at ih ⊢
    rw [List.flatMap_cons, List.length_append, ih, List.length_cons]
    show 4 + _ = _
    omega
abbrev s_list_passages : Stmt := top 75
abbrev N_list_passages : List Str := ["building", "numbers", "found", "passage"]
abbrev P_list_passages : List Str := ["building", "numbers"]
theorem sc_list_passages : FnScope N_list_passages P_list_passages (defScope s_list_passages) := ⟨rfl, rfl, rfl, by decide +kernel, rfl, by decide +kernel, by decide +kernel⟩
theorem has_list_passages (T : Txt K mg C CD) (D : DefAt K mg "list_passages" s_list_passages) (h_passage_count : Has P w K mg base 1 "passage_count" P_passage_count (sp_passage_count C)) :
    Has P w K mg base 2 "list_passages" P_list_passages (sp_q K C o_listPassages (fun _ => True)) := by
  refine has_L D sc_list_passages (fun _ => rfl) (fun _ _ _ _ _ _ us hl => match us, hl with | [_, _], _ => rfl) fun f cdv A outer s H E hr => ⟨_, (pss_cons (ps_set (i := 2) sc_list_passages.nd rfl (Or.inl rfl) (pe_lst (pa_cons (pe_callH h_passage_count (hr.mono (by decide)) rfl (pa_cons (pv 0) pa_nil)) pa_nil))) (pss_cons (ps_for PassesOwn.never rfl (pi_list (pe_fld (pv 0) rfl)) (pg_name (i := 3) sc_list_passages.nd rfl (Or.inl rfl)) (pss_one (ps_expr (pe_bm PySem.F.plainAttrs_list PySem.F.slot_list_extend PySem.F.type_list_extend mt_extend (pv 2) (pa_cons (pe_callTy call_list_of (by rfl) T.b_list (by decide +kernel) (pa_cons (pv 3) pa_nil)) pa_nil))))) (pss_one (ps_ret (pv 2))))), ?_⟩
  rintro ⟨b, n, na, ns⟩ H0 Q ⟨⟨⟨pa, ea, la, ts, hN⟩, hW, _⟩, _⟩ e q
  replace hN := hN.mono e
  dsimp only at hN hW q
  have hpa : NetAt C H b n := ⟨pa, ea, la, ts, hN⟩
  have h8 := hW.passages
  have hans : ans n .listPassages = .int n.passages.length :: passRow n.passages := by
    show rowR ⟨_, _⟩ = _
    rw [row_mk, passRow_eq]
  rw [hans] at q
  refine s_asgL (el_lst1 (ev_call (ea_cons (ev_var rfl) ea_nil) (spV (a := (b, n)) hpa))) fun l H1 hl e1 h1 => ?_
  refine s_forL (ev_passages T.tb (hN.mono e1) (ev_var rfl)) (SqL.o (hN.mono e1).pas)
    (fun m σ' H' => ∃ v1, σ' = [some (.ref b), some (.ref na), some (.ref l), v1] ∧ Ex H H' ∧ H' l = some (.lst (.int n.passages.length :: passRow (n.passages.take m)))) (fun H2 e2 => ⟨_, rfl, e1.trans e2, e2 _ _ h1⟩)
    (fun m σ' H' _ ⟨_, _, e2, _⟩ => SqL.o (hN.mono e2).pas) ?_ ?_
  · rintro m x σ' H' hm ⟨v1, rfl, e2, h2⟩
    obtain ⟨t, ht, rfl⟩ := iref hm
    obtain ⟨p, hp, hT⟩ := hN.tup.get ht
    have hs : passRow (n.passages.take (m + 1)) = passRow (n.passages.take m) ++ tupV p := flatMap_take_succ hp
    refine s_extL h2 (ev_var rfl) (el_listT (ev_var rfl) (SqT.o (e2 _ _ hT))) ?_ fun H3 e4 => ⟨_, rfl, Ex.grow e2 hl e4, ?_⟩
    · rw [List.length_cons, passRow_len, List.length_take]
      show _ + 4 ≤ 100000
      omega
    · rw [upd_same, hs]
      rfl
  · rintro σ' H' ⟨v1, rfl, e2, h2⟩
    rw [List.length_map, hN.tup.length, List.take_length] at h2
    exact s_ret (ev_var rfl) fun H3 e3 => q l H3 hl (e2.trans e3) (e3 _ _ h2)
abbrev s_answer_max_evacuated : Stmt := top 76
abbrev N_answer_max_evacuated : List Str := ["building", "numbers", "minute"]
abbrev P_answer_max_evacuated : List Str := ["building", "numbers"]
theorem sc_answer_max_evacuated : FnScope N_answer_max_evacuated P_answer_max_evacuated (defScope s_answer_max_evacuated) := ⟨rfl, rfl, rfl, by decide +kernel, rfl, by decide +kernel, by decide +kernel⟩
theorem has_answer_max_evacuated (T : Txt K mg C CD) (D : DefAt K mg "answer_max_evacuated" s_answer_max_evacuated) (h_max_evacuated : Has P w K mg base 7 "max_evacuated" P_max_evacuated (sp_max_evacuated C)) :
    Has P w K mg base 8 "answer_max_evacuated" P_answer_max_evacuated (sp_q K C o_maxEvacuated (len 1)) := by
  refine has_L D sc_answer_max_evacuated (fun _ => rfl) (fun _ _ _ _ _ _ us hl => match us, hl with | [_, _], _ => rfl) fun f cdv A outer s H E hr => ⟨_, (pss_cons (ps_set (i := 2) sc_answer_max_evacuated.nd rfl (Or.inl rfl) (pe_ix ix_list (pv 1) pe_int (fun _ _ => rfl))) (pss_one (ps_ret (pe_ifExp (pt_cmpR op_gt (pv 2) (pe_gi rfl T.c_LAST_MINUTE) (nomark _)) (pe_lst (pa_cons (pe_gi rfl T.c_BAD_ARGUMENT) pa_nil)) (pe_lst (pa_cons (pe_callH h_max_evacuated (hr.mono (by decide)) rfl (pa_cons (pv 0) (pa_cons (pv 2) pa_nil))) pa_nil)))))), ?_⟩
  rintro ⟨b, n, na, ns⟩ H0 Q ⟨⟨hN, hW, hA⟩, hl⟩ e q
  replace hN := hN.mono e
  replace hA := ex_l e hA
  dsimp only at hN hW hA hl q
  obtain ⟨t, rfl⟩ := len1 hl
  refine s_asg (ev_op (ev_var rfl) ev_c (rv_ixL hA (atI_nat (j := 0) rfl))) fun H1 e1 => ?_
  have hans : ans n (.maxEvacuated t) = if 5 < t then [.int (-22)] else [.int (n.maxEvacuated t : Nat)] := row_if _ _
  have q' : ∀ p H', H p = none → Ex H H' → H' p = some (.lst (ans n (.maxEvacuated t))) → Q (.ref p) H' := q
  rw [hans] at q'
  refine s_retL (el_if (et_test (ev_op (ev_var rfl) ev_c rv_I0)) (fun hc => el_is (el_lst1 ev_c) ?_) (fun hc => ?_)) fun p H2 hp e2 h2 => q' p H2 (fresh_back e1 hp) (e1.trans e2) h2
  · have : (5 : Int) < t := by simpa using hc
    rw [if_pos (by omega)]
  · have : ¬ (5 : Int) < t := by simpa using hc
    refine el_is (el_lst1 (ev_call (ea_cons (ev_var rfl) (ea_cons (ev_var rfl) ea_nil)) (spV (a := (b, n, t)) ⟨hN.mono e1, hW, by show t ≤ 5; omega⟩))) ?_
    rw [if_neg (by omega)]
abbrev s_answer_min_remaining : Stmt := top 77
abbrev N_answer_min_remaining : List Str := ["building", "numbers", "minute"]
abbrev P_answer_min_remaining : List Str := ["building", "numbers"]
theorem sc_answer_min_remaining : FnScope N_answer_min_remaining P_answer_min_remaining (defScope s_answer_min_remaining) := ⟨rfl, rfl, rfl, by decide +kernel, rfl, by decide +kernel, by decide +kernel⟩
theorem has_answer_min_remaining (T : Txt K mg C CD) (D : DefAt K mg "answer_min_remaining" s_answer_min_remaining) (h_total_people : Has P w K mg base 1 "total_people" P_total_people (sp_total_people C)) (h_max_evacuated : Has P w K mg base 7 "max_evacuated" P_max_evacuated (sp_max_evacuated C)) :
    Has P w K mg base 8 "answer_min_remaining" P_answer_min_remaining (sp_q K C o_minRemaining (len 1)) := by
  refine has_L D sc_answer_min_remaining (fun _ => rfl) (fun _ _ _ _ _ _ us hl => match us, hl with | [_, _], _ => rfl) fun f cdv A outer s H E hr => ⟨_, (pss_cons (ps_set (i := 2) sc_answer_min_remaining.nd rfl (Or.inl rfl) (pe_ix ix_list (pv 1) pe_int (fun _ _ => rfl))) (pss_cons (ps_if (pt_cmpR op_gt (pv 2) (pe_gi rfl T.c_LAST_MINUTE) (nomark _)) (pss_one (ps_ret (pe_lst (pa_cons (pe_gi rfl T.c_BAD_ARGUMENT) pa_nil)))) pss_nil) (pss_one (ps_ret (pe_lst (pa_cons (pe_op op_sub (pe_callH h_total_people (hr.mono (by decide)) rfl (pa_cons (pv 0) pa_nil)) (pe_callH h_max_evacuated (hr.mono (by decide)) rfl (pa_cons (pv 0) (pa_cons (pv 2) pa_nil)))) pa_nil)))))), ?_⟩
  rintro ⟨b, n, na, ns⟩ H0 Q ⟨⟨hN, hW, hA⟩, hl⟩ e q
  replace hN := hN.mono e
  replace hA := ex_l e hA
  dsimp only at hN hW hA hl q
  obtain ⟨t, rfl⟩ := len1 hl
  refine s_asg (ev_op (ev_var rfl) ev_c (rv_ixL hA (atI_nat (j := 0) rfl))) fun H1 e1 => ?_
  have hans : ans n (.minRemaining t) = if 5 < t then [.int (-22)] else [.int (n.totalPeople - n.maxEvacuated t : Nat)] := row_if _ _
  have q' : ∀ p H', H p = none → Ex H H' → H' p = some (.lst (ans n (.minRemaining t))) → Q (.ref p) H' := q
  rw [hans] at q'
  refine s_if (et_test (ev_op (ev_var rfl) ev_c rv_I0)) (fun hc H2 e2 => ?_) (fun hc H2 e2 => ?_)
  · have : (5 : Int) < t := by simpa using hc
    rw [if_pos (by omega)] at q'
    exact s_retL (el_lst1 ev_c) fun p H3 hp e3 h3 => q' p H3 (fresh_back (e1.trans e2) hp) ((e1.trans e2).trans e3) h3
  · have : ¬ (5 : Int) < t := by simpa using hc
    rw [if_neg (by omega)] at q'
    refine s_retL (el_is (el_lst1 (ev_op (ev_call (ea_cons (ev_var rfl) ea_nil) (spV (a := (b, n)) (hN.mono (e1.trans e2)))) (ev_call (ea_cons (ev_var rfl) (ea_cons (ev_var rfl) ea_nil)) (spV (a := (b, n, t)) ⟨hN.mono (e1.trans e2), hW, by show t ≤ 5; omega⟩)) rv_I0)) ?_) fun p H3 hp e3 h3 => q' p H3 (fresh_back (e1.trans e2) hp) ((e1.trans e2).trans e3) h3
    have hle : n.maxEvacuated t ≤ n.totalPeople := max_le_total t hW.sr
    show [V.int ((n.totalPeople : Nat) - (n.maxEvacuated t : Nat))] = _
    rw [Int.natCast_sub hle]
abbrev s_answer_earliest : Stmt := top 78
abbrev N_answer_earliest : List Str := ["building", "numbers"]
abbrev P_answer_earliest : List Str := ["building", "numbers"]
theorem sc_answer_earliest : FnScope N_answer_earliest P_answer_earliest (defScope s_answer_earliest) := ⟨rfl, rfl, rfl, by decide +kernel, rfl, by decide +kernel, by decide +kernel⟩
theorem has_answer_earliest (T : Txt K mg C CD) (D : DefAt K mg "answer_earliest" s_answer_earliest) (h_minute_answer : Has P w K mg base 1 "minute_answer" P_minute_answer sp_minute_answer) (h_earliest : Has P w K mg base 8 "earliest" P_earliest (sp_earliest C)) :
    Has P w K mg base 9 "answer_earliest" P_answer_earliest (sp_q K C o_earliest (fun _ => True)) := by
  refine has_L D sc_answer_earliest (fun _ => rfl) (fun _ _ _ _ _ _ us hl => match us, hl with | [_, _], _ => rfl) fun f cdv A outer s H E hr => ⟨_, (pss_one (ps_ret (pe_callH h_minute_answer (hr.mono (by decide)) rfl (pa_cons (pe_callH h_earliest (hr.mono (by decide)) rfl (pa_cons (pv 0) pa_nil)) pa_nil)))), ?_⟩
  rintro ⟨b, n, na, ns⟩ H0 Q ⟨⟨hN, hW, _⟩, _⟩ e q
  replace hN := hN.mono e
  dsimp only at hN hW q
  refine s_retL (el_is (el_call (ea_cons (ev_call (ea_cons (ev_var rfl) ea_nil) (spV (a := (b, n)) ⟨hN, hW⟩)) ea_nil) (spL (a := earlyF n) trivial)) ?_) q
  exact (row_minute n.earliestEvacuation).symm
abbrev s_answer_min_cut : Stmt := top 79
abbrev N_answer_min_cut : List Str := ["building", "numbers", "minute", "cut"]
abbrev P_answer_min_cut : List Str := ["building", "numbers"]
theorem sc_answer_min_cut : FnScope N_answer_min_cut P_answer_min_cut (defScope s_answer_min_cut) := ⟨rfl, rfl, rfl, by decide +kernel, rfl, by decide +kernel, by decide +kernel⟩
theorem has_answer_min_cut (T : Txt K mg C CD) (D : DefAt K mg "answer_min_cut" s_answer_min_cut) (h_min_cut : Has P w K mg base 6 "min_cut" P_min_cut (sp_min_cut C)) (h_cut_capacity : Has P w K mg base 4 "cut_capacity" P_cut_capacity (sp_cut_capacity K C)) :
    Has P w K mg base 7 "answer_min_cut" P_answer_min_cut (sp_q K C o_minCut (len 1)) := by
  refine has_L D sc_answer_min_cut (fun _ => rfl) (fun _ _ _ _ _ _ us hl => match us, hl with | [_, _], _ => rfl) fun f cdv A outer s H E hr => ⟨_, (pss_cons (ps_set (i := 2) sc_answer_min_cut.nd rfl (Or.inl rfl) (pe_ix ix_list (pv 1) pe_int (fun _ _ => rfl))) (pss_cons (ps_if (pt_cmpR op_gt (pv 2) (pe_gi rfl T.c_LAST_MINUTE) (nomark _)) (pss_one (ps_ret (pe_lst (pa_cons (pe_gi rfl T.c_BAD_ARGUMENT) pa_nil)))) pss_nil) (pss_cons (ps_set (i := 3) sc_answer_min_cut.nd rfl (Or.inl rfl) (pe_callH h_min_cut (hr.mono (by decide)) rfl (pa_cons (pv 0) (pa_cons (pv 2) pa_nil)))) (pss_one (ps_ret (pe_op op_cat (pe_lst (pa_cons (pe_callH h_cut_capacity (hr.mono (by decide)) rfl (pa_cons (pv 0) (pa_cons (pv 3) pa_nil))) pa_nil)) (pv 3))))))), ?_⟩
  rintro ⟨b, n, na, ns⟩ H0 Q ⟨⟨hN, hW, hA⟩, hl⟩ e q
  replace hN := hN.mono e
  replace hA := ex_l e hA
  dsimp only at hN hW hA hl q
  obtain ⟨t, rfl⟩ := len1 hl
  have h5 := hW.areas
  refine s_asg (ev_op (ev_var rfl) ev_c (rv_ixL hA (atI_nat (j := 0) rfl))) fun H1 e1 => ?_
  have hans : ans n (.minCut t) = if 5 < t then [.int (-22)] else .int (n.maxEvacuated t : Nat) :: natV (n.minCut t) := (row_if _ _).trans (by rw [row_err, row_mk] <;> rfl)
  have q' : ∀ p H', H p = none → Ex H H' → H' p = some (.lst (ans n (.minCut t))) → Q (.ref p) H' := q
  rw [hans] at q'
  refine s_if (et_test (ev_op (ev_var rfl) ev_c rv_I0)) (fun hc H2 e2 => ?_) (fun hc H2 e2 => ?_)
  · have : (5 : Int) < t := by simpa using hc
    rw [if_pos (by omega)] at q'
    exact s_retL (el_lst1 ev_c) fun p H3 hp e3 h3 => q' p H3 (fresh_back (e1.trans e2) hp) ((e1.trans e2).trans e3) h3
  · have : ¬ (5 : Int) < t := by simpa using hc
    rw [if_neg (by omega)] at q'
    have e12 := e1.trans e2
    refine s_asgL (el_call (ea_cons (ev_var rfl) (ea_cons (ev_var rfl) ea_nil)) (spL (a := (b, n, t)) ⟨hN.mono e12, hW, by show t ≤ 5; omega⟩)) fun pc H3 hpc e3 h3 => ?_
    have e13 := e12.trans e3
    refine s_retL (el_is (el_cat (el_lst1 (ev_call (ea_cons (ev_var rfl) (ea_cons (ev_var rfl) ea_nil)) (spV (a := (b, n, pc, n.minCut t)) ⟨hN.mono e13, SqL.o h3, minCut_length n t, hW⟩))) (ev_var rfl) h3 ?_) ?_) fun p H4 hp e4 h4 => q' p H4 (fresh_back e13 hp) (e13.trans e4) h4
    · show 1 + (natV (n.minCut t)).length ≤ 100000
      rw [List.length_map, minCut_length]
      omega
    · show V.int _ :: natV (n.minCut t) = V.int _ :: natV (n.minCut t)
      rw [max_eq]
abbrev s_answer_cut_capacity : Stmt := top 80
abbrev N_answer_cut_capacity : List Str := ["building", "numbers", "minute", "cut"]
abbrev P_answer_cut_capacity : List Str := ["building", "numbers"]
theorem sc_answer_cut_capacity : FnScope N_answer_cut_capacity P_answer_cut_capacity (defScope s_answer_cut_capacity) := ⟨rfl, rfl, rfl, by decide +kernel, rfl, by decide +kernel, by decide +kernel⟩
theorem has_answer_cut_capacity (T : Txt K mg C CD) (D : DefAt K mg "answer_cut_capacity" s_answer_cut_capacity) (h_cut_capacity : Has P w K mg base 4 "cut_capacity" P_cut_capacity (sp_cut_capacity K C)) (h_is_cut : Has P w K mg base 1 "is_cut" P_is_cut (sp_is_cut K C)) :
    Has P w K mg base 5 "answer_cut_capacity" P_answer_cut_capacity (sp_q K C o_cutCapacity (fun ns => 1 ≤ ns.length)) := by
  refine has_L D sc_answer_cut_capacity (fun _ => rfl) (fun _ _ _ _ _ _ us hl => match us, hl with | [_, _], _ => rfl) fun f cdv A outer s H E hr => ⟨_, (pss_cons (ps_par (i := 2) (j := 3) rfl sc_answer_cut_capacity.nd rfl rfl (by decide) rfl rfl (pa_cons (pe_ix ix_list (pv 1) pe_int (fun _ _ => rfl)) (pa_cons (pe_slice sl_list (pv 1) (po_some pe_int) po_none) pa_nil)) (by rfl)) (pss_cons (ps_if (PW.pt (pw_or (pt_cmpR op_gt (pv 2) (pe_gi rfl T.c_LAST_MINUTE) (nomark _)) (pw_or1 (pt_not (pt_val (pe_callH h_is_cut (hr.mono (by decide)) rfl (pa_cons (pv 0) (pa_cons (pv 2) (pa_cons (pv 3) pa_nil))))))))) (pss_one (ps_ret (pe_lst (pa_cons (pe_gi rfl T.c_BAD_ARGUMENT) pa_nil)))) pss_nil) (pss_one (ps_ret (pe_lst (pa_cons (pe_callH h_cut_capacity (hr.mono (by decide)) rfl (pa_cons (pv 0) (pa_cons (pv 3) pa_nil))) pa_nil)))))), ?_⟩
  rintro ⟨b, n, na, ns⟩ H0 Q ⟨⟨hN, hW, hA⟩, hl⟩ e q
  replace hN := hN.mono e
  replace hA := ex_l e hA
  dsimp only at hN hW hA hl q
  obtain ⟨t, c, rfl⟩ := lenS hl
  have hans : ans n (.cutCapacity t c) = if 5 < t then [.int (-22)] else if (n.cuts t).contains c = false then [.int (-22)] else [.int (n.cutCapacity t c : Nat)] := (row_if _ _).trans (by rw [row_if, row_err, row_num] <;> rfl)
  have q' : ∀ p H', H p = none → Ex H H' → H' p = some (.lst (ans n (.cutCapacity t c))) → Q (.ref p) H' := q
  rw [hans, contains_cuts] at q'
  refine s_parR (ev_op (ev_var rfl) ev_c (rv_ixL hA (atI_nat (j := 0) rfl))) (el_tail (ev_var rfl) hA) fun pc H1 hpc e1 h1 => ?_
  refine s_if (et_or (et_test (ev_op (ev_var rfl) ev_c rv_I0)) fun _ => et_not (et_B (ev_call (ea_cons (ev_var rfl) (ea_cons (ev_var rfl) (ea_cons (ev_var rfl) ea_nil))) (spV (a := (b, n, t, pc, c)) ⟨hN.mono e1, SqL.o h1⟩)))) (fun hc H2 e2 => ?_) (fun hc H2 e2 => ?_)
  · have hv : (if 5 < t then [V.int (-22)] else if isCutB t n.areas c = false then [V.int (-22)] else [V.int (n.cutCapacity t c : Nat)]) = [V.int (-22)] := by
      rw [Bool.or_eq_true] at hc
      by_cases h5 : 5 < t
      · rw [if_pos h5]
      · rw [if_neg h5]
        rcases hc with hc | hc
        · exfalso
          have : (5 : Int) < t := by simpa using hc
          omega
        · rw [if_pos (by simpa using hc)]
    rw [hv] at q'
    exact s_retL (el_lst1 ev_c) fun p H3 hp e3 h3 => q' p H3 (fresh_back (e1.trans e2) hp) ((e1.trans e2).trans e3) h3
  · rw [Bool.or_eq_false_iff] at hc
    have h5 : ¬ (5 : Int) < t := by simpa using hc.1
    have hcut : isCutB t n.areas c = true := by simpa using hc.2
    rw [if_neg (by omega), if_neg (by rw [hcut]; exact fun z => by cases z), cap_eq (isCutB_le hcut)] at q'
    have e12 := e1.trans e2
    exact s_retL (el_lst1 (ev_call (ea_cons (ev_var rfl) (ea_cons (ev_var rfl) ea_nil)) (spV (a := (b, n, pc, c)) ⟨hN.mono e12, SqL.o (e2 _ _ h1), isCutB_length hcut, hW⟩))) fun p H3 hp e3 h3 => q' p H3 (fresh_back e12 hp) (e12.trans e3) h3
theorem form_of {ns : List Nat} (h : isStepList ns = true) : ∃ m, ns.length = 3 * m ∧ m ≤ 12 := by
  unfold isStepList at h
  rw [Bool.and_eq_true, beq_iff_eq, decide_eq_true_eq] at h
  exact ⟨ns.length / 3, by omega, by omega⟩
abbrev s_answer_is_valid : Stmt := top 81
abbrev N_answer_is_valid : List Str := ["building", "numbers"]
abbrev P_answer_is_valid : List Str := ["building", "numbers"]
theorem sc_answer_is_valid : FnScope N_answer_is_valid P_answer_is_valid (defScope s_answer_is_valid) := ⟨rfl, rfl, rfl, by decide +kernel, rfl, by decide +kernel, by decide +kernel⟩
theorem ev_stepsCall {σ : L2.St} {H : Hp} {ta tb : TE} {sp : Sp} {x z : V} {a : Addr} {ns : List Nat} (h1 : Ev ta σ H x) (h2 : Ev tb σ H (.ref a)) (hA : SqL K H a (natV ns)) (hf : isStepList ns = true)
    (hs : ∀ p H1, Ex H H1 → StepsAt K H1 p (parseSteps ns) → SpV sp [x, .ref p] H1 z) : Ev (tCall sp [] E0 (tCons ta (tCons (tCall (sp_steps_of K) [] E0 (tCons tb tNil)) tNil))) σ H z := fun H1 e Q q => by
  obtain ⟨m, hm, h12⟩ := form_of hf
  exact h1 H1 e _ fun H2 e2 => h2 H2 (e.trans e2) _ fun H3 e3 => ⟨a, ns, m, H, (e.trans e2).trans e3, rfl, hA, hm, h12, fun p H4 hp e4 h4 => hs p H4 (((e.trans e2).trans e3).trans e4) h4 H4 (Ex.refl _) Q (fun H5 e5 => q H5 (((e2.trans e3).trans e4).trans e5)) E0⟩
theorem has_answer_is_valid (T : Txt K mg C CD) (D : DefAt K mg "answer_is_valid" s_answer_is_valid) (h_is_form : Has P w K mg base 1 "is_form" P_is_form (sp_is_form K)) (h_is_valid : Has P w K mg base 5 "is_valid" P_is_valid (sp_is_valid K C))
    (h_steps_of : Has P w K mg base 1 "steps_of" P_steps_of (sp_steps_of K)) : Has P w K mg base 6 "answer_is_valid" P_answer_is_valid (sp_q K C o_isValid (fun _ => True)) := by
  refine has_L D sc_answer_is_valid (fun _ => rfl) (fun _ _ _ _ _ _ us hl => match us, hl with | [_, _], _ => rfl) fun f cdv A outer s H E hr => ⟨_, (pss_cons (ps_if (pt_not (pt_val (pe_callH h_is_form (hr.mono (by decide)) rfl (pa_cons (pv 1) pa_nil)))) (pss_one (ps_ret (pe_lst (pa_cons (pe_gi rfl T.c_BAD_ARGUMENT) pa_nil)))) pss_nil) (pss_one (ps_ret (pe_lst (pa_cons (pe_callTy call_int1 (by rfl) T.b_int (by decide +kernel) (pa_cons (pe_callH h_is_valid (hr.mono (by decide)) rfl (pa_cons (pv 0) (pa_cons (pe_callH h_steps_of (hr.mono (by decide)) rfl (pa_cons (pv 1) pa_nil)) pa_nil))) pa_nil)) pa_nil))))), ?_⟩
  rintro ⟨b, n, na, ns⟩ H0 Q ⟨⟨hN, hW, hA⟩, hl⟩ e q
  replace hN := hN.mono e
  replace hA := ex_l e hA
  dsimp only at hN hW hA hl q
  have hans : ans n (.isValidPlan ns) = if isStepList ns = false then [.int (-22)] else [.int (Kv434.flag (n.isValidPlan (parseSteps ns)) : Nat)] := (row_if _ _).trans (by rw [row_err, row_num] <;> rfl)
  have q' : ∀ p H', H p = none → Ex H H' → H' p = some (.lst (ans n (.isValidPlan ns))) → Q (.ref p) H' := q
  rw [hans] at q'
  refine s_if (et_not (et_B (ev_call (ea_cons (ev_var rfl) ea_nil) (spV (a := (na, ns)) hA)))) (fun hc H1 e1 => ?_) (fun hc H1 e1 => ?_)
  · have hf : isStepList ns = false := by simpa using hc
    rw [if_pos hf] at q'
    exact s_retL (el_lst1 ev_c) fun p H3 hp e3 h3 => q' p H3 (fresh_back e1 hp) (e1.trans e3) h3
  · have hf : isStepList ns = true := by simpa using hc
    rw [if_neg (by rw [hf]; exact fun z => by cases z)] at q'
    refine s_retL (el_is (el_lst1 (ev_intB (ev_stepsCall (z := .bl (n.isValidPlan (parseSteps ns))) (ev_var rfl) (ev_var rfl) (ex_l e1 hA) hf fun p H2 e2 h2 => spV (a := (b, n, p, parseSteps ns)) ⟨hN.mono (e1.trans e2), hW, h2⟩))) ?_) fun p H3 hp e3 h3 => q' p H3 (fresh_back e1 hp) (e1.trans e3) h3
    cases n.isValidPlan (parseSteps ns) <;> rfl
theorem s_asgSteps {σ : L2.St} {H : Hp} {tb : TE} {D : Ends} {i : Nat} {a : Addr} {ns : List Nat} (h2 : Ev tb σ H (.ref a)) (hA : SqL K H a (natV ns)) (hf : isStepList ns = true) (k : ∀ p H1, H p = none → Ex H H1 → StepsAt K H1 p (parseSteps ns) → D.nx (σ.set i (some (.ref p))) H1) :
    tAsg (tCall (sp_steps_of K) [] E0 (tCons tb tNil)) (gName i) D σ H := by
  obtain ⟨m, hm, h12⟩ := form_of hf
  exact h2 H (Ex.refl _) _ fun H3 e3 => ⟨a, ns, m, H, e3, rfl, hA, hm, h12, fun p H4 hp e4 h4 => k p H4 (fresh_back e3 hp) (e3.trans e4) h4⟩
abbrev s_answer_evacuated : Stmt := top 82
abbrev N_answer_evacuated : List Str := ["building", "numbers", "minute", "plan", "steps"]
abbrev P_answer_evacuated : List Str := ["building", "numbers"]
theorem sc_answer_evacuated : FnScope N_answer_evacuated P_answer_evacuated (defScope s_answer_evacuated) := ⟨rfl, rfl, rfl, by decide +kernel, rfl, by decide +kernel, by decide +kernel⟩
theorem has_answer_evacuated (T : Txt K mg C CD) (D : DefAt K mg "answer_evacuated" s_answer_evacuated) (h_is_form : Has P w K mg base 1 "is_form" P_is_form (sp_is_form K)) (h_is_valid : Has P w K mg base 5 "is_valid" P_is_valid (sp_is_valid K C))
    (h_steps_of : Has P w K mg base 1 "steps_of" P_steps_of (sp_steps_of K)) (h_evacuated : Has P w K mg base 4 "evacuated" P_evacuated (sp_evacuated K C)) : Has P w K mg base 6 "answer_evacuated" P_answer_evacuated (sp_q K C o_evacuated (fun ns => 1 ≤ ns.length)) := by
  refine has_L D sc_answer_evacuated (fun _ => rfl) (fun _ _ _ _ _ _ us hl => match us, hl with | [_, _], _ => rfl) fun f cdv A outer s H E hr => ⟨_, (pss_cons (ps_par (i := 2) (j := 3) rfl sc_answer_evacuated.nd rfl rfl (by decide) rfl rfl (pa_cons (pe_ix ix_list (pv 1) pe_int (fun _ _ => rfl)) (pa_cons (pe_slice sl_list (pv 1) (po_some pe_int) po_none) pa_nil)) (by rfl)) (pss_cons (ps_if (PW.pt (pw_or (pt_cmpR op_gt (pv 2) (pe_gi rfl T.c_LAST_MINUTE) (nomark _)) (pw_or1 (pt_not (pt_val (pe_callH h_is_form (hr.mono (by decide)) rfl (pa_cons (pv 3) pa_nil))))))) (pss_one (ps_ret (pe_lst (pa_cons (pe_gi rfl T.c_BAD_ARGUMENT) pa_nil)))) pss_nil) (pss_cons (ps_set (i := 4) sc_answer_evacuated.nd rfl (Or.inl rfl) (pe_callH h_steps_of (hr.mono (by decide)) rfl (pa_cons (pv 3) pa_nil))) (pss_cons (ps_if (pt_not (pt_val (pe_callH h_is_valid (hr.mono (by decide)) rfl (pa_cons (pv 0) (pa_cons (pv 4) pa_nil))))) (pss_one (ps_ret (pe_lst (pa_cons (pe_gi rfl T.c_IMPOSSIBLE) pa_nil)))) pss_nil) (pss_one (ps_ret (pe_lst (pa_cons (pe_callH h_evacuated (hr.mono (by decide)) rfl (pa_cons (pv 0) (pa_cons (pv 4) (pa_cons (pv 2) pa_nil)))) pa_nil)))))))), ?_⟩
  rintro ⟨b, n, na, ns⟩ H0 Q ⟨⟨hN, hW, hA⟩, hl⟩ e q
  replace hN := hN.mono e
  replace hA := ex_l e hA
  dsimp only at hN hW hA hl q
  obtain ⟨t, c, rfl⟩ := lenS hl
  have hans : ans n (.evacuatedByPlan t c) = if 5 < t ∨ isStepList c = false then [.int (-22)] else if n.isValidPlan (parseSteps c) = false then [.int (-33)] else [.int (n.evacuatedBy (parseSteps c) t)] := (row_if _ _).trans (by rw [row_if, row_err, row_err, row_mk] <;> rfl)
  have q' : ∀ p H', H p = none → Ex H H' → H' p = some (.lst (ans n (.evacuatedByPlan t c))) → Q (.ref p) H' := q
  rw [hans] at q'
  refine s_parR (ev_op (ev_var rfl) ev_c (rv_ixL hA (atI_nat (j := 0) rfl))) (el_tail (ev_var rfl) hA) fun pc H1 hpc e1 h1 => ?_
  refine s_if (et_or (et_test (ev_op (ev_var rfl) ev_c rv_I0)) fun _ => et_not (et_B (ev_call (ea_cons (ev_var rfl) ea_nil) (spV (a := (pc, c)) (SqL.o h1))))) (fun hc H2 e2 => ?_) (fun hc H2 e2 => ?_)
  · rw [if_pos ?_] at q'
    · exact s_retL (el_lst1 ev_c) fun p H3 hp e3 h3 => q' p H3 (fresh_back (e1.trans e2) hp) ((e1.trans e2).trans e3) h3
    · rw [Bool.or_eq_true] at hc
      rcases hc with hc | hc
      · have : (5 : Int) < t := by simpa using hc
        exact .inl (by omega)
      · exact .inr (by simpa using hc)
  · rw [Bool.or_eq_false_iff] at hc
    have h5 : ¬ (5 : Int) < t := by simpa using hc.1
    have hf : isStepList c = true := by simpa using hc.2
    rw [if_neg (by rintro (z | z); omega; rw [hf] at z; cases z)] at q'
    have e12 := e1.trans e2
    refine s_asgSteps (ev_var rfl) (SqL.o (e2 _ _ h1)) hf fun sa H3 hsa e3 h3 => ?_
    have e13 := e12.trans e3
    refine s_if (et_not (et_B (ev_call (ea_cons (ev_var rfl) (ea_cons (ev_var rfl) ea_nil)) (spV (a := (b, n, sa, parseSteps c)) ⟨hN.mono e13, hW, h3⟩)))) (fun hb H4 e4 => ?_) (fun hb H4 e4 => ?_)
    · have hv : n.isValidPlan (parseSteps c) = false := by simpa using hb
      rw [if_pos hv] at q'
      exact s_retL (el_lst1 ev_c) fun p H5 hp e5 h5 => q' p H5 (fresh_back (e13.trans e4) hp) ((e13.trans e4).trans e5) h5
    · have hv : n.isValidPlan (parseSteps c) = true := by simpa using hb
      rw [if_neg (by rw [hv]; exact fun z => by cases z)] at q'
      have hk : knownB n (parseSteps c) = true := by
        rw [valid_eq, Bool.and_eq_true, Bool.and_eq_true] at hv
        exact hv.1.1
      have e14 := e13.trans e4
      exact s_retL (el_lst1 (ev_call (ea_cons (ev_var rfl) (ea_cons (ev_var rfl) (ea_cons (ev_var rfl) ea_nil))) (spV (a := (b, n, sa, parseSteps c, t)) ⟨hN.mono e14, hW, h3.mono e4, hk⟩))) fun p H5 hp e5 h5 => q' p H5 (fresh_back e14 hp) (e14.trans e5) h5
abbrev s_answer_if_capacity : Stmt := top 83
abbrev N_answer_if_capacity : List Str := ["building", "numbers", "passage", "capacity"]
abbrev P_answer_if_capacity : List Str := ["building", "numbers"]
theorem sc_answer_if_capacity : FnScope N_answer_if_capacity P_answer_if_capacity (defScope s_answer_if_capacity) := ⟨rfl, rfl, rfl, by decide +kernel, rfl, by decide +kernel, by decide +kernel⟩
theorem has_answer_if_capacity (T : Txt K mg C CD) (D : DefAt K mg "answer_if_capacity" s_answer_if_capacity) (h_minute_answer : Has P w K mg base 1 "minute_answer" P_minute_answer sp_minute_answer) (h_earliest : Has P w K mg base 8 "earliest" P_earliest (sp_earliest C))
    (h_has_passage : Has P w K mg base 1 "has_passage" P_has_passage (sp_has_passage C)) (h_is_capacity : Has P w K mg base 1 "is_capacity" P_is_capacity sp_is_capacity) (h_building_with_capacity : Has P w K mg base 3 "building_with_capacity" P_building_with_capacity (sp_building_with_capacity C)) :
    Has P w K mg base 9 "answer_if_capacity" P_answer_if_capacity (sp_q K C o_ifCapacity (len 2)) := by
  refine has_L D sc_answer_if_capacity (fun _ => rfl) (fun _ _ _ _ _ _ us hl => match us, hl with | [_, _], _ => rfl) fun f cdv A outer s H E hr => ⟨_, (pss_cons (ps_asg (pv 1) (pg_unl rfl (pgs_cons (pg_name (i := 2) sc_answer_if_capacity.nd rfl (Or.inl rfl)) (pgs_cons (pg_name (i := 3) sc_answer_if_capacity.nd rfl (Or.inl rfl)) pgs_nil)))) (pss_cons (ps_if (pt_not (pt_val (pe_callH h_has_passage (hr.mono (by decide)) rfl (pa_cons (pv 0) (pa_cons (pv 2) pa_nil))))) (pss_one (ps_ret (pe_lst (pa_cons (pe_gi rfl T.c_NO_SUCH) pa_nil)))) pss_nil) (pss_cons (ps_if (pt_not (pt_val (pe_callH h_is_capacity (hr.mono (by decide)) rfl (pa_cons (pv 3) pa_nil)))) (pss_one (ps_ret (pe_lst (pa_cons (pe_gi rfl T.c_BAD_ARGUMENT) pa_nil)))) pss_nil) (pss_one (ps_ret (pe_callH h_minute_answer (hr.mono (by decide)) rfl (pa_cons (pe_callH h_earliest (hr.mono (by decide)) rfl (pa_cons (pe_callH h_building_with_capacity (hr.mono (by decide)) rfl (pa_cons (pv 0) (pa_cons (pv 2) (pa_cons (pv 3) pa_nil)))) pa_nil)) pa_nil))))))), ?_⟩
  rintro ⟨b, n, na, ns⟩ H0 Q ⟨⟨hN, hW, hA⟩, hl⟩ e q
  replace hN := hN.mono e
  replace hA := ex_l e hA
  dsimp only at hN hW hA hl q
  obtain ⟨k, v, rfl⟩ := len2 hl
  have hans : ans n (.earliestIfCapacity k v) = if decide (k < n.passages.length) = false then [.int (-2)] else if v = 0 ∨ 9 < v then [.int (-22)] else rowR (Response.minute (n.withCapacity k v).earliestEvacuation) := (row_if _ _).trans (by rw [row_if, row_err, row_err] <;> rfl)
  have q' : ∀ p H', H p = none → Ex H H' → H' p = some (.lst (ans n (.earliestIfCapacity k v))) → Q (.ref p) H' := q
  rw [hans] at q'
  refine s_unl2 (ev_var rfl) hA fun H1 e1 => ?_
  refine s_if (et_not (et_B (ev_call (ea_cons (ev_var rfl) (ea_cons (ev_var rfl) ea_nil)) (spV (a := (b, n, k)) (hN.mono e1))))) (fun hc H2 e2 => ?_) (fun hc H2 e2 => ?_)
  · rw [if_pos (by rw [Bool.not_eq_true'] at hc; exact hc)] at q'
    exact s_retL (el_lst1 ev_c) fun p H3 hp e3 h3 => q' p H3 (fresh_back (e1.trans e2) hp) ((e1.trans e2).trans e3) h3
  · rw [Bool.not_eq_false'] at hc
    have hk : k < n.passages.length := of_decide_eq_true hc
    rw [if_neg (by rw [decide_eq_true hk]; exact fun z => by cases z)] at q'
    have e12 := e1.trans e2
    refine s_if (et_not (et_B (ev_call (ea_cons (ev_var rfl) ea_nil) (spV (a := v) trivial)))) (fun hb H3 e3 => ?_) (fun hb H3 e3 => ?_)
    · rw [if_pos ?_] at q'
      · exact s_retL (el_lst1 ev_c) fun p H4 hp e4 h4 => q' p H4 (fresh_back (e12.trans e3) hp) ((e12.trans e3).trans e4) h4
      · simp at hb
        omega
    · have hv : 1 ≤ v ∧ v ≤ 9 := by simpa using hb
      rw [if_neg (by omega), row_minute] at q'
      have e13 := e12.trans e3
      have hB : EvB C (tCall (sp_building_with_capacity C) [] E0 (tCons (tVar 0) (tCons (tVar 2) (tCons (tVar 3) tNil)))) [some (.ref b), some (.ref na), some (.int k), some (.int v)] H3 (n.withCapacity k v) := eb_call (a := (b, n, k, v)) (ea_cons (ev_var rfl) (ea_cons (ev_var rfl) (ea_cons (ev_var rfl) ea_nil))) ⟨hN.mono e13, hk⟩
      have hE : Ev (tCall (sp_earliest C) [] E0 (tCons (tCall (sp_building_with_capacity C) [] E0 (tCons (tVar 0) (tCons (tVar 2) (tCons (tVar 3) tNil)))) tNil)) [some (.ref b), some (.ref na), some (.int k), some (.int v)] H3 (.int (earlyF (n.withCapacity k v))) := ev_callB1 hB fun p H4 e4 h4 => spV (a := (p, n.withCapacity k v)) ⟨h4, hW.withCapacity k hv.1 hv.2⟩
      exact s_retL (el_call (ea_cons hE ea_nil) (spL (a := earlyF (n.withCapacity k v)) trivial)) fun p H4 hp e4 h4 => q' p H4 (fresh_back e13 hp) (e13.trans e4) h4
abbrev s_answer_if_people : Stmt := top 84
abbrev N_answer_if_people : List Str := ["building", "numbers", "area", "people"]
abbrev P_answer_if_people : List Str := ["building", "numbers"]
theorem sc_answer_if_people : FnScope N_answer_if_people P_answer_if_people (defScope s_answer_if_people) := ⟨rfl, rfl, rfl, by decide +kernel, rfl, by decide +kernel, by decide +kernel⟩
theorem has_answer_if_people (T : Txt K mg C CD) (D : DefAt K mg "answer_if_people" s_answer_if_people) (h_minute_answer : Has P w K mg base 1 "minute_answer" P_minute_answer sp_minute_answer) (h_earliest : Has P w K mg base 8 "earliest" P_earliest (sp_earliest C))
    (h_has_area : Has P w K mg base 1 "has_area" P_has_area (sp_has_area C)) (h_building_with_people : Has P w K mg base 3 "building_with_people" P_building_with_people (sp_building_with_people C)) :
    Has P w K mg base 9 "answer_if_people" P_answer_if_people (sp_q K C o_ifPeople (len 2)) := by
  refine has_L D sc_answer_if_people (fun _ => rfl) (fun _ _ _ _ _ _ us hl => match us, hl with | [_, _], _ => rfl) fun f cdv A outer s H E hr => ⟨_, (pss_cons (ps_asg (pv 1) (pg_unl rfl (pgs_cons (pg_name (i := 2) sc_answer_if_people.nd rfl (Or.inl rfl)) (pgs_cons (pg_name (i := 3) sc_answer_if_people.nd rfl (Or.inl rfl)) pgs_nil)))) (pss_cons (ps_if (pt_not (pt_val (pe_callH h_has_area (hr.mono (by decide)) rfl (pa_cons (pv 0) (pa_cons (pv 2) pa_nil))))) (pss_one (ps_ret (pe_lst (pa_cons (pe_gi rfl T.c_NO_SUCH) pa_nil)))) pss_nil) (pss_cons (ps_if (pt_cmpR op_gt (pv 3) (pe_gi rfl T.c_MAX_PEOPLE) (nomark _)) (pss_one (ps_ret (pe_lst (pa_cons (pe_gi rfl T.c_BAD_ARGUMENT) pa_nil)))) pss_nil) (pss_one (ps_ret (pe_callH h_minute_answer (hr.mono (by decide)) rfl (pa_cons (pe_callH h_earliest (hr.mono (by decide)) rfl (pa_cons (pe_callH h_building_with_people (hr.mono (by decide)) rfl (pa_cons (pv 0) (pa_cons (pv 2) (pa_cons (pv 3) pa_nil)))) pa_nil)) pa_nil))))))), ?_⟩
  rintro ⟨b, n, na, ns⟩ H0 Q ⟨⟨hN, hW, hA⟩, hl⟩ e q
  replace hN := hN.mono e
  replace hA := ex_l e hA
  dsimp only at hN hW hA hl q
  obtain ⟨k, v, rfl⟩ := len2 hl
  have hans : ans n (.earliestIfPeople k v) = if decide (k < n.areas.length) = false then [.int (-2)] else if 20 < v then [.int (-22)] else rowR (Response.minute (n.withPeople k v).earliestEvacuation) := (row_if _ _).trans (by rw [row_if, row_err, row_err] <;> rfl)
  have q' : ∀ p H', H p = none → Ex H H' → H' p = some (.lst (ans n (.earliestIfPeople k v))) → Q (.ref p) H' := q
  rw [hans] at q'
  refine s_unl2 (ev_var rfl) hA fun H1 e1 => ?_
  refine s_if (et_not (et_B (ev_call (ea_cons (ev_var rfl) (ea_cons (ev_var rfl) ea_nil)) (spV (a := (b, n, k)) (hN.mono e1))))) (fun hc H2 e2 => ?_) (fun hc H2 e2 => ?_)
  · rw [if_pos (by rw [Bool.not_eq_true'] at hc; exact hc)] at q'
    exact s_retL (el_lst1 ev_c) fun p H3 hp e3 h3 => q' p H3 (fresh_back (e1.trans e2) hp) ((e1.trans e2).trans e3) h3
  · rw [Bool.not_eq_false'] at hc
    have hk : k < n.areas.length := of_decide_eq_true hc
    rw [if_neg (by rw [decide_eq_true hk]; exact fun z => by cases z)] at q'
    have e12 := e1.trans e2
    refine s_if (et_test (ev_op (ev_var rfl) ev_c rv_I0)) (fun hb H3 e3 => ?_) (fun hb H3 e3 => ?_)
    · have : (20 : Int) < v := by simpa using hb
      rw [if_pos (by omega)] at q'
      exact s_retL (el_lst1 ev_c) fun p H4 hp e4 h4 => q' p H4 (fresh_back (e12.trans e3) hp) ((e12.trans e3).trans e4) h4
    · have : ¬ (20 : Int) < v := by simpa using hb
      rw [if_neg (by omega), row_minute] at q'
      have e13 := e12.trans e3
      have hB : EvB C (tCall (sp_building_with_people C) [] E0 (tCons (tVar 0) (tCons (tVar 2) (tCons (tVar 3) tNil)))) [some (.ref b), some (.ref na), some (.int k), some (.int v)] H3 (n.withPeople k v) := eb_call (a := (b, n, k, v)) (ea_cons (ev_var rfl) (ea_cons (ev_var rfl) (ea_cons (ev_var rfl) ea_nil))) ⟨hN.mono e13, hk⟩
      have hE : Ev (tCall (sp_earliest C) [] E0 (tCons (tCall (sp_building_with_people C) [] E0 (tCons (tVar 0) (tCons (tVar 2) (tCons (tVar 3) tNil)))) tNil)) [some (.ref b), some (.ref na), some (.int k), some (.int v)] H3 (.int (earlyF (n.withPeople k v))) := ev_callB1 hB fun p H4 e4 h4 => spV (a := (p, n.withPeople k v)) ⟨h4, hW.withPeople k (by omega)⟩
      exact s_retL (el_call (ea_cons hE ea_nil) (spL (a := earlyF (n.withPeople k v)) trivial)) fun p H4 hp e4 h4 => q' p H4 (fresh_back e13 hp) (e13.trans e4) h4
abbrev s_answer_max_people : Stmt := top 85
abbrev N_answer_max_people : List Str := ["building", "numbers", "area", "minute"]
abbrev P_answer_max_people : List Str := ["building", "numbers"]
theorem sc_answer_max_people : FnScope N_answer_max_people P_answer_max_people (defScope s_answer_max_people) := ⟨rfl, rfl, rfl, by decide +kernel, rfl, by decide +kernel, by decide +kernel⟩
theorem has_answer_max_people (T : Txt K mg C CD) (D : DefAt K mg "answer_max_people" s_answer_max_people) (h_minute_answer : Has P w K mg base 1 "minute_answer" P_minute_answer sp_minute_answer) (h_has_area : Has P w K mg base 1 "has_area" P_has_area (sp_has_area C))
    (h_max_people : Has P w K mg base 6 "max_people" P_max_people (sp_max_people C)) : Has P w K mg base 7 "answer_max_people" P_answer_max_people (sp_q K C o_maxPeople (len 2)) := by
  refine has_L D sc_answer_max_people (fun _ => rfl) (fun _ _ _ _ _ _ us hl => match us, hl with | [_, _], _ => rfl) fun f cdv A outer s H E hr => ⟨_, (pss_cons (ps_asg (pv 1) (pg_unl rfl (pgs_cons (pg_name (i := 2) sc_answer_max_people.nd rfl (Or.inl rfl)) (pgs_cons (pg_name (i := 3) sc_answer_max_people.nd rfl (Or.inl rfl)) pgs_nil)))) (pss_cons (ps_if (pt_not (pt_val (pe_callH h_has_area (hr.mono (by decide)) rfl (pa_cons (pv 0) (pa_cons (pv 2) pa_nil))))) (pss_one (ps_ret (pe_lst (pa_cons (pe_gi rfl T.c_NO_SUCH) pa_nil)))) pss_nil) (pss_cons (ps_if (pt_cmpR op_gt (pv 3) (pe_gi rfl T.c_LAST_MINUTE) (nomark _)) (pss_one (ps_ret (pe_lst (pa_cons (pe_gi rfl T.c_BAD_ARGUMENT) pa_nil)))) pss_nil) (pss_one (ps_ret (pe_callH h_minute_answer (hr.mono (by decide)) rfl (pa_cons (pe_callH h_max_people (hr.mono (by decide)) rfl (pa_cons (pv 0) (pa_cons (pv 2) (pa_cons (pv 3) pa_nil)))) pa_nil))))))), ?_⟩
  rintro ⟨b, n, na, ns⟩ H0 Q ⟨⟨hN, hW, hA⟩, hl⟩ e q
  replace hN := hN.mono e
  replace hA := ex_l e hA
  dsimp only at hN hW hA hl q
  obtain ⟨k, t, rfl⟩ := len2 hl
  have hans : ans n (.maxPeople k t) = if decide (k < n.areas.length) = false then [.int (-2)] else if 5 < t then [.int (-22)] else [.int (if maxPeopleF n k t = -1 then -33 else maxPeopleF n k t)] := (row_if _ _).trans (by
    rw [row_if, row_err, row_err]
    congr 2
    unfold maxPeopleF
    dsimp only
    cases n.maxPeople k t with
    | none => rfl
    | some m =>
      dsimp only
      rw [if_neg (by omega)]
      rfl)
  have q' : ∀ p H', H p = none → Ex H H' → H' p = some (.lst (ans n (.maxPeople k t))) → Q (.ref p) H' := q
  rw [hans] at q'
  refine s_unl2 (ev_var rfl) hA fun H1 e1 => ?_
  refine s_if (et_not (et_B (ev_call (ea_cons (ev_var rfl) (ea_cons (ev_var rfl) ea_nil)) (spV (a := (b, n, k)) (hN.mono e1))))) (fun hc H2 e2 => ?_) (fun hc H2 e2 => ?_)
  · rw [if_pos (by rw [Bool.not_eq_true'] at hc; exact hc)] at q'
    exact s_retL (el_lst1 ev_c) fun p H3 hp e3 h3 => q' p H3 (fresh_back (e1.trans e2) hp) ((e1.trans e2).trans e3) h3
  · rw [Bool.not_eq_false'] at hc
    have hk : k < n.areas.length := of_decide_eq_true hc
    rw [if_neg (by rw [decide_eq_true hk]; exact fun z => by cases z)] at q'
    have e12 := e1.trans e2
    refine s_if (et_test (ev_op (ev_var rfl) ev_c rv_I0)) (fun hb H3 e3 => ?_) (fun hb H3 e3 => ?_)
    · have : (5 : Int) < t := by simpa using hb
      rw [if_pos (by omega)] at q'
      exact s_retL (el_lst1 ev_c) fun p H4 hp e4 h4 => q' p H4 (fresh_back (e12.trans e3) hp) ((e12.trans e3).trans e4) h4
    · have : ¬ (5 : Int) < t := by simpa using hb
      rw [if_neg (by omega)] at q'
      have e13 := e12.trans e3
      exact s_retL (el_call (ea_cons (ev_call (ea_cons (ev_var rfl) (ea_cons (ev_var rfl) (ea_cons (ev_var rfl) ea_nil))) (spV (a := (b, n, k, t)) ⟨hN.mono e13, hW, by show t ≤ 5; omega, hk⟩)) ea_nil) (spL (a := maxPeopleF n k t) trivial)) fun p H4 hp e4 h4 => q' p H4 (fresh_back e13 hp) (e13.trans e4) h4
theorem filter_congr_range {f g : Nat → Bool} {N : Nat} (h : ∀ k, k < N → f k = g k) : (List.range N).filter f = (List.range N).filter g := List.filter_congr fun k hk => h k (List.mem_range.mp hk)
abbrev s_answer_critical : Stmt := top 86
abbrev N_answer_critical : List Str := ["building", "numbers", "minute"]
abbrev P_answer_critical : List Str := ["building", "numbers"]
theorem sc_answer_critical : FnScope N_answer_critical P_answer_critical (defScope s_answer_critical) := ⟨rfl, rfl, rfl, by decide +kernel, rfl, by decide +kernel, by decide +kernel⟩
theorem has_answer_critical (T : Txt K mg C CD) (D : DefAt K mg "answer_critical" s_answer_critical) (h_earliest : Has P w K mg base 8 "earliest" P_earliest (sp_earliest C)) (h_counted : Has P w K mg base 1 "counted" P_counted sp_counted)
    (h_critical_passages : Has P w K mg base 7 "critical_passages" P_critical_passages (sp_critical_passages C)) : Has P w K mg base 9 "answer_critical" P_answer_critical (sp_q K C o_critical (fun _ => True)) := by
  refine has_L D sc_answer_critical (fun _ => rfl) (fun _ _ _ _ _ _ us hl => match us, hl with | [_, _], _ => rfl) fun f cdv A outer s H E hr => ⟨_, (pss_cons (ps_set (i := 2) sc_answer_critical.nd rfl (Or.inl rfl) (pe_callH h_earliest (hr.mono (by decide)) rfl (pa_cons (pv 0) pa_nil))) (pss_one (ps_ret (pe_ifExp (pt_cmpR op_eq (pv 2) (pe_gi rfl T.c_NEVER) (nomark _)) (pe_lst (pa_cons (pe_gi rfl T.c_IMPOSSIBLE) pa_nil)) (pe_callH h_counted (hr.mono (by decide)) rfl (pa_cons (pe_callH h_critical_passages (hr.mono (by decide)) rfl (pa_cons (pv 0) (pa_cons (pv 2) pa_nil))) pa_nil)))))), ?_⟩
  rintro ⟨b, n, na, ns⟩ H0 Q ⟨⟨hN, hW, _⟩, _⟩ e q
  replace hN := hN.mono e
  dsimp only at hN hW q
  have h8 := hW.passages
  have q' : ∀ p H', H p = none → Ex H H' → H' p = some (.lst (ans n .criticalPassages)) → Q (.ref p) H' := q
  refine s_asg (ev_call (ea_cons (ev_var rfl) ea_nil) (spV (a := (b, n)) ⟨hN, hW⟩)) fun H1 e1 => ?_
  refine s_retL (xs := ans n .criticalPassages) (el_if (et_test (ev_op (ev_var rfl) ev_c (rv_eq rfl))) (fun hc => el_is (el_lst1 ev_c) ?_) (fun hc => ?_)) fun p H2 hp e2 h2 => q' p H2 (fresh_back e1 hp) (e1.trans e2) h2
  · have he : earlyF n = -1 := by simpa using hc
    have : n.earliestEvacuation = none := by
      unfold earlyF at he
      cases hh : n.earliestEvacuation with
      | none => rfl
      | some t => rw [hh] at he; dsimp only at he; omega
    show _ = rowR (Planner.run ⟨n⟩ .criticalPassages).2
    unfold Planner.run
    dsimp only
    rw [this]
    rfl
  · have he : ¬ earlyF n = -1 := by simpa using hc
    obtain ⟨t, ht⟩ : ∃ t, n.earliestEvacuation = some t := by
      unfold earlyF at he
      cases hh : n.earliestEvacuation with
      | none => rw [hh] at he; exact absurd rfl he
      | some t => exact ⟨t, rfl⟩
    have hef : earlyF n = (t : Nat) := by unfold earlyF; rw [ht]
    obtain ⟨h6, hmax⟩ := early_is ht
    have hrow : ans n .criticalPassages = .int (natV (pick (critB n t) n.passages.length)).length :: natV (pick (critB n t) n.passages.length) := by
      show rowR (Planner.run ⟨n⟩ .criticalPassages).2 = _
      unfold Planner.run
      dsimp only
      rw [ht]
      dsimp only
      rw [row_list]
      have hp : (List.range n.passages.length).filter (fun k => (n.passage k).capacity == 1 || ((n.withCapacity k ((n.passage k).capacity - 1)).maxEvacuated t != n.totalPeople)) = pick (critB n t) n.passages.length := by
        refine filter_congr_range fun k hk => ?_
        have hp := List.getElem?_eq_getElem hk
        have h1 := hW.cap1 _ (List.mem_of_getElem? hp)
        rw [critical_eq hW.sr hmax hp h1]
        unfold critB
        rw [passage_at hp]
      rw [hp, List.length_map]
    refine el_is (el_callL1 (xs := natV (pick (critB n t) n.passages.length)) (ys := .int (natV (pick (critB n t) n.passages.length)).length :: natV (pick (critB n t) n.passages.length)) (el_call (ea_cons (ev_var rfl) (ea_cons (ev_is (ev_var rfl) (by rw [hef])) ea_nil)) (spL (a := (b, n, t)) ⟨hN.mono e1, hW, by show t ≤ 5; omega⟩)) fun p H2 e2 h2 => spL (a := (p, natV (pick (critB n t) n.passages.length))) ⟨h2, ?_⟩) hrow.symm
    have := pick_len (critB n t) n.passages.length
    dsimp only
    rw [List.length_map]
    omega
abbrev s_answer_outgoing : Stmt := top 87
abbrev N_answer_outgoing : List Str := ["building", "numbers", "area"]
abbrev P_answer_outgoing : List Str := ["building", "numbers"]
theorem sc_answer_outgoing : FnScope N_answer_outgoing P_answer_outgoing (defScope s_answer_outgoing) := ⟨rfl, rfl, rfl, by decide +kernel, rfl, by decide +kernel, by decide +kernel⟩
theorem has_answer_outgoing (T : Txt K mg C CD) (D : DefAt K mg "answer_outgoing" s_answer_outgoing) (h_has_area : Has P w K mg base 1 "has_area" P_has_area (sp_has_area C)) (h_counted : Has P w K mg base 1 "counted" P_counted sp_counted)
    (h_outgoing : Has P w K mg base 2 "outgoing" P_outgoing (sp_outgoing C)) : Has P w K mg base 3 "answer_outgoing" P_answer_outgoing (sp_q K C o_outgoing (len 1)) := by
  refine has_L D sc_answer_outgoing (fun _ => rfl) (fun _ _ _ _ _ _ us hl => match us, hl with | [_, _], _ => rfl) fun f cdv A outer s H E hr => ⟨_, (pss_cons (ps_set (i := 2) sc_answer_outgoing.nd rfl (Or.inl rfl) (pe_ix ix_list (pv 1) pe_int (fun _ _ => rfl))) (pss_one (ps_ret (pe_ifExp (pt_val (pe_callH h_has_area (hr.mono (by decide)) rfl (pa_cons (pv 0) (pa_cons (pv 2) pa_nil)))) (pe_callH h_counted (hr.mono (by decide)) rfl (pa_cons (pe_callH h_outgoing (hr.mono (by decide)) rfl (pa_cons (pv 0) (pa_cons (pv 2) pa_nil))) pa_nil)) (pe_lst (pa_cons (pe_gi rfl T.c_NO_SUCH) pa_nil)))))), ?_⟩
  rintro ⟨b, n, na, ns⟩ H0 Q ⟨⟨hN, hW, hA⟩, hl⟩ e q
  replace hN := hN.mono e
  replace hA := ex_l e hA
  dsimp only at hN hW hA hl q
  obtain ⟨i, rfl⟩ := len1 hl
  have h8 := hW.passages
  have hans : ans n (.outgoingPassages i) = if decide (i < n.areas.length) = false then [.int (-2)] else .int (natV (pick (fun k => (n.passage k).source == i) n.passages.length)).length :: natV (pick (fun k => (n.passage k).source == i) n.passages.length) := (row_if _ _).trans (by rw [row_err, row_list, List.length_map] <;> rfl)
  have q' : ∀ p H', H p = none → Ex H H' → H' p = some (.lst (ans n (.outgoingPassages i))) → Q (.ref p) H' := q
  rw [hans] at q'
  refine s_asg (ev_op (ev_var rfl) ev_c (rv_ixL hA (atI_nat (j := 0) rfl))) fun H1 e1 => ?_
  refine s_retL (el_if (et_B (ev_call (ea_cons (ev_var rfl) (ea_cons (ev_var rfl) ea_nil)) (spV (a := (b, n, i)) (hN.mono e1)))) (fun hc => ?_) (fun hc => ?_)) fun p H2 hp e2 h2 => q' p H2 (fresh_back e1 hp) (e1.trans e2) h2
  · dsimp only at hc
    rw [if_neg (by rw [hc]; exact fun z => by cases z)]
    refine el_callL1 (xs := natV (pick (fun k => (n.passage k).source == i) n.passages.length)) (el_call (ea_cons (ev_var rfl) (ea_cons (ev_var rfl) ea_nil)) (spL (a := (b, n, i)) ⟨hN.mono e1, hW⟩)) fun p H2 e2 h2 => spL (a := (p, natV (pick (fun k => (n.passage k).source == i) n.passages.length))) ⟨h2, ?_⟩
    have := pick_len (fun k => (n.passage k).source == i) n.passages.length
    dsimp only
    rw [List.length_map]
    omega
  · dsimp only at hc
    rw [if_pos hc]
    exact el_lst1 ev_c
abbrev s_answer_state : Stmt := top 88
abbrev N_answer_state : List Str := ["building", "numbers"]
abbrev P_answer_state : List Str := ["building", "numbers"]
theorem sc_answer_state : FnScope N_answer_state P_answer_state (defScope s_answer_state) := ⟨rfl, rfl, rfl, by decide +kernel, rfl, by decide +kernel, by decide +kernel⟩
theorem has_answer_state (T : Txt K mg C CD) (D : DefAt K mg "answer_state" s_answer_state) (h_area_count : Has P w K mg base 1 "area_count" P_area_count (sp_area_count C)) (h_passage_count : Has P w K mg base 1 "passage_count" P_passage_count (sp_passage_count C))
    (h_total_people : Has P w K mg base 1 "total_people" P_total_people (sp_total_people C)) : Has P w K mg base 2 "answer_state" P_answer_state (sp_q K C o_state (fun _ => True)) := by
  refine has_L D sc_answer_state (fun _ => rfl) (fun _ _ _ _ _ _ us hl => match us, hl with | [_, _], _ => rfl) fun f cdv A outer s H E hr => ⟨_, (pss_one (ps_ret (pe_lst (pa_cons (pe_callH h_area_count (hr.mono (by decide)) rfl (pa_cons (pv 0) pa_nil)) (pa_cons (pe_callH h_passage_count (hr.mono (by decide)) rfl (pa_cons (pv 0) pa_nil)) (pa_cons (pe_callH h_total_people (hr.mono (by decide)) rfl (pa_cons (pv 0) pa_nil)) pa_nil)))))), ?_⟩
  rintro ⟨b, n, na, ns⟩ H0 Q ⟨⟨hN, hW, _⟩, _⟩ e q
  replace hN := hN.mono e
  dsimp only at hN hW q
  exact s_retL (el_lst3 (ev_call (ea_cons (ev_var rfl) ea_nil) (spV (a := (b, n)) hN)) (ev_call (ea_cons (ev_var rfl) ea_nil) (spV (a := (b, n)) hN)) (ev_call (ea_cons (ev_var rfl) ea_nil) (spV (a := (b, n)) hN))) q
end
end Bx
end

section
set_option maxRecDepth 100000
set_option maxHeartbeats 4000000
/-! edits.py -/
namespace Bx
open PySem PySem.Spec PyProof.Rows L2 Evl
open Kv434 (Area Passage Network Planner PlanStep Response Operation)

def runN (n : Network) (o : Operation) : Network := (Planner.run ⟨n⟩ o).1.network
/-- all stands but the building's own objects -/
def Kept (H H' : Hp) (b pa ea la : Addr) : Prop := ∀ x u, H x = some u → x ≠ b → x ≠ pa → x ≠ ea → x ≠ la → H' x = some u
theorem Kept.of_ex {H H' : Hp} {b pa ea la : Addr} (e : Ex H H') : Kept H H' b pa ea la := fun x u h _ _ _ _ => e x u h
theorem Kept.ex {H H1 H2 : Hp} {b pa ea la : Addr} (k : Kept H H1 b pa ea la) (e : Ex H1 H2) : Kept H H2 b pa ea la := fun x u h h1 h2 h3 h4 => e x u (k x u h h1 h2 h3 h4)
theorem Kept.upd {H H1 : Hp} {b pa ea la y : Addr} {o : HO} (k : Kept H H1 b pa ea la) (hy : y = b ∨ y = pa ∨ y = ea ∨ y = la) : Kept H (upd H1 y o) b pa ea la := fun x u h h1 h2 h3 h4 => by
  rw [upd_ne ?_]
  · exact k x u h h1 h2 h3 h4
  · rintro rfl
    rcases hy with e | e | e | e
    · exact h1 e
    · exact h2 e
    · exact h3 e
    · exact h4 e
def EditQ (C : Addr) (H : Hp) (Q : VK) (b pa ea la : Addr) (n' : Network) (row : List V) : Prop := ∀ (p : Addr) (H' : Hp) (la' : Addr) (ts' : List Addr), H p = none → Kept H H' b pa ea la → NetA C H' b pa ea la' ts' n' → (la' = la ∨ H la' = none) → H' p = some (.lst row) → Q (.ref p) H'
/-- an operation that changes a building -/
def sp_e (K : PySem.W.Frag) (C : Addr) (o : List Nat → Operation) (ok : List Nat → Prop) : Sp := fun vs H Q _ => ∃ (b : Addr) (n : Network) (na : Addr) (ns : List Nat) (pa ea la : Addr) (ts : List Addr), vs = [.ref b, .ref na] ∧ NetA C H b pa ea la ts n ∧ WF n ∧ SqL K H na (natV ns) ∧ ok ns ∧
  EditQ C H Q b pa ea la (runN n (o ns)) (ans n (o ns))
theorem EditQ.same {C b pa ea la : Addr} {H : Hp} {Q : VK} {ts : List Addr} {n : Network} {row : List V} (q : EditQ C H Q b pa ea la n row) (hN : NetA C H b pa ea la ts n) : ∀ p H', H p = none → Ex H H' → H' p = some (.lst row) → Q (.ref p) H' :=
  fun p H' hp e h => q p H' la ts hp (Kept.of_ex e) (hN.mono e) (.inl rfl) h
theorem EditQ.of {C b pa ea la : Addr} {H : Hp} {Q : VK} {n n' : Network} {o : Operation} {r : Response} (q : EditQ C H Q b pa ea la (runN n o) (ans n o)) (h : Planner.run ⟨n⟩ o = (⟨n'⟩, r)) : EditQ C H Q b pa ea la n' (rowR r) := by
  unfold runN ans at q
  rw [h] at q
  exact q
abbrev o_addArea : List Nat → Operation := fun ns => .addArea (ns.getD 0 0) (ns.getD 1 0)
abbrev o_setPeople : List Nat → Operation := fun ns => .setPeople (ns.getD 0 0) (ns.getD 1 0)
abbrev o_setExit : List Nat → Operation := fun ns => .setExit (ns.getD 0 0) (ns.getD 1 0)
abbrev o_addPassage : List Nat → Operation := fun ns => .addPassage (ns.getD 0 0) (ns.getD 1 0) (ns.getD 2 0) (ns.getD 3 0)
abbrev o_removePassage : List Nat → Operation := fun ns => .removePassage (ns.getD 0 0)
abbrev o_setCapacity : List Nat → Operation := fun ns => .setCapacity (ns.getD 0 0) (ns.getD 1 0)
abbrev o_reverse : List Nat → Operation := fun _ => .reversePassages

theorem Tups.upd {H : Hp} {l : Addr} {o : HO} {xs : List V} (hl : H l = some (.lst xs)) : ∀ {ts : List Addr} {ps : List Passage}, Tups H ts ps → Tups (upd H l o) ts ps
  | _, _, .nil => .nil
  | _, _, .cons r t => .cons (by rw [upd_ne (ne_of r hl (by intro z; cases z))]; exact r) (Tups.upd hl t)
theorem Tups.updI {H : Hp} {l C dx : Addr} {o : HO} {fs : List (Str × V)} (hl : H l = some (.ins C dx fs)) : ∀ {ts : List Addr} {ps : List Passage}, Tups H ts ps → Tups (L2.upd H l o) ts ps
  | _, _, .nil => .nil
  | _, _, .cons r t => .cons (by rw [upd_ne (ne_of r hl (by intro z; cases z))]; exact r) (Tups.updI hl t)
theorem Tups.snoc {H : Hp} {t : Addr} {p : Passage} (h : H t = some (.tup (tupV p))) : ∀ {ts : List Addr} {ps : List Passage}, Tups H ts ps → Tups H (ts ++ [t]) (ps ++ [p])
  | _, _, .nil => .cons h .nil
  | _, _, .cons r q => .cons r (Tups.snoc h q)
theorem Tups.erase {H : Hp} : ∀ {ts : List Addr} {ps : List Passage} (i : Nat), Tups H ts ps → Tups H (ts.eraseIdx i) (ps.eraseIdx i)
  | _, _, _, .nil => by simp; exact .nil
  | _, _, 0, .cons r q => q
  | _, _, i + 1, .cons r q => .cons r (Tups.erase i q)

section
variable {P : Program} {w : World} {K : PySem.W.Frag} {mg : Str → Option Value} {base : Heap} {C CD : Addr}
section
variable {σ : L2.St} {H : Hp} {ta : TE} {b pa ea la dx : Addr}
theorem ev_peopleI (T : TB K C) (hb : H b = some (.ins C dx (bF pa ea la))) (h : Ev ta σ H (.ref b)) : Ev (tFld K ta "people") σ H (.ref pa) := ev_fld h hb T.cl T.nP bF_people
theorem ev_exitsI (T : TB K C) (hb : H b = some (.ins C dx (bF pa ea la))) (h : Ev ta σ H (.ref b)) : Ev (tFld K ta "exits") σ H (.ref ea) := ev_fld h hb T.cl T.nE bF_exits
theorem ev_passagesI (T : TB K C) (hb : H b = some (.ins C dx (bF pa ea la))) (h : Ev ta σ H (.ref b)) : Ev (tFld K ta "passages") σ H (.ref la) := ev_fld h hb T.cl T.nL bF_passages
theorem len_e {o : List Nat → Operation} {ok : List Nat → Prop} : ∀ vs H Q E, sp_e K C o ok vs H Q E → vs.length = 2 := fun vs H Q E ⟨_, _, _, _, _, _, _, _, e, _⟩ => by rw [e]; rfl
end
theorem flagI_of {x : Nat} (h : x ≤ 1) : V.int (x : Int) = V.int (flagI (x == 1)) := by
  have : x = 0 ∨ x = 1 := by omega
  rcases this with e | e <;> subst e <;> rfl
abbrev s_add_area : Stmt := top 29
abbrev N_add_area : List Str := ["building", "numbers", "people", "is_exit"]
abbrev P_add_area : List Str := ["building", "numbers"]
theorem sc_add_area : FnScope N_add_area P_add_area (defScope s_add_area) := ⟨rfl, rfl, rfl, by decide +kernel, rfl, by decide +kernel, by decide +kernel⟩
theorem has_add_area (T : Txt K mg C CD) (D : DefAt K mg "add_area" s_add_area) (h_area_count : Has P w K mg base 1 "area_count" P_area_count (sp_area_count C)) : Has P w K mg base 2 "add_area" P_add_area (sp_e K C o_addArea (len 2)) := by
  refine has_of D sc_add_area len_e (fun _ _ _ _ _ _ us hl => match us, hl with | [_, _], _ => rfl) fun f cdv A outer s H E hr => ⟨_, (pss_cons (ps_asg (pv 1) (pg_unl rfl (pgs_cons (pg_name (i := 2) sc_add_area.nd rfl (Or.inl rfl)) (pgs_cons (pg_name (i := 3) sc_add_area.nd rfl (Or.inl rfl)) pgs_nil)))) (pss_cons (ps_if (PW.pt (pw_or (pt_cmpR op_gt (pv 2) (pe_gi rfl T.c_MAX_PEOPLE) (nomark _)) (pw_or1 (pt_cmpR op_gt (pv 3) pe_int (nomark _))))) (pss_one (ps_ret (pe_lst (pa_cons (pe_gi rfl T.c_BAD_ARGUMENT) pa_nil)))) pss_nil) (pss_cons (ps_if (pt_cmpR op_eq (pe_callH h_area_count (hr.mono (by decide)) rfl (pa_cons (pv 0) pa_nil)) (pe_gi rfl T.c_MAX_AREAS) (nomark _)) (pss_one (ps_ret (pe_lst (pa_cons (pe_gi rfl T.c_FULL) pa_nil)))) pss_nil) (pss_cons (ps_expr (pe_bm PySem.F.plainAttrs_list PySem.F.slot_list_append PySem.F.type_list_append mt_append (pe_fld (pv 0) rfl) (pa_cons (pv 2) pa_nil))) (pss_cons (ps_expr (pe_bm PySem.F.plainAttrs_list PySem.F.slot_list_append PySem.F.type_list_append mt_append (pe_fld (pv 0) rfl) (pa_cons (pv 3) pa_nil))) (pss_one (ps_ret (pe_lst (pa_cons (pe_op op_sub (pe_callH h_area_count (hr.mono (by decide)) rfl (pa_cons (pv 0) pa_nil)) pe_int) pa_nil))))))))), ?_⟩
  rintro vs Q ⟨b, n, na, ns, pa, ea, la, ts, rfl, hN, hW, hA, hl, q⟩
  obtain ⟨x, y, rfl⟩ := len2 hl
  obtain ⟨dx, hb⟩ := hN.ins
  have h5 := hW.areas
  refine s_unl2 (ev_var rfl) hA fun H1 e1 => ?_
  refine s_if (et_or (et_test (ev_op (ev_var rfl) ev_c rv_I0)) fun _ => et_test (ev_op (ev_var rfl) ev_c rv_I0)) (fun hc H2 e2 => ?_) (fun hc H2 e2 => ?_)
  · have hcc : 20 < x ∨ 1 < y := by
      rw [Bool.or_eq_true] at hc
      simp at hc
      omega
    have q1 := q.of (n' := n) (r := .error (-22)) (if_pos hcc)
    exact s_retL (el_lst1 ev_c) fun p H3 hp e3 h3 => q1.same hN p H3 (fresh_back (e1.trans e2) hp) ((e1.trans e2).trans e3) h3
  · have hcc : ¬ (20 < x ∨ 1 < y) := by
      rw [Bool.or_eq_false_iff] at hc
      simp at hc
      omega
    have e12 := e1.trans e2
    refine s_if (et_test (ev_op (ev_call (ea_cons (ev_var rfl) ea_nil) (spV (a := (b, n)) ⟨pa, ea, la, ts, hN.mono e12⟩)) ev_c (rv_eq rfl))) (fun hd H3 e3 => ?_) (fun hd H3 e3 => ?_)
    · have hdd : 5 ≤ n.areas.length := by
        have : ((n.areas.length : Nat) : Int) = 5 := by simpa using hd
        omega
      have q1 := q.of (n' := n) (r := .error (-28)) ((if_neg hcc).trans (if_pos hdd))
      exact s_retL (el_lst1 ev_c) fun p H4 hp e4 h4 => q1.same hN p H4 (fresh_back (e12.trans e3) hp) ((e12.trans e3).trans e4) h4
    · have hdd : ¬ 5 ≤ n.areas.length := by
        have : ¬ ((n.areas.length : Nat) : Int) = 5 := by simpa using hd
        omega
      have q1 := q.of (n' := { n with areas := n.areas ++ [⟨x, y == 1⟩] }) (r := .number n.areas.length) ((if_neg hcc).trans (if_neg hdd))
      have e13 := e12.trans e3
      have hN3 := hN.mono e13
      have hb3 := e13 _ _ hb
      have hbp : b ≠ pa := ne_of hb hN.ppl (by intro z; cases z)
      have hbe : b ≠ ea := ne_of hb hN.exi (by intro z; cases z)
      refine s_app hN3.ppl (ev_peopleI T.tb hb3 (ev_var rfl)) (ev_var rfl) (by rw [pplV_len]; omega) fun H4 e4 => ?_
      have hb4 : (upd H4 pa (.lst (pplV n.areas ++ [.int x]))) b = some (.ins C dx (bF pa ea la)) := by rw [upd_ne hbp]; exact e4 _ _ hb3
      have hx4 : (upd H4 pa (.lst (pplV n.areas ++ [.int x]))) ea = some (.lst (exV n.areas)) := by rw [upd_ne hN.pe.symm]; exact e4 _ _ hN3.exi
      refine s_app hx4 (ev_exitsI T.tb hb4 (ev_var rfl)) (ev_var rfl) (by rw [exV_len]; omega) fun H5 e5 => ?_
      have k4 : Kept H (upd H4 pa (.lst (pplV n.areas ++ [.int x]))) b pa ea la := (Kept.of_ex (e13.trans e4)).upd (.inr (.inl rfl))
      have k5 := (k4.ex e5).upd (y := ea) (o := .lst (exV n.areas ++ [.int y])) (.inr (.inr (.inl rfl)))
      have hN5 : NetA C (upd H5 ea (.lst (exV n.areas ++ [.int y]))) b pa ea la ts { n with areas := n.areas ++ [⟨x, y == 1⟩] } := by
        refine ⟨⟨dx, by rw [upd_ne hbe]; exact e5 _ _ hb4⟩, ?_, ?_, ?_, ?_, hN.pe, hN.pl, hN.el⟩
        · rw [upd_ne hN.pe, e5 _ _ upd_same]
          simp [pplV]
        · rw [upd_same]
          simp only [exV, List.map_append, List.map_cons, List.map_nil]
          rw [flagI_of (by omega)]
        · rw [upd_ne hN.el.symm]
          refine e5 _ _ ?_
          rw [upd_ne hN.pl.symm]
          exact e4 _ _ hN3.pas
        · refine Tups.upd (e5 _ _ hx4) ?_
          exact (Tups.upd (e4 _ _ hN3.ppl) (hN3.tup.mono e4)).mono e5
      refine s_retL (el_is (el_lst1 (ev_op (ev_call (ea_cons (ev_var rfl) ea_nil) (spV (a := (b, { n with areas := n.areas ++ [⟨x, y == 1⟩] })) ⟨pa, ea, la, ts, hN5⟩)) ev_c rv_I0)) ?_) fun p H6 hp e6 h6 => q1 p H6 la ts ?_ (k5.ex e6) (hN5.mono e6) (.inl rfl) h6
      · rw [row_num]
        simp
      · have hpe : p ≠ ea := (ne_of_none (upd_same (H := H5) (a := ea)) hp).symm
        rw [upd_ne hpe] at hp
        have hp4 := fresh_back e5 hp
        have hpp : p ≠ pa := (ne_of_none (upd_same (H := H4) (a := pa)) hp4).symm
        rw [upd_ne hpp] at hp4
        exact fresh_back (e13.trans e4) hp4
abbrev s_set_people : Stmt := top 30
abbrev N_set_people : List Str := ["building", "numbers", "area", "people", "previous"]
abbrev P_set_people : List Str := ["building", "numbers"]
theorem sc_set_people : FnScope N_set_people P_set_people (defScope s_set_people) := ⟨rfl, rfl, rfl, by decide +kernel, rfl, by decide +kernel, by decide +kernel⟩
theorem has_set_people (T : Txt K mg C CD) (D : DefAt K mg "set_people" s_set_people) (h_has_area : Has P w K mg base 1 "has_area" P_has_area (sp_has_area C)) : Has P w K mg base 2 "set_people" P_set_people (sp_e K C o_setPeople (len 2)) := by
  refine has_of D sc_set_people len_e (fun _ _ _ _ _ _ us hl => match us, hl with | [_, _], _ => rfl) fun f cdv A outer s H E hr => ⟨_, (pss_cons (ps_asg (pv 1) (pg_unl rfl (pgs_cons (pg_name (i := 2) sc_set_people.nd rfl (Or.inl rfl)) (pgs_cons (pg_name (i := 3) sc_set_people.nd rfl (Or.inl rfl)) pgs_nil)))) (pss_cons (ps_if (pt_not (pt_val (pe_callH h_has_area (hr.mono (by decide)) rfl (pa_cons (pv 0) (pa_cons (pv 2) pa_nil))))) (pss_one (ps_ret (pe_lst (pa_cons (pe_gi rfl T.c_NO_SUCH) pa_nil)))) pss_nil) (pss_cons (ps_if (pt_cmpR op_gt (pv 3) (pe_gi rfl T.c_MAX_PEOPLE) (nomark _)) (pss_one (ps_ret (pe_lst (pa_cons (pe_gi rfl T.c_BAD_ARGUMENT) pa_nil)))) pss_nil) (pss_cons (ps_set (i := 4) sc_set_people.nd rfl (Or.inl rfl) (pe_ix ix_list (pe_fld (pv 0) rfl) (pv 2) (fun _ _ => rfl))) (pss_cons (ps_asg (pv 3) (pg_sub (pe_fld (pv 0) rfl) (pv 2) set_list)) (pss_one (ps_ret (pe_lst (pa_cons (pv 4) pa_nil))))))))), ?_⟩
  rintro vs Q ⟨b, n, na, ns, pa, ea, la, ts, rfl, hN, hW, hA, hl, q⟩
  obtain ⟨i, v, rfl⟩ := len2 hl
  obtain ⟨dx, hb⟩ := hN.ins
  refine s_unl2 (ev_var rfl) hA fun H1 e1 => ?_
  refine s_if (et_not (et_B (ev_call (ea_cons (ev_var rfl) (ea_cons (ev_var rfl) ea_nil)) (spV (a := (b, n, i)) ⟨pa, ea, la, ts, hN.mono e1⟩)))) (fun hc H2 e2 => ?_) (fun hc H2 e2 => ?_)
  · rw [Bool.not_eq_true'] at hc
    have q1 := q.of (n' := n) (r := .error (-2)) (if_pos hc)
    exact s_retL (el_lst1 ev_c) fun p H3 hp e3 h3 => q1.same hN p H3 (fresh_back (e1.trans e2) hp) ((e1.trans e2).trans e3) h3
  · rw [Bool.not_eq_false'] at hc
    have hk : i < n.areas.length := of_decide_eq_true hc
    have hcc : ¬ (⟨n⟩ : Planner).isArea i = false := by
      show ¬ decide (i < n.areas.length) = false
      rw [decide_eq_true hk]
      exact fun z => by cases z
    have e12 := e1.trans e2
    refine s_if (et_test (ev_op (ev_var rfl) ev_c rv_I0)) (fun hd H3 e3 => ?_) (fun hd H3 e3 => ?_)
    · have hdd : 20 < v := by
        have : (20 : Int) < v := by simpa using hd
        omega
      have q1 := q.of (n' := n) (r := .error (-22)) ((if_neg hcc).trans (if_pos hdd))
      exact s_retL (el_lst1 ev_c) fun p H4 hp e4 h4 => q1.same hN p H4 (fresh_back (e12.trans e3) hp) ((e12.trans e3).trans e4) h4
    · have hdd : ¬ 20 < v := by
        have : ¬ (20 : Int) < v := by simpa using hd
        omega
      have q1 := q.of (n' := n.withPeople i v) (r := .number (n.area i).people) ((if_neg hcc).trans (if_neg hdd))
      have e13 := e12.trans e3
      obtain ⟨a, ha⟩ : ∃ a, n.areas[i]? = some a := ⟨_, List.getElem?_eq_getElem hk⟩
      rw [area_at ha, row_num] at q1
      have hai : (pplV n.areas)[i]? = some (.int a.people) := map_at ha
      have hbp : b ≠ pa := ne_of hb hN.ppl (by intro z; cases z)
      refine s_asg (ev_op (ev_peopleI T.tb (e13 _ _ hb) (ev_var rfl)) (ev_var rfl) (rv_ixL (SqL.o (hN.mono e13).ppl) (atI_nat hai))) fun H4 e4 => ?_
      have e14 := e13.trans e4
      refine s_setL (hN.mono e14).ppl (ev_var rfl) (ev_peopleI T.tb (e14 _ _ hb) (ev_var rfl)) (ev_var (v := .int (i : Int)) rfl) (by rw [pplV_len]; exact hk) fun H5 e5 => ?_
      have e15 := e14.trans e5
      have hN5 : NetA C (upd H5 pa (.lst ((pplV n.areas).set i (.int v)))) b pa ea la ts (n.withPeople i v) := by
        refine ⟨⟨dx, by rw [upd_ne hbp]; exact e15 _ _ hb⟩, ?_, ?_, ?_, ?_, hN.pe, hN.pl, hN.el⟩
        · rw [upd_same, pplV_set]
          rfl
        · rw [upd_ne hN.pe.symm, withPeople_areas, exV_modify (f := fun a => { a with people := v }) (fun _ => rfl)]
          exact (hN.mono e15).exi
        · rw [upd_ne hN.pl.symm]
          exact (hN.mono e15).pas
        · exact Tups.upd (hN.mono e15).ppl (hN.mono e15).tup
      refine s_retL (el_lst1 (ev_var rfl)) fun p H6 hp e6 h6 => q1 p H6 la ts ?_ (((Kept.of_ex e15).upd (.inr (.inl rfl))).ex e6) (hN5.mono e6) (.inl rfl) h6
      have hpe : p ≠ pa := (ne_of_none (upd_same (H := H5) (a := pa)) hp).symm
      rw [upd_ne hpe] at hp
      exact fresh_back e15 hp
theorem exV_set {v : Nat} (hv : v ≤ 1) : ∀ (as : List Area) (i : Nat), (exV as).set i (.int v) = exV (as.modify i fun a => { a with isExit := v == 1 })
  | [], i => by simp [exV]
  | a :: as, 0 => by
    rw [flagI_of hv]
    simp [exV]
  | a :: as, i + 1 => by
    have ih := exV_set hv as i
    unfold exV at ih ⊢
    simp [ih]
theorem pplV_modify {f : Area → Area} (hf : ∀ a, (f a).people = a.people) : ∀ (as : List Area) (i : Nat), pplV (as.modify i f) = pplV as
  | [], i => by simp [pplV]
  | a :: as, 0 => by simp [pplV, hf]
  | a :: as, i + 1 => by
    have ih := pplV_modify hf as i
    unfold pplV at ih ⊢
    simp [ih]
abbrev s_set_exit : Stmt := top 31
abbrev N_set_exit : List Str := ["building", "numbers", "area", "is_exit", "previous"]
abbrev P_set_exit : List Str := ["building", "numbers"]
theorem sc_set_exit : FnScope N_set_exit P_set_exit (defScope s_set_exit) := ⟨rfl, rfl, rfl, by decide +kernel, rfl, by decide +kernel, by decide +kernel⟩
theorem has_set_exit (T : Txt K mg C CD) (D : DefAt K mg "set_exit" s_set_exit) (h_has_area : Has P w K mg base 1 "has_area" P_has_area (sp_has_area C)) : Has P w K mg base 2 "set_exit" P_set_exit (sp_e K C o_setExit (len 2)) := by
  refine has_of D sc_set_exit len_e (fun _ _ _ _ _ _ us hl => match us, hl with | [_, _], _ => rfl) fun f cdv A outer s H E hr => ⟨_, (pss_cons (ps_asg (pv 1) (pg_unl rfl (pgs_cons (pg_name (i := 2) sc_set_exit.nd rfl (Or.inl rfl)) (pgs_cons (pg_name (i := 3) sc_set_exit.nd rfl (Or.inl rfl)) pgs_nil)))) (pss_cons (ps_if (pt_not (pt_val (pe_callH h_has_area (hr.mono (by decide)) rfl (pa_cons (pv 0) (pa_cons (pv 2) pa_nil))))) (pss_one (ps_ret (pe_lst (pa_cons (pe_gi rfl T.c_NO_SUCH) pa_nil)))) pss_nil) (pss_cons (ps_if (pt_cmpR op_gt (pv 3) pe_int (nomark _)) (pss_one (ps_ret (pe_lst (pa_cons (pe_gi rfl T.c_BAD_ARGUMENT) pa_nil)))) pss_nil) (pss_cons (ps_set (i := 4) sc_set_exit.nd rfl (Or.inl rfl) (pe_ix ix_list (pe_fld (pv 0) rfl) (pv 2) (fun _ _ => rfl))) (pss_cons (ps_asg (pv 3) (pg_sub (pe_fld (pv 0) rfl) (pv 2) set_list)) (pss_one (ps_ret (pe_lst (pa_cons (pv 4) pa_nil))))))))), ?_⟩
  rintro vs Q ⟨b, n, na, ns, pa, ea, la, ts, rfl, hN, hW, hA, hl, q⟩
  obtain ⟨i, v, rfl⟩ := len2 hl
  obtain ⟨dx, hb⟩ := hN.ins
  refine s_unl2 (ev_var rfl) hA fun H1 e1 => ?_
  refine s_if (et_not (et_B (ev_call (ea_cons (ev_var rfl) (ea_cons (ev_var rfl) ea_nil)) (spV (a := (b, n, i)) ⟨pa, ea, la, ts, hN.mono e1⟩)))) (fun hc H2 e2 => ?_) (fun hc H2 e2 => ?_)
  · rw [Bool.not_eq_true'] at hc
    have q1 := q.of (n' := n) (r := .error (-2)) (if_pos hc)
    exact s_retL (el_lst1 ev_c) fun p H3 hp e3 h3 => q1.same hN p H3 (fresh_back (e1.trans e2) hp) ((e1.trans e2).trans e3) h3
  · rw [Bool.not_eq_false'] at hc
    have hk : i < n.areas.length := of_decide_eq_true hc
    have hcc : ¬ (⟨n⟩ : Planner).isArea i = false := by
      show ¬ decide (i < n.areas.length) = false
      rw [decide_eq_true hk]
      exact fun z => by cases z
    have e12 := e1.trans e2
    refine s_if (et_test (ev_op (ev_var rfl) ev_c rv_I0)) (fun hd H3 e3 => ?_) (fun hd H3 e3 => ?_)
    · have hdd : 1 < v := by
        have : (1 : Int) < v := by simpa using hd
        omega
      have q1 := q.of (n' := n) (r := .error (-22)) ((if_neg hcc).trans (if_pos hdd))
      exact s_retL (el_lst1 ev_c) fun p H4 hp e4 h4 => q1.same hN p H4 (fresh_back (e12.trans e3) hp) ((e12.trans e3).trans e4) h4
    · have hdd : ¬ 1 < v := by
        have : ¬ (1 : Int) < v := by simpa using hd
        omega
      have q1 := q.of (n' := { n with areas := n.areas.modify i fun area => { area with isExit := v == 1 } }) (r := .number (Kv434.flag (n.area i).isExit)) ((if_neg hcc).trans (if_neg hdd))
      have e13 := e12.trans e3
      obtain ⟨a, ha⟩ : ∃ a, n.areas[i]? = some a := ⟨_, List.getElem?_eq_getElem hk⟩
      have hfl : V.int ((Kv434.flag a.isExit : Nat) : Int) = V.int (flagI a.isExit) := by cases a.isExit <;> rfl
      rw [area_at ha, row_num, hfl] at q1
      have hai : (exV n.areas)[i]? = some (.int (flagI a.isExit)) := map_at ha
      have hbp : b ≠ ea := ne_of hb hN.exi (by intro z; cases z)
      refine s_asg (ev_op (ev_exitsI T.tb (e13 _ _ hb) (ev_var rfl)) (ev_var rfl) (rv_ixL (SqL.o (hN.mono e13).exi) (atI_nat hai))) fun H4 e4 => ?_
      have e14 := e13.trans e4
      refine s_setL (hN.mono e14).exi (ev_var rfl) (ev_exitsI T.tb (e14 _ _ hb) (ev_var rfl)) (ev_var (v := .int (i : Int)) rfl) (by rw [exV_len]; exact hk) fun H5 e5 => ?_
      have e15 := e14.trans e5
      have hN5 : NetA C (upd H5 ea (.lst ((exV n.areas).set i (.int v)))) b pa ea la ts { n with areas := n.areas.modify i fun area => { area with isExit := v == 1 } } := by
        refine ⟨⟨dx, by rw [upd_ne hbp]; exact e15 _ _ hb⟩, ?_, ?_, ?_, ?_, hN.pe, hN.pl, hN.el⟩
        · rw [upd_ne hN.pe]
          dsimp only
          rw [pplV_modify (f := fun area => { area with isExit := v == 1 }) (fun _ => rfl)]
          exact (hN.mono e15).ppl
        · rw [upd_same, exV_set (by omega)]
        · rw [upd_ne hN.el.symm]
          exact (hN.mono e15).pas
        · exact Tups.upd (hN.mono e15).exi (hN.mono e15).tup
      refine s_retL (el_lst1 (ev_var rfl)) fun p H6 hp e6 h6 => q1 p H6 la ts ?_ (((Kept.of_ex e15).upd (.inr (.inr (.inl rfl)))).ex e6) (hN5.mono e6) (.inl rfl) h6
      have hpe : p ≠ ea := (ne_of_none (upd_same (H := H5) (a := ea)) hp).symm
      rw [upd_ne hpe] at hp
      exact fresh_back e15 hp
abbrev s_add_passage : Stmt := top 32
abbrev N_add_passage : List Str := ["building", "numbers", "source", "target", "capacity", "travel_time"]
abbrev P_add_passage : List Str := ["building", "numbers"]
theorem sc_add_passage : FnScope N_add_passage P_add_passage (defScope s_add_passage) := ⟨rfl, rfl, rfl, by decide +kernel, rfl, by decide +kernel, by decide +kernel⟩
theorem has_add_passage (T : Txt K mg C CD) (D : DefAt K mg "add_passage" s_add_passage) (h_passage_count : Has P w K mg base 1 "passage_count" P_passage_count (sp_passage_count C)) (h_has_area : Has P w K mg base 1 "has_area" P_has_area (sp_has_area C))
    (h_is_capacity : Has P w K mg base 1 "is_capacity" P_is_capacity sp_is_capacity) (h_is_travel_time : Has P w K mg base 1 "is_travel_time" P_is_travel_time sp_is_travel_time) : Has P w K mg base 2 "add_passage" P_add_passage (sp_e K C o_addPassage (len 4)) := by
  refine has_of D sc_add_passage len_e (fun _ _ _ _ _ _ us hl => match us, hl with | [_, _], _ => rfl) fun f cdv A outer s H E hr => ⟨_, (pss_cons (ps_asg (pv 1) (pg_unl rfl (pgs_cons (pg_name (i := 2) sc_add_passage.nd rfl (Or.inl rfl)) (pgs_cons (pg_name (i := 3) sc_add_passage.nd rfl (Or.inl rfl)) (pgs_cons (pg_name (i := 4) sc_add_passage.nd rfl (Or.inl rfl)) (pgs_cons (pg_name (i := 5) sc_add_passage.nd rfl (Or.inl rfl)) pgs_nil)))))) (pss_cons (ps_if (PW.pt (pw_or (pt_not (pt_val (pe_callH h_has_area (hr.mono (by decide)) rfl (pa_cons (pv 0) (pa_cons (pv 2) pa_nil))))) (pw_or1 (pt_not (pt_val (pe_callH h_has_area (hr.mono (by decide)) rfl (pa_cons (pv 0) (pa_cons (pv 3) pa_nil)))))))) (pss_one (ps_ret (pe_lst (pa_cons (pe_gi rfl T.c_NO_SUCH) pa_nil)))) pss_nil) (pss_cons (ps_if (PW.pt (pw_or (pt_cmpR op_eq (pv 2) (pv 3) (nomark _)) (pw_or (pt_not (pt_val (pe_callH h_is_capacity (hr.mono (by decide)) rfl (pa_cons (pv 4) pa_nil)))) (pw_or1 (pt_not (pt_val (pe_callH h_is_travel_time (hr.mono (by decide)) rfl (pa_cons (pv 5) pa_nil)))))))) (pss_one (ps_ret (pe_lst (pa_cons (pe_gi rfl T.c_BAD_ARGUMENT) pa_nil)))) pss_nil) (pss_cons (ps_if (pt_cmpR op_eq (pe_callH h_passage_count (hr.mono (by decide)) rfl (pa_cons (pv 0) pa_nil)) (pe_gi rfl T.c_MAX_PASSAGES) (nomark _)) (pss_one (ps_ret (pe_lst (pa_cons (pe_gi rfl T.c_FULL) pa_nil)))) pss_nil) (pss_cons (ps_expr (pe_bm PySem.F.plainAttrs_list PySem.F.slot_list_append PySem.F.type_list_append mt_append (pe_fld (pv 0) rfl) (pa_cons (pe_tup (pa_cons (pv 2) (pa_cons (pv 3) (pa_cons (pv 4) (pa_cons (pv 5) pa_nil))))) pa_nil))) (pss_one (ps_ret (pe_lst (pa_cons (pe_op op_sub (pe_callH h_passage_count (hr.mono (by decide)) rfl (pa_cons (pv 0) pa_nil)) pe_int) pa_nil))))))))), ?_⟩
  rintro vs Q ⟨b, n, na, ns, pa, ea, la, ts, rfl, hN, hW, hA, hl, q⟩
  obtain ⟨x, y, c, t, rfl⟩ := len4 hl
  obtain ⟨dx, hb⟩ := hN.ins
  have h8 := hW.passages
  refine s_unl4 (ev_var rfl) hA fun H1 e1 => ?_
  have hpa1 : NetAt C H1 b n := ⟨pa, ea, la, ts, hN.mono e1⟩
  refine s_if (et_or (et_not (et_B (ev_call (ea_cons (ev_var rfl) (ea_cons (ev_var rfl) ea_nil)) (spV (a := (b, n, x)) hpa1)))) fun _ => et_not (et_B (ev_call (ea_cons (ev_var rfl) (ea_cons (ev_var rfl) ea_nil)) (spV (a := (b, n, y)) hpa1)))) (fun hc H2 e2 => ?_) (fun hc H2 e2 => ?_)
  · rw [Bool.or_eq_true, Bool.not_eq_true', Bool.not_eq_true'] at hc
    have q1 := q.of (n' := n) (r := .error (-2)) (if_pos hc)
    exact s_retL (el_lst1 ev_c) fun p H3 hp e3 h3 => q1.same hN p H3 (fresh_back (e1.trans e2) hp) ((e1.trans e2).trans e3) h3
  · rw [Bool.or_eq_false_iff, Bool.not_eq_false', Bool.not_eq_false'] at hc
    have hcc : ¬ ((⟨n⟩ : Planner).isArea x = false ∨ (⟨n⟩ : Planner).isArea y = false) := by
      rintro (z | z)
      · exact Bool.false_ne_true (z.symm.trans hc.1)
      · exact Bool.false_ne_true (z.symm.trans hc.2)
    have e12 := e1.trans e2
    refine s_if (et_or (et_test (ev_op (ev_var rfl) (ev_var rfl) (rv_eq rfl))) fun _ => et_or (et_not (et_B (ev_call (ea_cons (ev_var rfl) ea_nil) (spV (a := c) trivial)))) fun _ => et_not (et_B (ev_call (ea_cons (ev_var rfl) ea_nil) (spV (a := t) trivial)))) (fun hd H3 e3 => ?_) (fun hd H3 e3 => ?_)
    · have hdd : x = y ∨ c = 0 ∨ 9 < c ∨ t = 0 ∨ 3 < t := by
        simp at hd
        omega
      have q1 := q.of (n' := n) (r := .error (-22)) ((if_neg hcc).trans (if_pos hdd))
      exact s_retL (el_lst1 ev_c) fun p H4 hp e4 h4 => q1.same hN p H4 (fresh_back (e12.trans e3) hp) ((e12.trans e3).trans e4) h4
    · have hdd : ¬ (x = y ∨ c = 0 ∨ 9 < c ∨ t = 0 ∨ 3 < t) := by
        simp at hd
        omega
      have e13 := e12.trans e3
      refine s_if (et_test (ev_op (ev_call (ea_cons (ev_var rfl) ea_nil) (spV (a := (b, n)) ⟨pa, ea, la, ts, hN.mono e13⟩)) ev_c (rv_eq rfl))) (fun hf H4 e4 => ?_) (fun hf H4 e4 => ?_)
      · have hff : 8 ≤ n.passages.length := by
          have : ((n.passages.length : Nat) : Int) = 8 := by simpa using hf
          omega
        have q1 := q.of (n' := n) (r := .error (-28)) ((if_neg hcc).trans ((if_neg hdd).trans (if_pos hff)))
        exact s_retL (el_lst1 ev_c) fun p H5 hp e5 h5 => q1.same hN p H5 (fresh_back (e13.trans e4) hp) ((e13.trans e4).trans e5) h5
      · have hff : ¬ 8 ≤ n.passages.length := by
          have : ¬ ((n.passages.length : Nat) : Int) = 8 := by simpa using hf
          omega
        have q1 := q.of (n' := { n with passages := n.passages ++ [⟨x, y, c, t⟩] }) (r := .number n.passages.length) ((if_neg hcc).trans ((if_neg hdd).trans (if_neg hff)))
        have e14 := e13.trans e4
        have hbl : b ≠ la := ne_of hb hN.pas (by intro z; cases z)
        refine s_appU (ys := tupV ⟨x, y, c, t⟩) (hN.mono e14).pas (ev_passagesI T.tb (e14 _ _ hb) (ev_var rfl)) (eu_tup (ea_cons (ev_var rfl) (ea_cons (ev_var rfl) (ea_cons (ev_var rfl) (ea_cons (ev_var rfl) ea_nil)))) (by show 4 ≤ 100000; decide)) (by rw [List.length_map, hN.tup.length]; omega) fun u H5 hu e5 h5 => ?_
        have e15 := e14.trans e5
        have hul : u ≠ la := (ne_of_none (hN.mono e14).pas hu).symm
        have hN5 : NetA C (upd H5 la (.lst (ts.map V.ref ++ [.ref u]))) b pa ea la (ts ++ [u]) { n with passages := n.passages ++ [⟨x, y, c, t⟩] } := by
          refine ⟨⟨dx, by rw [upd_ne hbl]; exact e15 _ _ hb⟩, ?_, ?_, ?_, ?_, hN.pe, hN.pl, hN.el⟩
          · rw [upd_ne hN.pl]
            exact (hN.mono e15).ppl
          · rw [upd_ne hN.el]
            exact (hN.mono e15).exi
          · rw [upd_same, List.map_append]
            rfl
          · exact Tups.snoc (by rw [upd_ne hul]; exact h5) (Tups.upd (hN.mono e15).pas (hN.mono e15).tup)
        refine s_retL (el_is (el_lst1 (ev_op (ev_call (ea_cons (ev_var rfl) ea_nil) (spV (a := (b, { n with passages := n.passages ++ [⟨x, y, c, t⟩] })) ⟨pa, ea, la, _, hN5⟩)) ev_c rv_I0)) ?_) fun p H6 hp e6 h6 => q1 p H6 la _ ?_ (((Kept.of_ex e15).upd (.inr (.inr (.inr rfl)))).ex e6) (hN5.mono e6) (.inl rfl) h6
        · rw [row_num]
          simp
        · have hpe : p ≠ la := (ne_of_none (upd_same (H := H5) (a := la)) hp).symm
          rw [upd_ne hpe] at hp
          exact fresh_back e15 hp
theorem erase_map {α β : Type} (f : α → β) : ∀ (l : List α) (i : Nat), (l.map f).eraseIdx i = (l.eraseIdx i).map f
  | [], i => by simp
  | a :: l, 0 => by simp
  | a :: l, i + 1 => by simp [erase_map f l i]
theorem s_fldLc {σ : L2.St} {H : Hp} {D : Ends} {ta tl te : TE} {g : TG} {vs : List Nat} {f : Str} {a : Addr} {xs : List V} (h : Ev tl σ H (.ref a)) (hx : SqL K H a xs) (Pv : Addr → Nat → Hp → Prop) (h0 : ∀ H1 Dl, Ex H H1 → H1 Dl = none → Pv Dl 0 (upd H1 Dl (.lst [])))
    (hl : ∀ Dl i H', i ≤ xs.length → Pv Dl i H' → SqL K H' a xs)
    (hs : ∀ Dl i x H', xs[i]? = some x → Pv Dl i H' → g x (wipe σ vs) H' fun σ2 H2 => wipe σ2 vs = wipe σ vs ∧ te σ2 H2 fun y H4 => ∃ acc, H4 Dl = some (.lst acc) ∧ acc.length < sizeLine ∧ Pv Dl (i + 1) (upd H4 Dl (.lst (acc ++ [y]))))
    (hd : ∀ Dl H', H Dl = none → Pv Dl xs.length H' → ta σ H' fun x H2 => ∃ a C dx fs, x = .ref a ∧ H2 a = some (.ins C dx fs) ∧ Cls K C ∧ NoAttr K C f ∧ fs.length < 1000 ∧ D.nx σ (upd H2 a (.ins C dx (putF f (.ref Dl) fs)))) :
    sFld K ta (tLc (iList K tl) g tYes te vs) f D σ H := h H (Ex.refl H) _ fun H1 e => ⟨a, rfl, ⟨xs, ex_l e hx⟩, fun Dl hD => by
  refine lc_list (K := K) (a := a) (xs := xs) (Pv Dl) (h0 H1 Dl e hD) (hl Dl) ?_ (fun H' p => hd Dl H' (fresh_back e hD) p)
  intro i x H' hi p
  have q := hs Dl i x H' hi p
  exact q⟩
theorem s_popAt {σ : L2.St} {H : Hp} {D : Ends} {ta te : TE} {l : Addr} {i : Nat} {xs : List V} (hl : H l = some (.lst xs)) (ha : Ev ta σ H (.ref l)) (hi : Ev te σ H (.int (i : Int))) (hk : i < xs.length) (hs : i < 1000) (k : ∀ H1, Ex H H1 → D.nx σ (upd H1 l (.lst (xs.eraseIdx i)))) :
    tDrop (tBM K "list" rPopAt ta (tCons te tNil)) D σ H := ha H (Ex.refl H) _ fun H1 e1 =>
  ⟨Or.inl ⟨rfl, xs, SqL.o (e1 l _ hl)⟩, hi H1 e1 _ fun H2 e2 => ⟨l, xs, (i : Int), i, _, rfl, rfl, e2 _ _ (e1 _ _ hl), by omega, by omega, (ixN_seq (ixN_nat hk)).1, List.getElem?_eq_getElem hk, k H2 (e1.trans e2)⟩⟩
theorem seqIx {i n : Nat} (h : i < n) : seqIndex? (i : Int) n = some i := (ixN_seq (ixN_nat h)).1
abbrev s_remove_passage : Stmt := top 33
abbrev N_remove_passage : List Str := ["building", "numbers", "number"]
abbrev P_remove_passage : List Str := ["building", "numbers"]
theorem sc_remove_passage : FnScope N_remove_passage P_remove_passage (defScope s_remove_passage) := ⟨rfl, rfl, rfl, by decide +kernel, rfl, by decide +kernel, by decide +kernel⟩
theorem has_remove_passage (T : Txt K mg C CD) (D : DefAt K mg "remove_passage" s_remove_passage) (h_has_passage : Has P w K mg base 1 "has_passage" P_has_passage (sp_has_passage C)) (h_passage_count : Has P w K mg base 1 "passage_count" P_passage_count (sp_passage_count C)) :
    Has P w K mg base 2 "remove_passage" P_remove_passage (sp_e K C o_removePassage (len 1)) := by
  refine has_of D sc_remove_passage len_e (fun _ _ _ _ _ _ us hl => match us, hl with | [_, _], _ => rfl) fun f cdv A outer s H E hr => ⟨_, (pss_cons (ps_set (i := 2) sc_remove_passage.nd rfl (Or.inl rfl) (pe_ix ix_list (pv 1) pe_int (fun _ _ => rfl))) (pss_cons (ps_if (pt_not (pt_val (pe_callH h_has_passage (hr.mono (by decide)) rfl (pa_cons (pv 0) (pa_cons (pv 2) pa_nil))))) (pss_one (ps_ret (pe_lst (pa_cons (pe_gi rfl T.c_NO_SUCH) pa_nil)))) pss_nil) (pss_cons (ps_expr (pe_bm PySem.F.plainAttrs_list PySem.F.slot_list_pop PySem.F.type_list_pop mt_popAt (pe_fld (pv 0) rfl) (pa_cons (pv 2) pa_nil))) (pss_one (ps_ret (pe_lst (pa_cons (pe_callH h_passage_count (hr.mono (by decide)) rfl (pa_cons (pv 0) pa_nil)) pa_nil))))))), ?_⟩
  rintro vs Q ⟨b, n, na, ns, pa, ea, la, ts, rfl, hN, hW, hA, hl, q⟩
  obtain ⟨i, rfl⟩ := len1 hl
  obtain ⟨dx, hb⟩ := hN.ins
  have h8 := hW.passages
  refine s_asg (ev_op (ev_var rfl) ev_c (rv_ixL hA (atI_nat (j := 0) rfl))) fun H1 e1 => ?_
  refine s_if (et_not (et_B (ev_call (ea_cons (ev_var rfl) (ea_cons (ev_var rfl) ea_nil)) (spV (a := (b, n, i)) ⟨pa, ea, la, ts, hN.mono e1⟩)))) (fun hc H2 e2 => ?_) (fun hc H2 e2 => ?_)
  · rw [Bool.not_eq_true'] at hc
    have q1 := q.of (n' := n) (r := .error (-2)) (if_pos hc)
    exact s_retL (el_lst1 ev_c) fun p H3 hp e3 h3 => q1.same hN p H3 (fresh_back (e1.trans e2) hp) ((e1.trans e2).trans e3) h3
  · rw [Bool.not_eq_false'] at hc
    have hk : i < n.passages.length := of_decide_eq_true hc
    have hcc : ¬ (⟨n⟩ : Planner).isPassage i = false := by
      show ¬ decide (i < n.passages.length) = false
      rw [decide_eq_true hk]
      exact fun z => by cases z
    have q1 := q.of (n' := { n with passages := n.passages.eraseIdx i }) (r := .number (n.passages.length - 1)) (if_neg hcc)
    have e12 := e1.trans e2
    have hbl : b ≠ la := ne_of hb hN.pas (by intro z; cases z)
    have hkt : i < (ts.map V.ref).length := by rw [List.length_map, hN.tup.length]; exact hk
    refine s_popAt (hN.mono e12).pas (ev_passagesI T.tb (e12 _ _ hb) (ev_var rfl)) (ev_var rfl) hkt (by omega) fun H4 e4 => ?_
    have e14 := e12.trans e4
    have hN5 : NetA C (upd H4 la (.lst ((ts.map V.ref).eraseIdx i))) b pa ea la (ts.eraseIdx i) { n with passages := n.passages.eraseIdx i } := by
      refine ⟨⟨dx, by rw [upd_ne hbl]; exact e14 _ _ hb⟩, ?_, ?_, ?_, ?_, hN.pe, hN.pl, hN.el⟩
      · rw [upd_ne hN.pl]
        exact (hN.mono e14).ppl
      · rw [upd_ne hN.el]
        exact (hN.mono e14).exi
      · rw [upd_same, erase_map]
      · exact Tups.erase i (Tups.upd (hN.mono e14).pas (hN.mono e14).tup)
    refine s_retL (el_is (el_lst1 (ev_call (ea_cons (ev_var rfl) ea_nil) (spV (a := (b, { n with passages := n.passages.eraseIdx i })) ⟨pa, ea, la, _, hN5⟩))) ?_) fun p H6 hp e6 h6 => q1 p H6 la _ ?_ (((Kept.of_ex e14).upd (.inr (.inr (.inr rfl)))).ex e6) (hN5.mono e6) (.inl rfl) h6
    · rw [row_num]
      dsimp only
      rw [List.length_eraseIdx_of_lt hk]
    · have hpe : p ≠ la := (ne_of_none (upd_same (H := H4) (a := la)) hp).symm
      rw [upd_ne hpe] at hp
      exact fresh_back e14 hp
abbrev s_set_capacity : Stmt := top 34
abbrev N_set_capacity : List Str := ["building", "numbers", "number", "capacity", "previous"]
abbrev P_set_capacity : List Str := ["building", "numbers"]
theorem sc_set_capacity : FnScope N_set_capacity P_set_capacity (defScope s_set_capacity) := ⟨rfl, rfl, rfl, by decide +kernel, rfl, by decide +kernel, by decide +kernel⟩
theorem has_set_capacity (T : Txt K mg C CD) (D : DefAt K mg "set_capacity" s_set_capacity) (h_with_capacity : Has P w K mg base 1 "with_capacity" P_with_capacity sp_with_capacity) (h_has_passage : Has P w K mg base 1 "has_passage" P_has_passage (sp_has_passage C))
    (h_is_capacity : Has P w K mg base 1 "is_capacity" P_is_capacity sp_is_capacity) (h_capacity_of : Has P w K mg base 1 "capacity_of" P_capacity_of sp_capacity_of) : Has P w K mg base 2 "set_capacity" P_set_capacity (sp_e K C o_setCapacity (len 2)) := by
  refine has_of D sc_set_capacity len_e (fun _ _ _ _ _ _ us hl => match us, hl with | [_, _], _ => rfl) fun f cdv A outer s H E hr => ⟨_, (pss_cons (ps_asg (pv 1) (pg_unl rfl (pgs_cons (pg_name (i := 2) sc_set_capacity.nd rfl (Or.inl rfl)) (pgs_cons (pg_name (i := 3) sc_set_capacity.nd rfl (Or.inl rfl)) pgs_nil)))) (pss_cons (ps_if (pt_not (pt_val (pe_callH h_has_passage (hr.mono (by decide)) rfl (pa_cons (pv 0) (pa_cons (pv 2) pa_nil))))) (pss_one (ps_ret (pe_lst (pa_cons (pe_gi rfl T.c_NO_SUCH) pa_nil)))) pss_nil) (pss_cons (ps_if (pt_not (pt_val (pe_callH h_is_capacity (hr.mono (by decide)) rfl (pa_cons (pv 3) pa_nil)))) (pss_one (ps_ret (pe_lst (pa_cons (pe_gi rfl T.c_BAD_ARGUMENT) pa_nil)))) pss_nil) (pss_cons (ps_set (i := 4) sc_set_capacity.nd rfl (Or.inl rfl) (pe_ix ix_list (pe_fld (pv 0) rfl) (pv 2) (fun _ _ => rfl))) (pss_cons (ps_asg (pe_callH h_with_capacity (hr.mono (by decide)) rfl (pa_cons (pv 4) (pa_cons (pv 3) pa_nil))) (pg_sub (pe_fld (pv 0) rfl) (pv 2) set_list)) (pss_one (ps_ret (pe_lst (pa_cons (pe_callH h_capacity_of (hr.mono (by decide)) rfl (pa_cons (pv 4) pa_nil)) pa_nil))))))))), ?_⟩
  rintro vs Q ⟨b, n, na, ns, pa, ea, la, ts, rfl, hN, hW, hA, hl, q⟩
  obtain ⟨i, v, rfl⟩ := len2 hl
  obtain ⟨dx, hb⟩ := hN.ins
  refine s_unl2 (ev_var rfl) hA fun H1 e1 => ?_
  refine s_if (et_not (et_B (ev_call (ea_cons (ev_var rfl) (ea_cons (ev_var rfl) ea_nil)) (spV (a := (b, n, i)) ⟨pa, ea, la, ts, hN.mono e1⟩)))) (fun hc H2 e2 => ?_) (fun hc H2 e2 => ?_)
  · rw [Bool.not_eq_true'] at hc
    have q1 := q.of (n' := n) (r := .error (-2)) (if_pos hc)
    exact s_retL (el_lst1 ev_c) fun p H3 hp e3 h3 => q1.same hN p H3 (fresh_back (e1.trans e2) hp) ((e1.trans e2).trans e3) h3
  · rw [Bool.not_eq_false'] at hc
    have hk : i < n.passages.length := of_decide_eq_true hc
    have hcc : ¬ (⟨n⟩ : Planner).isPassage i = false := by
      show ¬ decide (i < n.passages.length) = false
      rw [decide_eq_true hk]
      exact fun z => by cases z
    have e12 := e1.trans e2
    refine s_if (et_not (et_B (ev_call (ea_cons (ev_var rfl) ea_nil) (spV (a := v) trivial)))) (fun hd H3 e3 => ?_) (fun hd H3 e3 => ?_)
    · have hdd : v = 0 ∨ 9 < v := by
        simp at hd
        omega
      have q1 := q.of (n' := n) (r := .error (-22)) ((if_neg hcc).trans (if_pos hdd))
      exact s_retL (el_lst1 ev_c) fun p H4 hp e4 h4 => q1.same hN p H4 (fresh_back (e12.trans e3) hp) ((e12.trans e3).trans e4) h4
    · have hdd : ¬ (v = 0 ∨ 9 < v) := by
        have : 1 ≤ v ∧ v ≤ 9 := by simpa using hd
        omega
      have q1 := q.of (n' := n.withCapacity i v) (r := .number (n.passage i).capacity) ((if_neg hcc).trans (if_neg hdd))
      have e13 := e12.trans e3
      obtain ⟨p, hp⟩ : ∃ p, n.passages[i]? = some p := ⟨_, List.getElem?_eq_getElem hk⟩
      obtain ⟨t, ht, hT⟩ := hN.tup.get' hp
      rw [passage_at hp, row_num] at q1
      have hkt : i < ts.length := (List.getElem?_eq_some_iff.mp ht).1
      have hbl : b ≠ la := ne_of hb hN.pas (by intro z; cases z)
      refine s_asg (ev_op (ev_passagesI T.tb (e13 _ _ hb) (ev_var rfl)) (ev_var rfl) (rv_ixL (SqL.o (hN.mono e13).pas) (atI_nat (map_at ht)))) fun H4 e4 => ?_
      have e14 := e13.trans e4
      refine s_setU (hN.mono e14).pas (eu_call (ea_cons (ev_var rfl) (ea_cons (ev_var rfl) ea_nil)) (spU (a := (t, p, v)) (e14 _ _ hT))) (ev_passagesI T.tb (e14 _ _ hb) (ev_var rfl)) (ev_var (v := .int (i : Int)) rfl) (by rw [List.length_map]; exact hkt) fun u H5 hu e5 h5 => ?_
      have e15 := e14.trans e5
      have hul : u ≠ la := (ne_of_none (hN.mono e14).pas hu).symm
      have htl : t ≠ la := ne_of hT hN.pas (by intro z; cases z)
      have hN5 : NetA C (upd H5 la (.lst ((ts.map V.ref).set i (.ref u)))) b pa ea la (ts.set i u) (n.withCapacity i v) := by
        refine ⟨⟨dx, by rw [upd_ne hbl]; exact e15 _ _ hb⟩, ?_, ?_, ?_, ?_, hN.pe, hN.pl, hN.el⟩
        · rw [upd_ne hN.pl]
          exact (hN.mono e15).ppl
        · rw [upd_ne hN.el]
          exact (hN.mono e15).exi
        · rw [upd_same, List.map_set]
        · exact (Tups.upd (hN.mono e15).pas (hN.mono e15).tup).set hp (by rw [upd_ne hul]; exact h5)
      refine s_retL (el_lst1 (ev_call (ea_cons (ev_var rfl) ea_nil) (spV (a := (t, p)) (by dsimp only; rw [upd_ne htl]; exact e15 _ _ hT)))) fun p' H6 hp' e6 h6 => q1 p' H6 la _ ?_ (((Kept.of_ex e15).upd (.inr (.inr (.inr rfl)))).ex e6) (hN5.mono e6) (.inl rfl) h6
      have hpe : p' ≠ la := (ne_of_none (upd_same (H := H5) (a := la)) hp').symm
      rw [upd_ne hpe] at hp'
      exact fresh_back e15 hp'
def revP (p : Passage) : Passage := { p with source := p.target, target := p.source }
theorem bF_put (pa ea la r : Addr) : putF "passages" (.ref r) (bF pa ea la) = bF pa ea r := (put_past (by decide +kernel)).trans (congrArg _ ((put_past (by decide +kernel)).trans (congrArg _ put_here)))
abbrev s_reverse_passages : Stmt := top 35
abbrev N_reverse_passages : List Str := ["building", "numbers", "passage"]
abbrev P_reverse_passages : List Str := ["building", "numbers"]
theorem sc_reverse_passages : FnScope N_reverse_passages P_reverse_passages (defScope s_reverse_passages) := ⟨rfl, rfl, rfl, by decide +kernel, rfl, by decide +kernel, by decide +kernel⟩
theorem has_reverse_passages (T : Txt K mg C CD) (D : DefAt K mg "reverse_passages" s_reverse_passages) (h_reversed_passage : Has P w K mg base 1 "reversed_passage" P_reversed_passage sp_reversed_passage) (h_passage_count : Has P w K mg base 1 "passage_count" P_passage_count (sp_passage_count C)) :
    Has P w K mg base 2 "reverse_passages" P_reverse_passages (sp_e K C o_reverse (fun _ => True)) := by
  refine has_of D sc_reverse_passages len_e (fun _ _ _ _ _ _ us hl => match us, hl with | [_, _], _ => rfl) fun f cdv A outer s H E hr => ⟨_, (pss_cons (ps_fld (pv 0) (pe_lc (own := [("passage", 2)]) (g := gName 2) (tt := tYes) rfl sc_reverse_passages.nd (pi_list (pe_fld (pv 0) rfl)) (blkOk_by (own := [("passage", 2)]) (N := N_reverse_passages) (sc := defScope s_reverse_passages) (by decide +kernel)) (fun _ _ _ _ _ => pg_name (i := 2) sc_reverse_passages.nd rfl (Or.inl rfl)) (fun _ _ _ _ _ => pts_nil) (fun _ _ _ _ _ => (pe_callH h_reversed_passage (hr.mono (by decide)) rfl (pa_cons (pv 2) pa_nil)))) rfl) (pss_one (ps_ret (pe_lst (pa_cons (pe_callH h_passage_count (hr.mono (by decide)) rfl (pa_cons (pv 0) pa_nil)) pa_nil))))), ?_⟩
  rintro vs Q ⟨b, n, na, ns, pa, ea, la, ts, rfl, hN, hW, hA, hl, q⟩
  obtain ⟨dx, hb⟩ := hN.ins
  have h8 := hW.passages
  have q1 := q.of (n' := { n with passages := n.passages.map revP }) (r := .number n.passages.length) rfl
  refine s_fldLc (ev_passagesI T.tb hb (ev_var rfl)) (SqL.o hN.pas) (fun l i H' => Ex H H' ∧ H l = none ∧ ∃ us, H' l = some (.lst (us.map V.ref)) ∧ Tups H' us ((n.passages.take i).map revP))
    (fun H1 l e1 hl => ⟨e1.trans (Ex.new hl), fresh_back e1 hl, [], upd_same, .nil⟩) (fun l i H' _ p => SqL.o (p.1 _ _ hN.pas)) ?_ ?_
  · rintro l i x H' hi ⟨e2, hl, us, h2, hU⟩
    obtain ⟨t, ht, rfl⟩ := iref hi
    obtain ⟨p, hp, hT⟩ := hN.tup.get ht
    refine ⟨rfl, ?_⟩
    have hcall : EvU (tCall sp_reversed_passage [] E0 (tCons (tVar 2) tNil)) [some (.ref b), some (.ref na), some (.ref t)] H' (tupV (revP p)) := eu_call (ea_cons (ev_var rfl) ea_nil) (spU (a := (t, p)) (e2 _ _ hT))
    refine hcall H' (Ex.refl _) _ fun u H3 hu e3 h3 => ⟨us.map V.ref, e3 _ _ h2, ?_, ?_, hl, us ++ [u], ?_, ?_⟩
    · have h1 : us.length = min i n.passages.length := by rw [hU.length, List.length_map, List.length_take]
      rw [List.length_map]
      exact sz_lt (by omega)
    · exact Ex.mut (e2.trans e3) hl
    · rw [upd_same, List.map_append]
      rfl
    · rw [take_succ_snoc hp, List.map_append]
      have hul : u ≠ l := (ne_of_none h2 hu).symm
      exact Tups.snoc (by rw [upd_ne hul]; exact h3) (Tups.upd (e3 _ _ h2) (hU.mono e3))
  · rintro l H' _ ⟨e2, hl, us, h2, hU⟩
    rw [List.length_map, hN.tup.length, List.take_length] at hU
    refine ev_var (v := .ref b) (i := 0) rfl H' (Ex.refl _) _ fun H3 e3 => ?_
    have e13 := e2.trans e3
    refine ⟨b, C, dx, bF pa ea la, rfl, e13 _ _ hb, T.tb.cl, T.tb.nL, by show 3 < 1000; decide, ?_⟩
    rw [bF_put]
    have hlb : l ≠ b := (ne_of_none hb hl).symm
    have hpb : pa ≠ b := (ne_of hb hN.ppl (by intro z; cases z)).symm
    have heb : ea ≠ b := (ne_of hb hN.exi (by intro z; cases z)).symm
    have hlp : pa ≠ l := ne_of_none hN.ppl hl
    have hle : ea ≠ l := ne_of_none hN.exi hl
    have hN5 : NetA C (upd H3 b (.ins C dx (bF pa ea l))) b pa ea l us { n with passages := n.passages.map revP } := by
      refine ⟨⟨dx, upd_same⟩, ?_, ?_, ?_, ?_, hN.pe, hlp, hle⟩
      · rw [upd_ne hpb]
        exact (hN.mono e13).ppl
      · rw [upd_ne heb]
        exact (hN.mono e13).exi
      · rw [upd_ne hlb]
        exact e3 _ _ h2
      · exact Tups.updI (e13 _ _ hb) (hU.mono e3)
    refine s_retL (el_is (el_lst1 (ev_call (ea_cons (ev_var rfl) ea_nil) (spV (a := (b, { n with passages := n.passages.map revP })) ⟨pa, ea, l, _, hN5⟩))) ?_) fun p H6 hp e6 h6 => q1 p H6 l _ ?_ (((Kept.of_ex e13).upd (.inl rfl)).ex e6) (hN5.mono e6) (.inr hl) h6
    · rw [row_num]
      simp
    · have hpe : p ≠ b := (ne_of_none (upd_same (H := H3) (a := b)) hp).symm
      rw [upd_ne hpe] at hp
      exact fresh_back e13 hp
end
end Bx
end

section
set_option maxRecDepth 100000
set_option maxHeartbeats 4000000
/-! desk.py -/
namespace Bx
open PySem PySem.Spec PyProof.Rows L2 Evl
open Kv434 (Area Passage Network Planner PlanStep Response Operation State execute)

/-! ### the ranges are kept -/
theorem WF.empty : WF ⟨[], []⟩ := ⟨by decide, by decide, by simp, by simp, by simp, by simp, by simp, by simp, by simp⟩
theorem net_if {c : Prop} [Decidable c] {x y : Planner × Response} (h1 : c → WF x.1.network) (h2 : ¬ c → WF y.1.network) : WF (if c then x else y).1.network := by
  split
  · exact h1 ‹_›
  · exact h2 ‹_›
theorem WF.run {n : Network} (h : WF n) : ∀ o : Operation, WF (runN n o)
  | .create => WF.empty
  | .addArea x y => net_if (fun _ => h) fun h1 => net_if (fun _ => h) fun h2 => {
      areas := by have h2' : ¬ 5 ≤ n.areas.length := h2; simp; omega
      passages := h.passages
      people := fun a ha => by
        rcases List.mem_append.mp ha with q | q
        · exact h.people a q
        · rw [List.mem_singleton] at q
          subst q
          show x ≤ 20
          omega
      src := fun p hp => by have := h.src p hp; simp; omega
      tgt := fun p hp => by have := h.tgt p hp; simp; omega
      cap1 := h.cap1
      cap9 := h.cap9
      tt1 := h.tt1
      tt3 := h.tt3 }
  | .setPeople i v => net_if (fun _ => h) fun h1 => net_if (fun _ => h) fun h2 => h.withPeople i (by omega)
  | .setExit i v => net_if (fun _ => h) fun h1 => net_if (fun _ => h) fun h2 => {
      areas := by simp; exact h.areas
      passages := h.passages
      people := mem_modify (f := fun (a : Area) => { a with isExit := v == 1 }) (p := fun (a : Area) => a.people ≤ 20) (fun a q => q) h.people
      src := fun p hp => by have := h.src p hp; simp; omega
      tgt := fun p hp => by have := h.tgt p hp; simp; omega
      cap1 := h.cap1
      cap9 := h.cap9
      tt1 := h.tt1
      tt3 := h.tt3 }
  | .addPassage x y c t => net_if (fun _ => h) fun h1 => net_if (fun _ => h) fun h2 => net_if (fun _ => h) fun h3 => by
      have hx : x < n.areas.length := by
        by_cases hh : x < n.areas.length
        · exact hh
        · exact absurd (.inl (decide_eq_false hh)) h1
      have hy : y < n.areas.length := by
        by_cases hh : y < n.areas.length
        · exact hh
        · exact absurd (.inr (decide_eq_false hh)) h1
      have key : ∀ {q : Passage → Prop}, (∀ p ∈ n.passages, q p) → q ⟨x, y, c, t⟩ → ∀ p ∈ n.passages ++ [⟨x, y, c, t⟩], q p := fun {q} h1 h2 p hp => by
        rcases List.mem_append.mp hp with z | z
        · exact h1 p z
        · rw [List.mem_singleton] at z
          subst z
          exact h2
      exact {
        areas := h.areas
        passages := by
          show (n.passages ++ [_]).length ≤ 8
          rw [List.length_append]
          show _ + 1 ≤ 8
          have : ¬ 8 ≤ n.passages.length := h3
          omega
        people := h.people
        src := key (q := fun p => p.source < n.areas.length) h.src hx
        tgt := key (q := fun p => p.target < n.areas.length) h.tgt hy
        cap1 := key (q := fun p => 1 ≤ p.capacity) h.cap1 (by show 1 ≤ c; omega)
        cap9 := key (q := fun p => p.capacity ≤ 9) h.cap9 (by show c ≤ 9; omega)
        tt1 := key (q := fun p => 1 ≤ p.travelTime) h.tt1 (by show 1 ≤ t; omega)
        tt3 := key (q := fun p => p.travelTime ≤ 3) h.tt3 (by show t ≤ 3; omega) }
  | .removePassage k => net_if (fun _ => h) fun h1 => {
      areas := h.areas
      passages := by
        show (n.passages.eraseIdx k).length ≤ 8
        have := List.length_eraseIdx_le n.passages k
        have := h.passages
        omega
      people := h.people
      src := fun p hp => h.src p (List.mem_of_mem_eraseIdx hp)
      tgt := fun p hp => h.tgt p (List.mem_of_mem_eraseIdx hp)
      cap1 := fun p hp => h.cap1 p (List.mem_of_mem_eraseIdx hp)
      cap9 := fun p hp => h.cap9 p (List.mem_of_mem_eraseIdx hp)
      tt1 := fun p hp => h.tt1 p (List.mem_of_mem_eraseIdx hp)
      tt3 := fun p hp => h.tt3 p (List.mem_of_mem_eraseIdx hp) }
  | .setCapacity k v => net_if (fun _ => h) fun h1 => net_if (fun _ => h) fun h2 => h.withCapacity k (by omega) (by omega)
  | .reversePassages => by
      have key : ∀ {q : Passage → Prop}, (∀ p ∈ n.passages, q (revP p)) → ∀ p ∈ n.passages.map revP, q p := fun {q} h1 p hp => by
        obtain ⟨p', hp', rfl⟩ := List.mem_map.mp hp
        exact h1 p' hp'
      exact {
        areas := h.areas
        passages := by
          show (n.passages.map revP).length ≤ 8
          rw [List.length_map]
          exact h.passages
        people := h.people
        src := key (q := fun p => p.source < n.areas.length) h.tgt
        tgt := key (q := fun p => p.target < n.areas.length) h.src
        cap1 := key (q := fun p => 1 ≤ p.capacity) h.cap1
        cap9 := key (q := fun p => p.capacity ≤ 9) h.cap9
        tt1 := key (q := fun p => 1 ≤ p.travelTime) h.tt1
        tt3 := key (q := fun p => p.travelTime ≤ 3) h.tt3 }
  | .listAreas => h
  | .listPassages => h
  | .maxEvacuated t => net_if (fun _ => h) fun _ => h
  | .minRemaining t => net_if (fun _ => h) fun _ => h
  | .earliestEvacuation => h
  | .minCut t => net_if (fun _ => h) fun _ => h
  | .cutCapacity t c => net_if (fun _ => h) fun _ => net_if (fun _ => h) fun _ => h
  | .isValidPlan s => net_if (fun _ => h) fun _ => h
  | .evacuatedByPlan t s => net_if (fun _ => h) fun _ => net_if (fun _ => h) fun _ => h
  | .earliestIfCapacity k c => net_if (fun _ => h) fun _ => net_if (fun _ => h) fun _ => h
  | .earliestIfPeople k c => net_if (fun _ => h) fun _ => net_if (fun _ => h) fun _ => h
  | .maxPeople i t => net_if (fun _ => h) fun _ => net_if (fun _ => h) fun _ => by
      dsimp only
      cases n.maxPeople i t <;> exact h
  | .criticalPassages => by
      unfold runN Planner.run
      dsimp only
      cases n.earliestEvacuation <;> exact h
  | .outgoingPassages i => net_if (fun _ => h) fun _ => h
  | .getState => h

section
variable {P : Program} {w : World} {K : PySem.W.Frag} {mg : Str → Option Value} {base : Heap} {C CD : Addr}
/-! ### the dispatch -/
theorem EditQ.ex {H H1 : Hp} {Q : VK} {b pa ea la : Addr} {n : Network} {row : List V} (q : EditQ C H Q b pa ea la n row) (e : Ex H H1) : EditQ C H1 Q b pa ea la n row := fun p H' la' ts' hp k hN hl h =>
  q p H' la' ts' (fresh_back e hp) (fun x u hx h1 h2 h3 h4 => k x u (e x u hx) h1 h2 h3 h4) hN (hl.imp id (fresh_back e)) h
theorem s_retE {σ : L2.St} {H : Hp} {D : Ends} {ta tb : TE} {o : List Nat → Operation} {ok : List Nat → Prop} {b na pa ea la : Addr} {ts : List Addr} {n : Network} {ns : List Nat} (h1 : Ev ta σ H (.ref b)) (h2 : Ev tb σ H (.ref na)) (hN : NetA C H b pa ea la ts n) (hW : WF n) (hA : SqL K H na (natV ns)) (hok : ok ns)
    (q : EditQ C H D.rt b pa ea la (runN n (o ns)) (ans n (o ns))) : tRet (tCall (sp_e K C o ok) [] E0 (tCons ta (tCons tb tNil))) D σ H :=
  h1 H (Ex.refl _) _ fun H1 e1 => h2 H1 e1 _ fun H2 e2 => ⟨b, n, na, ns, pa, ea, la, ts, rfl, hN.mono (e1.trans e2), hW, ex_l (e1.trans e2) hA, hok, q.ex (e1.trans e2)⟩
theorem ne_num {x y : Nat} {b : Bool} (h : decide (V.int (x : Int) = V.int (y : Int)) = b) : (b = true → x = y) ∧ (b = false → x ≠ y) := by
  constructor
  · intro hb
    rw [hb] at h
    have : (x : Int) = y := by simpa using h
    omega
  · intro hb e
    rw [hb, e] at h
    simp at h
def sp_edit (K : PySem.W.Frag) (C : Addr) : Sp := fun vs H Q _ => ∃ (num : Nat) (b : Addr) (n : Network) (na : Addr) (ns : List Nat) (pa ea la : Addr) (ts : List Addr), vs = [.int num, .ref b, .ref na] ∧ 1 ≤ num ∧ num ≤ 7 ∧ NetA C H b pa ea la ts n ∧ WF n ∧ SqL K H na (natV ns) ∧ okN num ns ∧
  EditQ C H Q b pa ea la (runN n (opOf num ns)) (ans n (opOf num ns))
abbrev s_edit_answer : Stmt := top 97
abbrev N_edit_answer : List Str := ["number", "building", "numbers"]
abbrev P_edit_answer : List Str := ["number", "building", "numbers"]
theorem sc_edit_answer : FnScope N_edit_answer P_edit_answer (defScope s_edit_answer) := ⟨rfl, rfl, rfl, by decide +kernel, rfl, by decide +kernel, by decide +kernel⟩
theorem has_edit_answer (T : Txt K mg C CD) (D : DefAt K mg "edit_answer" s_edit_answer) (h_add_area : Has P w K mg base 2 "add_area" P_add_area (sp_e K C o_addArea (len 2))) (h_set_people : Has P w K mg base 2 "set_people" P_set_people (sp_e K C o_setPeople (len 2)))
    (h_set_exit : Has P w K mg base 2 "set_exit" P_set_exit (sp_e K C o_setExit (len 2))) (h_add_passage : Has P w K mg base 2 "add_passage" P_add_passage (sp_e K C o_addPassage (len 4))) (h_remove_passage : Has P w K mg base 2 "remove_passage" P_remove_passage (sp_e K C o_removePassage (len 1)))
    (h_set_capacity : Has P w K mg base 2 "set_capacity" P_set_capacity (sp_e K C o_setCapacity (len 2))) (h_reverse_passages : Has P w K mg base 2 "reverse_passages" P_reverse_passages (sp_e K C o_reverse (fun _ => True))) :
    Has P w K mg base 3 "edit_answer" P_edit_answer (sp_edit K C) := by
  refine has_of D sc_edit_answer (fun vs H Q E h => ?_) (fun _ _ _ _ _ _ us hl => match us, hl with | [_, _, _], _ => rfl) fun f cdv A outer s H E hr => ⟨_, (pss_cons (ps_if (pt_cmpR op_eq (pv 0) pe_int (nomark _)) (pss_one (ps_ret (pe_callH h_add_area (hr.mono (by decide)) rfl (pa_cons (pv 1) (pa_cons (pv 2) pa_nil))))) pss_nil) (pss_cons (ps_if (pt_cmpR op_eq (pv 0) pe_int (nomark _)) (pss_one (ps_ret (pe_callH h_set_people (hr.mono (by decide)) rfl (pa_cons (pv 1) (pa_cons (pv 2) pa_nil))))) pss_nil) (pss_cons (ps_if (pt_cmpR op_eq (pv 0) pe_int (nomark _)) (pss_one (ps_ret (pe_callH h_set_exit (hr.mono (by decide)) rfl (pa_cons (pv 1) (pa_cons (pv 2) pa_nil))))) pss_nil) (pss_cons (ps_if (pt_cmpR op_eq (pv 0) pe_int (nomark _)) (pss_one (ps_ret (pe_callH h_add_passage (hr.mono (by decide)) rfl (pa_cons (pv 1) (pa_cons (pv 2) pa_nil))))) pss_nil) (pss_cons (ps_if (pt_cmpR op_eq (pv 0) pe_int (nomark _)) (pss_one (ps_ret (pe_callH h_remove_passage (hr.mono (by decide)) rfl (pa_cons (pv 1) (pa_cons (pv 2) pa_nil))))) pss_nil) (pss_cons (ps_if (pt_cmpR op_eq (pv 0) pe_int (nomark _)) (pss_one (ps_ret (pe_callH h_set_capacity (hr.mono (by decide)) rfl (pa_cons (pv 1) (pa_cons (pv 2) pa_nil))))) pss_nil) (pss_one (ps_ret (pe_callH h_reverse_passages (hr.mono (by decide)) rfl (pa_cons (pv 1) (pa_cons (pv 2) pa_nil))))))))))), ?_⟩
  · obtain ⟨num, b, n, na, ns, pa, ea, la, ts, rfl, _⟩ := h
    rfl
  · rintro vs Q ⟨num, b, n, na, ns, pa, ea, la, ts, rfl, h1, h7, hN, hW, hA, hok, q⟩
    refine s_if (et_test (ev_op (ev_var rfl) ev_c (rv_eq rfl))) (fun hc H1 e1 => ?_) (fun hc H1 e1 => ?_)
    · obtain rfl := (ne_num (y := 1) hc).1 rfl
      exact s_retE (ev_var rfl) (ev_var rfl) (hN.mono e1) hW (ex_l e1 hA) hok (q.ex e1)
    have n1 := (ne_num (y := 1) hc).2 rfl
    refine s_if (et_test (ev_op (ev_var rfl) ev_c (rv_eq rfl))) (fun hc H2 e2 => ?_) (fun hc H2 e2 => ?_)
    · obtain rfl := (ne_num (y := 2) hc).1 rfl
      have e := e1.trans e2
      exact s_retE (ev_var rfl) (ev_var rfl) (hN.mono e) hW (ex_l e hA) hok (q.ex e)
    have n2 := (ne_num (y := 2) hc).2 rfl
    replace e2 := e1.trans e2
    refine s_if (et_test (ev_op (ev_var rfl) ev_c (rv_eq rfl))) (fun hc H3 e3 => ?_) (fun hc H3 e3 => ?_)
    · obtain rfl := (ne_num (y := 3) hc).1 rfl
      have e := e2.trans e3
      exact s_retE (ev_var rfl) (ev_var rfl) (hN.mono e) hW (ex_l e hA) hok (q.ex e)
    have n3 := (ne_num (y := 3) hc).2 rfl
    replace e3 := e2.trans e3
    refine s_if (et_test (ev_op (ev_var rfl) ev_c (rv_eq rfl))) (fun hc H4 e4 => ?_) (fun hc H4 e4 => ?_)
    · obtain rfl := (ne_num (y := 4) hc).1 rfl
      have e := e3.trans e4
      exact s_retE (ev_var rfl) (ev_var rfl) (hN.mono e) hW (ex_l e hA) hok (q.ex e)
    have n4 := (ne_num (y := 4) hc).2 rfl
    replace e4 := e3.trans e4
    refine s_if (et_test (ev_op (ev_var rfl) ev_c (rv_eq rfl))) (fun hc H5 e5 => ?_) (fun hc H5 e5 => ?_)
    · obtain rfl := (ne_num (y := 5) hc).1 rfl
      have e := e4.trans e5
      exact s_retE (ev_var rfl) (ev_var rfl) (hN.mono e) hW (ex_l e hA) hok (q.ex e)
    have n5 := (ne_num (y := 5) hc).2 rfl
    replace e5 := e4.trans e5
    refine s_if (et_test (ev_op (ev_var rfl) ev_c (rv_eq rfl))) (fun hc H6 e6 => ?_) (fun hc H6 e6 => ?_)
    · obtain rfl := (ne_num (y := 6) hc).1 rfl
      have e := e5.trans e6
      exact s_retE (ev_var rfl) (ev_var rfl) (hN.mono e) hW (ex_l e hA) hok (q.ex e)
    have n6 := (ne_num (y := 6) hc).2 rfl
    obtain rfl : num = 7 := by omega
    have e := e5.trans e6
    exact s_retE (ev_var rfl) (ev_var rfl) (hN.mono e) hW (ex_l e hA) trivial (q.ex e)
/-- the queries by number -/
def sp_query (K : PySem.W.Frag) (C : Addr) (lo hi : Nat) : Sp := pureL (α := Nat × Addr × Network × Addr × List Nat) (fun a => [.int a.1, .ref a.2.1, .ref a.2.2.2.1]) (fun a H => qPre K C a.2 H ∧ okN a.1 a.2.2.2.2 ∧ lo ≤ a.1 ∧ a.1 ≤ hi) (fun a => ans a.2.2.1 (opOf a.1 a.2.2.2.2))
abbrev s_first_query_answer : Stmt := top 98
abbrev N_first_query_answer : List Str := ["number", "building", "numbers"]
abbrev P_first_query_answer : List Str := ["number", "building", "numbers"]
theorem sc_first_query_answer : FnScope N_first_query_answer P_first_query_answer (defScope s_first_query_answer) := ⟨rfl, rfl, rfl, by decide +kernel, rfl, by decide +kernel, by decide +kernel⟩
theorem has_first_query_answer (T : Txt K mg C CD) (D : DefAt K mg "first_query_answer" s_first_query_answer) (h_list_areas : Has P w K mg base 2 "list_areas" P_list_areas (sp_q K C o_listAreas (fun _ => True))) (h_list_passages : Has P w K mg base 2 "list_passages" P_list_passages (sp_q K C o_listPassages (fun _ => True)))
    (h_answer_max_evacuated : Has P w K mg base 8 "answer_max_evacuated" P_answer_max_evacuated (sp_q K C o_maxEvacuated (len 1))) (h_answer_min_remaining : Has P w K mg base 8 "answer_min_remaining" P_answer_min_remaining (sp_q K C o_minRemaining (len 1)))
    (h_answer_earliest : Has P w K mg base 9 "answer_earliest" P_answer_earliest (sp_q K C o_earliest (fun _ => True))) (h_answer_min_cut : Has P w K mg base 7 "answer_min_cut" P_answer_min_cut (sp_q K C o_minCut (len 1)))
    (h_answer_cut_capacity : Has P w K mg base 5 "answer_cut_capacity" P_answer_cut_capacity (sp_q K C o_cutCapacity (fun ns => 1 ≤ ns.length))) :
    Has P w K mg base 10 "first_query_answer" P_first_query_answer (sp_query K C 8 14) := by
  refine has_L D sc_first_query_answer (fun _ => rfl) (fun _ _ _ _ _ _ us hl => match us, hl with | [_, _, _], _ => rfl) fun f cdv A outer s H E hr => ⟨_, (pss_cons (ps_if (pt_cmpR op_eq (pv 0) pe_int (nomark _)) (pss_one (ps_ret (pe_callH h_list_areas (hr.mono (by decide)) rfl (pa_cons (pv 1) (pa_cons (pv 2) pa_nil))))) pss_nil) (pss_cons (ps_if (pt_cmpR op_eq (pv 0) pe_int (nomark _)) (pss_one (ps_ret (pe_callH h_list_passages (hr.mono (by decide)) rfl (pa_cons (pv 1) (pa_cons (pv 2) pa_nil))))) pss_nil) (pss_cons (ps_if (pt_cmpR op_eq (pv 0) pe_int (nomark _)) (pss_one (ps_ret (pe_callH h_answer_max_evacuated (hr.mono (by decide)) rfl (pa_cons (pv 1) (pa_cons (pv 2) pa_nil))))) pss_nil) (pss_cons (ps_if (pt_cmpR op_eq (pv 0) pe_int (nomark _)) (pss_one (ps_ret (pe_callH h_answer_min_remaining (hr.mono (by decide)) rfl (pa_cons (pv 1) (pa_cons (pv 2) pa_nil))))) pss_nil) (pss_cons (ps_if (pt_cmpR op_eq (pv 0) pe_int (nomark _)) (pss_one (ps_ret (pe_callH h_answer_earliest (hr.mono (by decide)) rfl (pa_cons (pv 1) (pa_cons (pv 2) pa_nil))))) pss_nil) (pss_cons (ps_if (pt_cmpR op_eq (pv 0) pe_int (nomark _)) (pss_one (ps_ret (pe_callH h_answer_min_cut (hr.mono (by decide)) rfl (pa_cons (pv 1) (pa_cons (pv 2) pa_nil))))) pss_nil) (pss_one (ps_ret (pe_callH h_answer_cut_capacity (hr.mono (by decide)) rfl (pa_cons (pv 1) (pa_cons (pv 2) pa_nil))))))))))), ?_⟩
  rintro ⟨num, b, n, na, ns⟩ H0 Q ⟨⟨hN, hW, hA⟩, hok, h8, h14⟩ e q
  replace hN := hN.mono e
  replace hA := ex_l e hA
  dsimp only at hN hW hA hok h8 h14 q
  refine s_if (et_test (ev_op (ev_var rfl) ev_c (rv_eq rfl))) (fun hc H1 e1 => ?_) (fun hc H1 e1 => ?_)
  · obtain rfl := (ne_num (y := 8) hc).1 rfl
    exact s_retL (el_call (ea_cons (ev_var rfl) (ea_cons (ev_var rfl) ea_nil)) (spL (a := (b, n, na, ns)) ⟨⟨hN.mono e1, hW, ex_l e1 hA⟩, trivial⟩)) fun p H2 hp e2 h2 => q p H2 (fresh_back e1 hp) (e1.trans e2) h2
  have n1 := (ne_num (y := 8) hc).2 rfl
  refine s_if (et_test (ev_op (ev_var rfl) ev_c (rv_eq rfl))) (fun hc H2 e2 => ?_) (fun hc H2 e2 => ?_)
  · obtain rfl := (ne_num (y := 9) hc).1 rfl
    replace e2 := e1.trans e2
    exact s_retL (el_call (ea_cons (ev_var rfl) (ea_cons (ev_var rfl) ea_nil)) (spL (a := (b, n, na, ns)) ⟨⟨hN.mono e2, hW, ex_l e2 hA⟩, trivial⟩)) fun p H2 hp e3 h2 => q p H2 (fresh_back e2 hp) (e2.trans e3) h2
  have n2 := (ne_num (y := 9) hc).2 rfl
  replace e2 := e1.trans e2
  refine s_if (et_test (ev_op (ev_var rfl) ev_c (rv_eq rfl))) (fun hc H3 e3 => ?_) (fun hc H3 e3 => ?_)
  · obtain rfl := (ne_num (y := 10) hc).1 rfl
    replace e3 := e2.trans e3
    exact s_retL (el_call (ea_cons (ev_var rfl) (ea_cons (ev_var rfl) ea_nil)) (spL (a := (b, n, na, ns)) ⟨⟨hN.mono e3, hW, ex_l e3 hA⟩, hok⟩)) fun p H2 hp e4 h2 => q p H2 (fresh_back e3 hp) (e3.trans e4) h2
  have n3 := (ne_num (y := 10) hc).2 rfl
  replace e3 := e2.trans e3
  refine s_if (et_test (ev_op (ev_var rfl) ev_c (rv_eq rfl))) (fun hc H4 e4 => ?_) (fun hc H4 e4 => ?_)
  · obtain rfl := (ne_num (y := 11) hc).1 rfl
    replace e4 := e3.trans e4
    exact s_retL (el_call (ea_cons (ev_var rfl) (ea_cons (ev_var rfl) ea_nil)) (spL (a := (b, n, na, ns)) ⟨⟨hN.mono e4, hW, ex_l e4 hA⟩, hok⟩)) fun p H2 hp e5 h2 => q p H2 (fresh_back e4 hp) (e4.trans e5) h2
  have n4 := (ne_num (y := 11) hc).2 rfl
  replace e4 := e3.trans e4
  refine s_if (et_test (ev_op (ev_var rfl) ev_c (rv_eq rfl))) (fun hc H5 e5 => ?_) (fun hc H5 e5 => ?_)
  · obtain rfl := (ne_num (y := 12) hc).1 rfl
    replace e5 := e4.trans e5
    exact s_retL (el_call (ea_cons (ev_var rfl) (ea_cons (ev_var rfl) ea_nil)) (spL (a := (b, n, na, ns)) ⟨⟨hN.mono e5, hW, ex_l e5 hA⟩, trivial⟩)) fun p H2 hp e6 h2 => q p H2 (fresh_back e5 hp) (e5.trans e6) h2
  have n5 := (ne_num (y := 12) hc).2 rfl
  replace e5 := e4.trans e5
  refine s_if (et_test (ev_op (ev_var rfl) ev_c (rv_eq rfl))) (fun hc H6 e6 => ?_) (fun hc H6 e6 => ?_)
  · obtain rfl := (ne_num (y := 13) hc).1 rfl
    replace e6 := e5.trans e6
    exact s_retL (el_call (ea_cons (ev_var rfl) (ea_cons (ev_var rfl) ea_nil)) (spL (a := (b, n, na, ns)) ⟨⟨hN.mono e6, hW, ex_l e6 hA⟩, hok⟩)) fun p H2 hp e7 h2 => q p H2 (fresh_back e6 hp) (e6.trans e7) h2
  have n6 := (ne_num (y := 13) hc).2 rfl
  replace e6 := e5.trans e6
  obtain rfl : num = 14 := by omega
  exact s_retL (el_call (ea_cons (ev_var rfl) (ea_cons (ev_var rfl) ea_nil)) (spL (a := (b, n, na, ns)) ⟨⟨hN.mono e6, hW, ex_l e6 hA⟩, hok⟩)) fun p H2 hp e7 h2 => q p H2 (fresh_back e6 hp) (e6.trans e7) h2
abbrev s_last_query_answer : Stmt := top 99
abbrev N_last_query_answer : List Str := ["number", "building", "numbers"]
abbrev P_last_query_answer : List Str := ["number", "building", "numbers"]
theorem sc_last_query_answer : FnScope N_last_query_answer P_last_query_answer (defScope s_last_query_answer) := ⟨rfl, rfl, rfl, by decide +kernel, rfl, by decide +kernel, by decide +kernel⟩
theorem has_last_query_answer (T : Txt K mg C CD) (D : DefAt K mg "last_query_answer" s_last_query_answer) (h_answer_is_valid : Has P w K mg base 6 "answer_is_valid" P_answer_is_valid (sp_q K C o_isValid (fun _ => True))) (h_answer_evacuated : Has P w K mg base 6 "answer_evacuated" P_answer_evacuated (sp_q K C o_evacuated (fun ns => 1 ≤ ns.length)))
    (h_answer_if_capacity : Has P w K mg base 9 "answer_if_capacity" P_answer_if_capacity (sp_q K C o_ifCapacity (len 2))) (h_answer_if_people : Has P w K mg base 9 "answer_if_people" P_answer_if_people (sp_q K C o_ifPeople (len 2)))
    (h_answer_max_people : Has P w K mg base 7 "answer_max_people" P_answer_max_people (sp_q K C o_maxPeople (len 2))) (h_answer_critical : Has P w K mg base 9 "answer_critical" P_answer_critical (sp_q K C o_critical (fun _ => True)))
    (h_answer_outgoing : Has P w K mg base 3 "answer_outgoing" P_answer_outgoing (sp_q K C o_outgoing (len 1))) (h_answer_state : Has P w K mg base 2 "answer_state" P_answer_state (sp_q K C o_state (fun _ => True))) :
    Has P w K mg base 10 "last_query_answer" P_last_query_answer (sp_query K C 15 22) := by
  refine has_L D sc_last_query_answer (fun _ => rfl) (fun _ _ _ _ _ _ us hl => match us, hl with | [_, _, _], _ => rfl) fun f cdv A outer s H E hr => ⟨_, (pss_cons (ps_if (pt_cmpR op_eq (pv 0) pe_int (nomark _)) (pss_one (ps_ret (pe_callH h_answer_is_valid (hr.mono (by decide)) rfl (pa_cons (pv 1) (pa_cons (pv 2) pa_nil))))) pss_nil) (pss_cons (ps_if (pt_cmpR op_eq (pv 0) pe_int (nomark _)) (pss_one (ps_ret (pe_callH h_answer_evacuated (hr.mono (by decide)) rfl (pa_cons (pv 1) (pa_cons (pv 2) pa_nil))))) pss_nil) (pss_cons (ps_if (pt_cmpR op_eq (pv 0) pe_int (nomark _)) (pss_one (ps_ret (pe_callH h_answer_if_capacity (hr.mono (by decide)) rfl (pa_cons (pv 1) (pa_cons (pv 2) pa_nil))))) pss_nil) (pss_cons (ps_if (pt_cmpR op_eq (pv 0) pe_int (nomark _)) (pss_one (ps_ret (pe_callH h_answer_if_people (hr.mono (by decide)) rfl (pa_cons (pv 1) (pa_cons (pv 2) pa_nil))))) pss_nil) (pss_cons (ps_if (pt_cmpR op_eq (pv 0) pe_int (nomark _)) (pss_one (ps_ret (pe_callH h_answer_max_people (hr.mono (by decide)) rfl (pa_cons (pv 1) (pa_cons (pv 2) pa_nil))))) pss_nil) (pss_cons (ps_if (pt_cmpR op_eq (pv 0) pe_int (nomark _)) (pss_one (ps_ret (pe_callH h_answer_critical (hr.mono (by decide)) rfl (pa_cons (pv 1) (pa_cons (pv 2) pa_nil))))) pss_nil) (pss_cons (ps_if (pt_cmpR op_eq (pv 0) pe_int (nomark _)) (pss_one (ps_ret (pe_callH h_answer_outgoing (hr.mono (by decide)) rfl (pa_cons (pv 1) (pa_cons (pv 2) pa_nil))))) pss_nil) (pss_one (ps_ret (pe_callH h_answer_state (hr.mono (by decide)) rfl (pa_cons (pv 1) (pa_cons (pv 2) pa_nil)))))))))))), ?_⟩
  rintro ⟨num, b, n, na, ns⟩ H0 Q ⟨⟨hN, hW, hA⟩, hok, h15, h22⟩ e q
  replace hN := hN.mono e
  replace hA := ex_l e hA
  dsimp only at hN hW hA hok h15 h22 q
  refine s_if (et_test (ev_op (ev_var rfl) ev_c (rv_eq rfl))) (fun hc H1 e1 => ?_) (fun hc H1 e1 => ?_)
  · obtain rfl := (ne_num (y := 15) hc).1 rfl
    exact s_retL (el_call (ea_cons (ev_var rfl) (ea_cons (ev_var rfl) ea_nil)) (spL (a := (b, n, na, ns)) ⟨⟨hN.mono e1, hW, ex_l e1 hA⟩, trivial⟩)) fun p H2 hp e2 h2 => q p H2 (fresh_back e1 hp) (e1.trans e2) h2
  have n1 := (ne_num (y := 15) hc).2 rfl
  refine s_if (et_test (ev_op (ev_var rfl) ev_c (rv_eq rfl))) (fun hc H2 e2 => ?_) (fun hc H2 e2 => ?_)
  · obtain rfl := (ne_num (y := 16) hc).1 rfl
    replace e2 := e1.trans e2
    exact s_retL (el_call (ea_cons (ev_var rfl) (ea_cons (ev_var rfl) ea_nil)) (spL (a := (b, n, na, ns)) ⟨⟨hN.mono e2, hW, ex_l e2 hA⟩, hok⟩)) fun p H2 hp e3 h2 => q p H2 (fresh_back e2 hp) (e2.trans e3) h2
  have n2 := (ne_num (y := 16) hc).2 rfl
  replace e2 := e1.trans e2
  refine s_if (et_test (ev_op (ev_var rfl) ev_c (rv_eq rfl))) (fun hc H3 e3 => ?_) (fun hc H3 e3 => ?_)
  · obtain rfl := (ne_num (y := 17) hc).1 rfl
    replace e3 := e2.trans e3
    exact s_retL (el_call (ea_cons (ev_var rfl) (ea_cons (ev_var rfl) ea_nil)) (spL (a := (b, n, na, ns)) ⟨⟨hN.mono e3, hW, ex_l e3 hA⟩, hok⟩)) fun p H2 hp e4 h2 => q p H2 (fresh_back e3 hp) (e3.trans e4) h2
  have n3 := (ne_num (y := 17) hc).2 rfl
  replace e3 := e2.trans e3
  refine s_if (et_test (ev_op (ev_var rfl) ev_c (rv_eq rfl))) (fun hc H4 e4 => ?_) (fun hc H4 e4 => ?_)
  · obtain rfl := (ne_num (y := 18) hc).1 rfl
    replace e4 := e3.trans e4
    exact s_retL (el_call (ea_cons (ev_var rfl) (ea_cons (ev_var rfl) ea_nil)) (spL (a := (b, n, na, ns)) ⟨⟨hN.mono e4, hW, ex_l e4 hA⟩, hok⟩)) fun p H2 hp e5 h2 => q p H2 (fresh_back e4 hp) (e4.trans e5) h2
  have n4 := (ne_num (y := 18) hc).2 rfl
  replace e4 := e3.trans e4
  refine s_if (et_test (ev_op (ev_var rfl) ev_c (rv_eq rfl))) (fun hc H5 e5 => ?_) (fun hc H5 e5 => ?_)
  · obtain rfl := (ne_num (y := 19) hc).1 rfl
    replace e5 := e4.trans e5
    exact s_retL (el_call (ea_cons (ev_var rfl) (ea_cons (ev_var rfl) ea_nil)) (spL (a := (b, n, na, ns)) ⟨⟨hN.mono e5, hW, ex_l e5 hA⟩, hok⟩)) fun p H2 hp e6 h2 => q p H2 (fresh_back e5 hp) (e5.trans e6) h2
  have n5 := (ne_num (y := 19) hc).2 rfl
  replace e5 := e4.trans e5
  refine s_if (et_test (ev_op (ev_var rfl) ev_c (rv_eq rfl))) (fun hc H6 e6 => ?_) (fun hc H6 e6 => ?_)
  · obtain rfl := (ne_num (y := 20) hc).1 rfl
    replace e6 := e5.trans e6
    exact s_retL (el_call (ea_cons (ev_var rfl) (ea_cons (ev_var rfl) ea_nil)) (spL (a := (b, n, na, ns)) ⟨⟨hN.mono e6, hW, ex_l e6 hA⟩, trivial⟩)) fun p H2 hp e7 h2 => q p H2 (fresh_back e6 hp) (e6.trans e7) h2
  have n6 := (ne_num (y := 20) hc).2 rfl
  replace e6 := e5.trans e6
  refine s_if (et_test (ev_op (ev_var rfl) ev_c (rv_eq rfl))) (fun hc H7 e7 => ?_) (fun hc H7 e7 => ?_)
  · obtain rfl := (ne_num (y := 21) hc).1 rfl
    replace e7 := e6.trans e7
    exact s_retL (el_call (ea_cons (ev_var rfl) (ea_cons (ev_var rfl) ea_nil)) (spL (a := (b, n, na, ns)) ⟨⟨hN.mono e7, hW, ex_l e7 hA⟩, hok⟩)) fun p H2 hp e8 h2 => q p H2 (fresh_back e7 hp) (e7.trans e8) h2
  have n7 := (ne_num (y := 21) hc).2 rfl
  replace e7 := e6.trans e7
  obtain rfl : num = 22 := by omega
  exact s_retL (el_call (ea_cons (ev_var rfl) (ea_cons (ev_var rfl) ea_nil)) (spL (a := (b, n, na, ns)) ⟨⟨hN.mono e7, hW, ex_l e7 hA⟩, trivial⟩)) fun p H2 hp e8 h2 => q p H2 (fresh_back e7 hp) (e7.trans e8) h2

/-! ### the desk -/
def dF (v : V) : List (Str × V) := [("building", v)]
theorem dF_building {v : V} : (dF v).lookup ("building" : Str) = some v := lk_here
theorem dF_answer {v : V} : (dF v).lookup ("answer" : Str) = none := (lk_past (by decide +kernel)).trans rfl
theorem dF_put (u v : V) : putF "building" v (dF u) = dF v := put_here
theorem dF_new (v : V) : putF "building" v [] = dF v := rfl
/-- at d a desk whose state is st; own: the objects of its building -/
def DeskAt (C CD : Addr) (H : Hp) (d : Addr) (own : List Addr) (st : State) : Prop := ∃ dx, match st with
  | none => own = [] ∧ H d = some (.ins CD dx (dF .non))
  | some p => ∃ b pa ea la ts, own = [b, pa, ea, la] ∧ H d = some (.ins CD dx (dF (.ref b))) ∧ b ≠ d ∧ NetA C H b pa ea la ts p.network ∧ WF p.network
def DeskQ (C CD : Addr) (H : Hp) (Q : VK) (d : Addr) (own : List Addr) (st : State) (row : List V) : Prop := ∀ (p : Addr) (H' : Hp) (own' : List Addr), H p = none → (∀ x u, H x = some u → x ≠ d → x ∉ own → H' x = some u) → DeskAt C CD H' d own' st → (∀ x ∈ own', x ∈ own ∨ H x = none) → H' p = some (.lst row) → Q (.ref p) H'
def sp_desk (K : PySem.W.Frag) (C CD : Addr) : Sp := fun vs H Q _ => ∃ (d na : Addr) (num : Nat) (ns : List Nat) (own : List Addr) (st : State), vs = [.ref d, .int num, .ref na] ∧ DeskAt C CD H d own st ∧ num ≤ 22 ∧ SqL K H na (natV ns) ∧ okN num ns ∧
  DeskQ C CD H Q d own (execute st (opOf num ns)).1 (rowR (execute st (opOf num ns)).2)
def sp_Dinit (CD : Addr) : Sp := fun vs H Q _ => ∃ (x dx : Addr), vs = [.ref x] ∧ H x = some (.ins CD dx []) ∧ ∀ H', (∀ b o, H b = some o → b ≠ x → H' b = some o) → H' x = some (.ins CD dx (dF .non)) → Q .non H'
abbrev s_Desk_init : Stmt := inClass (top 100) 0
abbrev N_Desk_init : List Str := ["self"]
abbrev P_Desk_init : List Str := ["self"]
theorem sc_Desk_init : FnScope N_Desk_init P_Desk_init (defScope s_Desk_init) := ⟨rfl, rfl, rfl, by decide +kernel, rfl, by decide +kernel, by decide +kernel⟩
theorem has_Dinit (T : Txt K mg C CD) {f : Addr} {fd : FuncData} (F : Fun K "__init__" "Desk.__init__" s_Desk_init f fd) (M : Mk K CD f) : HasC P w K mg base 1 "Desk" CD P_Desk_init (sp_Dinit CD) := by
  refine ⟨f, fd, T.gD, M, F.binds (fun _ _ _ _ _ _ us hl => match us, hl with | [_], _ => rfl), F.ok sc_Desk_init (fun vs H Q E h => ?_) (fun cdv A outer s H vs Q E hr h => ⟨_, (pss_one (ps_fld (pv 0) pe_non rfl)), ?_⟩)⟩
  · obtain ⟨x, dx, rfl, _⟩ := h
    rfl
  · obtain ⟨x, dx, rfl, hx, q⟩ := h
    refine ⟨_, rfl, x, CD, dx, [], rfl, hx, T.clD, T.nB, by show 0 < 1000; decide, ?_⟩
    rw [dF_new]
    exact q _ (fun b o hb hne => by rw [upd_ne hne]; exact hb) upd_same
theorem NetA.updD {H : Hp} {b pa ea la d dx : Addr} {ts : List Addr} {n : Network} {o : HO} {fs : List (Str × V)} (h : NetA C H b pa ea la ts n) (hd : H d = some (.ins CD dx fs)) (hne : b ≠ d) : NetA C (L2.upd H d o) b pa ea la ts n := by
  refine ⟨let ⟨dx, q⟩ := h.ins; ⟨dx, by rw [upd_ne hne]; exact q⟩, ?_, ?_, ?_, h.tup.updI hd, h.pe, h.pl, h.el⟩
  · rw [upd_ne (ne_of h.ppl hd (by intro z; cases z))]
    exact h.ppl
  · rw [upd_ne (ne_of h.exi hd (by intro z; cases z))]
    exact h.exi
  · rw [upd_ne (ne_of h.pas hd (by intro z; cases z))]
    exact h.pas
/-- is it None -/
theorem rv_isN {x : V} {H : Hp} : RV (fun x y H Q => y = .non ∧ Q (.bl (decide (x = .non))) H) x .non H (.bl (decide (x = .non))) := fun H1 _ Q q => ⟨rfl, q H1 (Ex.refl _)⟩
theorem ta_consL {σ : L2.St} {H : Hp} {te : TE} {tr : TA} {xs : List V} {Q : List V → Hp → Prop} (h : EvL te σ H xs) (k : ∀ p H1, H p = none → Ex H H1 → H1 p = some (.lst xs) → tr σ H1 (fun vs H2 => Q (.ref p :: vs) H2)) : tCons te tr σ H Q := h H (Ex.refl _) _ fun p H1 hp e hl => k p H1 hp e hl
theorem ta_nil {σ : L2.St} {H : Hp} {Q : List V → Hp → Prop} (h : Q [] H) : tNil σ H Q := h
theorem t_make {σ : L2.St} {H : Hp} {t : TA} {sp : Sp} {C0 : Addr} {Q : VK} (h : t σ H fun vs H1 => ∀ x dx, H1 x = none → H1 dx = none → dx ≠ x → sp (.ref x :: vs) (upd (upd H1 dx (.own x)) x (.ins C0 dx [])) (fun v H2 => v = .non ∧ Q (.ref x) H2) E0) : tMake C0 sp [] E0 t σ H Q := by
  unfold tMake
  have e : (fun vs H1 => ∀ x dx, H1 x = none → H1 dx = none → dx ≠ x → sp (.ref x :: (vs ++ [])) (upd (upd H1 dx (.own x)) x (.ins C0 dx [])) (fun v H2 => v = .non ∧ Q (.ref x) H2) E0) = fun vs H1 => ∀ x dx, H1 x = none → H1 dx = none → dx ≠ x → sp (.ref x :: vs) (upd (upd H1 dx (.own x)) x (.ins C0 dx [])) (fun v H2 => v = .non ∧ Q (.ref x) H2) E0 := by
    funext vs H1
    rw [List.append_nil]
  rw [e]
  exact h
/-- d.building = a new empty building -/
theorem s_fldE {σ : L2.St} {H : Hp} {D : Ends} {ta : TE} {d dx : Addr} {fs : List (Str × V)} {f : Str} (ho : ∀ H1, Ex H H1 → Ev ta σ H1 (.ref d)) (hd : H d = some (.ins CD dx fs)) (c : Cls K CD) (nA : NoAttr K CD f) (hl : fs.length < 1000)
    (k : ∀ b pa ea la H2, Ex H H2 → H b = none → H pa = none → H ea = none → H la = none → NetA C H2 b pa ea la [] ⟨[], []⟩ → D.nx σ (upd H2 d (.ins CD dx (putF f (.ref b) fs)))) :
    sFld K ta (tMake C (sp_Binit K C) [] E0 (tCons (tLst tNil) (tCons (tLst tNil) (tCons (tLst tNil) tNil)))) f D σ H := by
  refine t_make (ta_consL el_lst0 fun a H2 ha e2 h2 => ta_consL el_lst0 fun b H3 hb e3 h3 => ta_consL el_lst0 fun c H4 hc e4 h4 => ta_nil fun x dx nx nd ne => ?_)
  have e5 := made_ex (C := C) nx nd ne
  have e14 := (e2.trans e3).trans e4
  have e15 := e14.trans e5
  refine ⟨x, dx, a, b, c, [], [], [], rfl, upd_same, SqL.o (e5 _ _ (e4 _ _ (e3 _ _ h2))), SqL.o (e5 _ _ (e4 _ _ h3)), SqL.o (e5 _ _ h4), fun pa ea la H' keep n1 n2 n3 d1 d2 d3 hx l1 l2 l3 => ⟨rfl, ?_⟩⟩
  have e6 : Ex H4 H' := fun p o hp => keep p o (e5 _ _ hp) (ne_of_none hp nx)
  have e16 := e14.trans e6
  have hN : NetA C H' x pa ea la [] ⟨[], []⟩ := ⟨⟨dx, hx⟩, l1, l2, l3, .nil, d1, d2, d3⟩
  refine ho H' e16 H' (Ex.refl _) _ fun H7 e7 => ⟨d, CD, _, fs, rfl, (e16.trans e7) _ _ hd, ‹Cls K CD›, nA, hl, ?_⟩
  exact k x pa ea la H7 (e16.trans e7) (fresh_back e14 nx) (fresh_back e15 n1) (fresh_back e15 n2) (fresh_back e15 n3) (hN.mono e7)
theorem exec_none {o : Operation} (h : o ≠ .create) : execute none o = (none, .error (-11)) := by
  cases o <;> first | rfl | exact absurd rfl h
theorem opOf_ne {num : Nat} {ns : List Nat} (h : num ≠ 0) : opOf num ns ≠ .create := by
  unfold opOf
  split <;> first | exact absurd rfl h | (intro z; cases z)
theorem nif {c : Prop} [Decidable c] {x y : Planner × Response} {m : Network} (h1 : x.1.network = m) (h2 : y.1.network = m) : (if c then x else y).1.network = m := by split <;> assumption
theorem run_max (n : Network) (i t : Nat) : runN n (.maxPeople i t) = n := nif rfl (nif rfl (by dsimp only; cases n.maxPeople i t <;> rfl))
theorem run_crit (n : Network) : runN n .criticalPassages = n := by
  unfold runN Planner.run
  dsimp only
  cases n.earliestEvacuation <;> rfl
theorem run_same {n : Network} {num : Nat} {ns : List Nat} (h : 8 ≤ num) : runN n (opOf num ns) = n := by
  unfold opOf
  split <;> first
    | omega
    | exact run_max n _ _
    | exact run_crit n
    | rfl
    | exact nif rfl rfl
    | exact nif rfl (nif rfl rfl)
theorem s_retCall {σ : L2.St} {H : Hp} {D : Ends} {ta : TA} {sp : Sp} {vs : List V} (h : EvA ta σ H vs) (k : ∀ H1, Ex H H1 → sp (vs ++ []) H1 D.rt E0) : tRet (tCall sp [] E0 ta) D σ H := h H (Ex.refl _) _ fun H1 e1 => k H1 e1
abbrev s_Desk_answer : Stmt := inClass (top 100) 1
abbrev N_Desk_answer : List Str := ["self", "number", "numbers"]
abbrev P_Desk_answer : List Str := ["self", "number", "numbers"]
theorem sc_Desk_answer : FnScope N_Desk_answer P_Desk_answer (defScope s_Desk_answer) := ⟨rfl, rfl, rfl, by decide +kernel, rfl, by decide +kernel, by decide +kernel⟩
theorem has_Desk_answer (T : Txt K mg C CD) {f : Addr} {fd : FuncData} (F : Fun K "answer" "Desk.answer" s_Desk_answer f fd) (M : Meth K CD "answer" f) (h_Building : HasC P w K mg base 1 "Building" C P_Building_init (sp_Binit K C)) (h_edit_answer : Has P w K mg base 3 "edit_answer" P_edit_answer (sp_edit K C))
    (h_first_query_answer : Has P w K mg base 10 "first_query_answer" P_first_query_answer (sp_query K C 8 14)) (h_last_query_answer : Has P w K mg base 10 "last_query_answer" P_last_query_answer (sp_query K C 15 22)) :
    HasM P w K mg base 11 CD "answer" P_Desk_answer (sp_desk K C CD) := by
  refine ⟨f, fd, M, F.binds (fun _ _ _ _ _ _ us hl => match us, hl with | [_, _, _], _ => rfl), F.ok sc_Desk_answer (fun vs H Q E h => ?_) (fun cdv A outer s H vs Q E hr h => ⟨_, (pss_cons (ps_if (pt_cmpR op_eq (pv 1) (pe_gi rfl T.c_CREATE) (nomark _)) (pss_cons (ps_fld (pv 0) (pe_mkH h_Building (hr.mono (by decide)) rfl (pa_cons (pe_lst pa_nil) (pa_cons (pe_lst pa_nil) (pa_cons (pe_lst pa_nil) pa_nil)))) rfl) (pss_one (ps_ret (pe_lst (pa_cons pe_int pa_nil))))) pss_nil) (pss_cons (ps_if (pt_cmpR op_isN (pe_fld (pv 0) rfl) pe_non (nomark _)) (pss_one (ps_ret (pe_lst (pa_cons (pe_gi rfl T.c_NO_PLANNER) pa_nil)))) pss_nil) (pss_cons (ps_if (pt_cmpR op_le (pv 1) pe_int (nomark _)) (pss_one (ps_ret (pe_callH h_edit_answer (hr.mono (by decide)) rfl (pa_cons (pv 1) (pa_cons (pe_fld (pv 0) rfl) (pa_cons (pv 2) pa_nil)))))) pss_nil) (pss_cons (ps_if (pt_cmpR op_le (pv 1) pe_int (nomark _)) (pss_one (ps_ret (pe_callH h_first_query_answer (hr.mono (by decide)) rfl (pa_cons (pv 1) (pa_cons (pe_fld (pv 0) rfl) (pa_cons (pv 2) pa_nil)))))) pss_nil) (pss_one (ps_ret (pe_callH h_last_query_answer (hr.mono (by decide)) rfl (pa_cons (pv 1) (pa_cons (pe_fld (pv 0) rfl) (pa_cons (pv 2) pa_nil)))))))))), ?_⟩)⟩
  · obtain ⟨d, na, num, ns, own, st, rfl, _⟩ := h
    rfl
  · obtain ⟨d, na, num, ns, own, st, rfl, hD, h22, hA, hok, q⟩ := h
    refine s_if (et_test (ev_op (ev_var rfl) ev_c (rv_eq rfl))) (fun hc H1 e1 => ?_) (fun hc H1 e1 => ?_)
    · obtain rfl := (ne_num (y := 0) hc).1 rfl
      have hex : execute st (opOf 0 ns) = (some ⟨⟨[], []⟩⟩, .number 0) := by cases st <;> rfl
      rw [hex] at q
      obtain ⟨dx, v, hd⟩ : ∃ dx v, H d = some (.ins CD dx (dF v)) := by
        obtain ⟨dx, hD⟩ := hD
        cases st with
        | none => exact ⟨dx, _, hD.2⟩
        | some p =>
          obtain ⟨b, pa, ea, la, ts, _, h, _⟩ := hD
          exact ⟨dx, _, h⟩
      refine s_fldE (fun _ _ => ev_var rfl) (e1 _ _ hd) T.clD T.nB (by show 1 < 1000; decide) fun b pa ea la H3 e3 nb npa nea nla hN => ?_
      have e13 := e1.trans e3
      rw [dF_put]
      have hbd : b ≠ d := (ne_of_none (e1 _ _ hd) nb).symm
      have hN3 := hN.updD (o := .ins CD dx (dF (.ref b))) (e13 _ _ hd) hbd
      refine s_retL (σ := []) (el_lst1 ev_c) fun p H4 hp e4 h4 => q p H4 [b, pa, ea, la] ?_ (fun x u hx hxd _ => e4 _ _ (by rw [upd_ne hxd]; exact e13 _ _ hx)) ⟨dx, b, pa, ea, la, [], rfl, e4 _ _ upd_same, hbd, hN3.mono e4, WF.empty⟩ ?_ h4
      · have hpd : p ≠ d := (ne_of_none (upd_same (H := H3) (a := d)) hp).symm
        rw [upd_ne hpd] at hp
        exact fresh_back e13 hp
      · intro x hx
        refine .inr (fresh_back e1 ?_)
        simp at hx
        rcases hx with rfl | rfl | rfl | rfl <;> assumption
    have n0 := (ne_num (y := 0) hc).2 rfl
    cases st with
    | none =>
      obtain ⟨dx, ho, hd⟩ := hD
      rw [exec_none (opOf_ne n0)] at q
      refine s_if (et_test (ev_op (ev_fld (ev_var rfl) (e1 _ _ hd) T.clD T.nB dF_building) ev_c rv_isN)) (fun hc H2 e2 => ?_) (fun hc H2 e2 => ?_)
      · have e12 := e1.trans e2
        exact s_retL (el_lst1 ev_c) fun p H4 hp e4 h4 => q p H4 own (fresh_back e12 hp) (fun x u hx _ _ => (e12.trans e4) _ _ hx) ⟨dx, ho, (e12.trans e4) _ _ hd⟩ (fun x hx => .inl hx) h4
      · cases hc
    | some pl =>
      obtain ⟨dx, b, pa, ea, la, ts, ho, hd, hbd, hN, hW⟩ := hD
      have hq : DeskQ C CD H Q d own (some ⟨runN pl.network (opOf num ns)⟩) (ans pl.network (opOf num ns)) := q
      refine s_if (et_test (ev_op (ev_fld (ev_var rfl) (e1 _ _ hd) T.clD T.nB dF_building) ev_c rv_isN)) (fun hc H2 e2 => ?_) (fun hc H2 e2 => ?_)
      · cases hc
      have e12 := e1.trans e2
      refine s_if (et_test (ev_op (ev_var rfl) ev_c rv_I0)) (fun hc H3 e3 => ?_) (fun hc H3 e3 => ?_)
      · have h7 : num ≤ 7 := by
          have : (num : Int) ≤ 7 := by simpa using hc
          omega
        have e13 := e12.trans e3
        refine s_retCall (ea_cons (ev_var rfl) (ea_cons (ev_fld (ev_var rfl) (e13 _ _ hd) T.clD T.nB dF_building) (ea_cons (ev_var rfl) ea_nil))) fun H6 e6 => ?_
        have e16 := e13.trans e6
        refine ⟨num, b, pl.network, na, ns, pa, ea, la, ts, rfl, by omega, h7, hN.mono e16, hW, ex_l e16 hA, hok, fun p H' la' ts' hp k hN' hla h' => ?_⟩
        refine hq p H' [b, pa, ea, la'] (fresh_back e16 hp) (fun x u hx hxd hxo => ?_) ⟨dx, b, pa, ea, la', ts', rfl, ?_, hbd, hN', hW.run _⟩ ?_ h'
        · rw [ho] at hxo
          simp at hxo
          exact k x u (e16 _ _ hx) hxo.1 hxo.2.1 hxo.2.2.1 hxo.2.2.2
        · exact k d _ (e16 _ _ hd) hbd.symm (ne_of hd hN.ppl (by intro z; cases z)) (ne_of hd hN.exi (by intro z; cases z)) (ne_of hd hN.pas (by intro z; cases z))
        · intro x hx
          rw [ho]
          simp at hx ⊢
          rcases hx with rfl | rfl | rfl | rfl
          · exact .inl (.inl rfl)
          · exact .inl (.inr (.inl rfl))
          · exact .inl (.inr (.inr (.inl rfl)))
          · rcases hla with rfl | hla
            · exact .inl (.inr (.inr (.inr rfl)))
            · exact .inr (fresh_back e16 hla)
      · have h8 : 8 ≤ num := by
          have : ¬ (num : Int) ≤ 7 := by simpa using hc
          omega
        have e13 := e12.trans e3
        have hrun : runN pl.network (opOf num ns) = pl.network := run_same h8
        rw [hrun] at hq
        have fin : ∀ {Hk : Hp}, Ex H Hk → ∀ p H', Hk p = none → Ex Hk H' → H' p = some (.lst (ans pl.network (opOf num ns))) → Q (.ref p) H' := fun {Hk} ek p H' hp e' h' =>
          hq p H' own (fresh_back ek hp) (fun x u hx _ _ => (ek.trans e') _ _ hx) ⟨dx, b, pa, ea, la, ts, ho, (ek.trans e') _ _ hd, hbd, hN.mono (ek.trans e'), hW⟩ (fun x hx => .inl hx) h'
        have hpa : NetAt C H b pl.network := ⟨pa, ea, la, ts, hN⟩
        refine s_if (et_test (ev_op (ev_var rfl) ev_c rv_I0)) (fun hc H4 e4 => ?_) (fun hc H4 e4 => ?_)
        · have h14 : num ≤ 14 := by
            have : (num : Int) ≤ 14 := by simpa using hc
            omega
          have e14 := e13.trans e4
          exact s_retL (el_call (ea_cons (ev_var rfl) (ea_cons (ev_fld (ev_var rfl) (e14 _ _ hd) T.clD T.nB dF_building) (ea_cons (ev_var rfl) ea_nil))) (spL (a := (num, b, pl.network, na, ns)) ⟨⟨hpa.mono e14, hW, ex_l e14 hA⟩, hok, h8, h14⟩)) (fin e14)
        · have h15 : 15 ≤ num := by
            have : ¬ (num : Int) ≤ 14 := by simpa using hc
            omega
          have e14 := e13.trans e4
          exact s_retL (el_call (ea_cons (ev_var rfl) (ea_cons (ev_fld (ev_var rfl) (e14 _ _ hd) T.clD T.nB dF_building) (ea_cons (ev_var rfl) ea_nil))) (spL (a := (num, b, pl.network, na, ns)) ⟨⟨hpa.mono e14, hW, ex_l e14 hA⟩, hok, h15, h22⟩)) (fin e14)
end
end Bx
end

section
set_option maxRecDepth 100000
set_option maxHeartbeats 4000000
/-! planner.py -/
namespace Bx
open PySem PySem.Spec PyProof.Rows L2 Evl
open Kv434 (Area Passage Network Planner PlanStep Response Operation State execute)

section
variable {P : Program} {w : World} {K : PySem.W.Frag} {mg : Str → Option Value} {base : Heap} {C CD : Addr}
section
variable {σ : L2.St} {H : Hp} {ta tb te tc : TE} {xs ys : List V} {D : Ends}
theorem s_retIf {c : Bool} {t : TT} (h : EvT t σ H c) (h1 : c = true → ∀ H1, Ex H H1 → tRet ta D σ H1) (h2 : c = false → ∀ H1, Ex H H1 → tRet tb D σ H1) : tRet (tIf t ta tb) D σ H := h H (Ex.refl _) _ fun H1 e => by
  cases c with
  | true => exact h1 rfl H1 e
  | false => exact h2 rfl H1 e
/-- xs + a new list -/
theorem el_catR {l : Addr} (h1 : Ev ta σ H (.ref l)) (hl : H l = some (.lst xs)) (h2 : EvL tb σ H ys) (hz : xs.length + ys.length ≤ 100000) : EvL (tOp rCat ta tb) σ H (xs ++ ys) := fun H1 e Q q =>
  h1 H1 e _ fun H2 e2 => h2 H2 (e.trans e2) _ fun b H3 hb e3 h3 => ⟨l, b, xs, ys, rfl, rfl, ((e.trans e2).trans e3) _ _ hl, h3, sz_of hz, fun r hr => q r _ (fresh_back (e2.trans e3) hr) ((e2.trans e3).trans (Ex.new hr)) upd_same⟩
theorem s_asgMeth {i : Nat} {m : Str} {sp : Sp} {d dx : Addr} {x : V} {fs : List (Str × V)} (ho : Ev ta σ H (.ref d)) (hd : H d = some (.ins CD dx fs)) (hm : fs.lookup m = none) (h1 : Ev tb σ H x) (h2 : EvL tc σ H ys)
    (k : ∀ na H1, Ex H H1 → H na = none → H1 na = some (.lst ys) → sp [.ref d, x, .ref na] H1 (fun v H2 => D.nx (σ.set i (some v)) H2) E0) : tAsg (tMeth CD m sp [] E0 ta (tCons tb (tCons tc tNil))) (gName i) D σ H :=
  ho H (Ex.refl _) _ fun H1 e1 => ⟨d, dx, fs, rfl, e1 _ _ hd, hm, h1 H1 e1 _ fun H2 e2 => h2 H2 (e1.trans e2) _ fun na H3 hna e3 h3 => k na H3 ((e1.trans e2).trans e3) (fresh_back (e1.trans e2) hna) h3⟩
/-- xs.append(e), a long list -/
theorem s_appB {l : Addr} {v : V} (hl : H l = some (.lst xs)) (ha : Ev ta σ H (.ref l)) (h : Ev te σ H v) (hz : xs.length < sizeLine) (k : ∀ H1, Ex H H1 → D.nx σ (upd H1 l (.lst (xs ++ [v])))) :
    tDrop (tBM K "list" rAppend ta (tCons te tNil)) D σ H := ha H (Ex.refl H) _ fun H1 e1 =>
  ⟨Or.inl ⟨rfl, xs, SqL.o (e1 l _ hl)⟩, h H1 e1 _ fun H2 e2 => ⟨l, xs, v, rfl, rfl, e2 l _ (e1 l _ hl), hz, k H2 (e1.trans e2)⟩⟩
theorem s_extB {l b : Addr} (hl : H l = some (.lst xs)) (hb : H b = some (.lst ys)) (ha : Ev ta σ H (.ref l)) (h : Ev te σ H (.ref b)) (hz : xs.length + ys.length ≤ sizeLine) (k : ∀ H1, Ex H H1 → D.nx σ (upd H1 l (.lst (xs ++ ys)))) :
    tDrop (tBM K "list" rExtend ta (tCons te tNil)) D σ H := ha H (Ex.refl H) _ fun H1 e1 =>
  ⟨Or.inl ⟨rfl, xs, SqL.o (e1 l _ hl)⟩, h H1 e1 _ fun H2 e2 => ⟨l, b, xs, ys, rfl, rfl, e2 l _ (e1 l _ hl), e2 _ _ (e1 _ _ hb), hz, k H2 (e1.trans e2)⟩⟩
theorem cut_nat {cs : List Nat} {lo hi : Nat} (h : lo ≤ hi) (hh : hi ≤ cs.length) : cutV (natV cs) (some (lo : Int)) (some (hi : Int)) = natV ((cs.drop lo).take (hi - lo)) := by
  unfold cutV
  rw [HT.sIx_nat, HT.sIx_nat]
  have hl : (natV cs).length = cs.length := by simp
  have e1 : min lo cs.length = lo := Nat.min_eq_left (by omega)
  have e2 : min hi cs.length = hi := Nat.min_eq_left hh
  rw [hl, e1, e2]
  unfold natV
  rw [List.map_take, List.map_drop]
theorem ta_step {tr : TA} {Q : List V → Hp → Prop} (h : te σ H (fun x H1 => tr σ H1 fun xs H2 => Q (x :: xs) H2)) : tCons te tr σ H Q := h
theorem par3_step {i j l : Nat} {t : TA} (h : t σ H fun vs H1 => ∃ u v w, vs = [u, v, w] ∧ D.nx (((σ.set i (some u)).set j (some v)).set l (some w)) H1) : tPar3 i j l t D σ H := h
/-- desk, found, place = Desk(), [], 0 -/
theorem s_start (k : ∀ d dx f H1, Ex H H1 → H d = none → H f = none → d ≠ f → H1 d = some (.ins CD dx (dF .non)) → H1 f = some (.lst []) → D.nx (((σ.set 1 (some (.ref d))).set 2 (some (.ref f))).set 3 (some (.int 0))) H1) :
    tPar3 1 2 3 (tCons (tMake CD (sp_Dinit CD) [] E0 tNil) (tCons (tLst tNil) (tCons (tC (.int 0)) tNil))) D σ H := by
  refine par3_step (ta_step (t_make (ta_nil fun x dx nx nd ne => ?_)))
  have e5 := made_ex (C := CD) nx nd ne
  refine ⟨x, dx, rfl, upd_same, fun H' keep hx => ⟨rfl, ?_⟩⟩
  have e6 : Ex H H' := fun p o hp => keep p o (e5 _ _ hp) (ne_of_none hp nx)
  refine ta_consL el_lst0 fun f H2 hf e2 h2 => ⟨_, _, _, rfl, ?_⟩
  exact k x dx f H2 (e6.trans e2) nx (fresh_back e6 hf) (ne_of_none hx hf) (e2 _ _ hx) h2
end
theorem sizes_at {num : Nat} (h : num ≤ 22) : sizesL[num]? = some (sizeN num) := by
  have hl : num < sizesL.length := by show num < 23; omega
  unfold sizeN
  rw [List.getD_eq_getElem?_getD, List.getElem?_eq_getElem hl]
  rfl
abbrev s_list_place : Stmt := top 102
abbrev N_list_place : List Str := ["calls", "place"]
abbrev P_list_place : List Str := ["calls", "place"]
theorem sc_list_place : FnScope N_list_place P_list_place (defScope s_list_place) := ⟨rfl, rfl, rfl, by decide +kernel, rfl, by decide +kernel, by decide +kernel⟩
def sp_list_place (K : PySem.W.Frag) : Sp := pureV (α := Addr × List Nat × Nat × Nat) (fun a => [.ref a.1, .int a.2.2.1]) (fun a H => SqL K H a.1 (natV a.2.1) ∧ a.2.1[a.2.2.1]? = some a.2.2.2 ∧ a.2.2.2 ≤ 22) (fun a => .int (behindN a.2.2.1 a.2.2.2 : Nat))
theorem has_list_place (T : Txt K mg C CD) (D : DefAt K mg "list_place" s_list_place) {aS : Addr} (hSZ : mg "SIZES" = some (.ref aS)) (hSq : ∀ H, SqT K H aS (natV sizesL)) : Has P w K mg base 1 "list_place" P_list_place (sp_list_place K) := by
  refine has_V D sc_list_place (fun _ => rfl) (fun _ _ _ _ _ _ us hl => match us, hl with | [_, _], _ => rfl) fun f cdv A outer s H E hr => ⟨_, (pss_one (ps_ret (pe_op op_add (pe_op op_add (pv 1) pe_int) (pe_ix ix_tup (pe_glob (v := .ref aS) rfl hSZ rfl) (pe_ix ix_list (pv 0) (pv 1) (fun _ _ => rfl)) (fun _ _ => rfl))))), ?_⟩
  rintro ⟨c, cs, place, num⟩ H0 Q ⟨hc, hn, h22⟩ e q
  replace hc := ex_l e hc
  dsimp only at hc hn h22 q
  have h1 : (natV cs)[place]? = some (.int num) := map_at hn
  have h2 : (natV sizesL)[num]? = some (.int (sizeN num : Nat)) := map_at (sizes_at h22)
  refine s_ret (ev_is (ev_op (ev_op (ev_var rfl) ev_c rv_I0) (ev_op ev_c (ev_op (ev_var rfl) (ev_var rfl) (rv_ixL hc (atI_nat h1))) (rv_ixT (hSq H) (atI_nat h2))) rv_I0) ?_) q
  rfl
abbrev s_has_list : Stmt := top 96
abbrev N_has_list : List Str := ["number"]
abbrev P_has_list : List Str := ["number"]
theorem sc_has_list : FnScope N_has_list P_has_list (defScope s_has_list) := ⟨rfl, rfl, rfl, by decide +kernel, rfl, by decide +kernel, by decide +kernel⟩
def sp_has_list : Sp := pureV (α := Nat) (fun a => [.int a]) (fun _ _ => True) (fun a => .bl (hasL a))
theorem has_has_list (T : Txt K mg C CD) (D : DefAt K mg "has_list" s_has_list) : Has P w K mg base 1 "has_list" P_has_list sp_has_list := by
  refine has_V D sc_has_list (fun _ => rfl) (fun _ _ _ _ _ _ us hl => match us, hl with | [_], _ => rfl) fun f cdv A outer s H E hr => ⟨_, (pss_one (ps_ret (pe_cmpR op_in_seq (pv 0) (pe_tup (pa_cons (pe_gi rfl T.c_CUT_CAPACITY) (pa_cons (pe_gi rfl T.c_IS_VALID_PLAN) (pa_cons (pe_gi rfl T.c_EVACUATED_BY_PLAN) pa_nil)))) (by rfl)))), ?_⟩
  rintro num H0 Q _ e q
  refine s_ret (ev_is (ev_inU (ev_var rfl) (eu_tup (ea_cons ev_c (ea_cons ev_c (ea_cons ev_c ea_nil))) (by show 3 ≤ 100000; decide)) rfl rfl) ?_) q
  congr 1
  rw [Bool.eq_iff_iff]
  simp [inV, eqV, hasL]
  omega
abbrev s_end_of : Stmt := top 103
abbrev N_end_of : List Str := ["calls", "place", "behind"]
abbrev P_end_of : List Str := ["calls", "place"]
theorem sc_end_of : FnScope N_end_of P_end_of (defScope s_end_of) := ⟨rfl, rfl, rfl, by decide +kernel, rfl, by decide +kernel, by decide +kernel⟩
abbrev cPre (K : PySem.W.Frag) (a : Addr × List Nat × Nat × Nat) (H : Hp) : Prop := SqL K H a.1 (natV a.2.1) ∧ a.2.1[a.2.2.1]? = some a.2.2.2 ∧ a.2.2.2 ≤ 22 ∧ (hasL a.2.2.2 = true → behindN a.2.2.1 a.2.2.2 < a.2.1.length)
def sp_end_of (K : PySem.W.Frag) : Sp := pureV (α := Addr × List Nat × Nat × Nat) (fun a => [.ref a.1, .int a.2.2.1]) (cPre K) (fun a => .int (endN a.2.1 a.2.2.1 a.2.2.2 : Nat))
theorem has_end_of (T : Txt K mg C CD) (D : DefAt K mg "end_of" s_end_of) (h_list_place : Has P w K mg base 1 "list_place" P_list_place (sp_list_place K)) (h_has_list : Has P w K mg base 1 "has_list" P_has_list sp_has_list) : Has P w K mg base 2 "end_of" P_end_of (sp_end_of K) := by
  refine has_V D sc_end_of (fun _ => rfl) (fun _ _ _ _ _ _ us hl => match us, hl with | [_, _], _ => rfl) fun f cdv A outer s H E hr => ⟨_, (pss_cons (ps_set (i := 2) sc_end_of.nd rfl (Or.inl rfl) (pe_callH h_list_place (hr.mono (by decide)) rfl (pa_cons (pv 0) (pa_cons (pv 1) pa_nil)))) (pss_one (ps_ret (pe_ifExp (pt_val (pe_callH h_has_list (hr.mono (by decide)) rfl (pa_cons (pe_ix ix_list (pv 0) (pv 1) (fun _ _ => rfl)) pa_nil))) (pe_op op_add (pe_op op_add (pv 2) pe_int) (pe_ix ix_list (pv 0) (pv 2) (fun _ _ => rfl))) (pv 2))))), ?_⟩
  rintro ⟨c, cs, place, num⟩ H0 Q ⟨hc, hn, h22, hb⟩ e q
  replace hc := ex_l e hc
  dsimp only at hc hn h22 hb q
  have h1 : (natV cs)[place]? = some (.int num) := map_at hn
  refine s_asg (ev_call (ea_cons (ev_var rfl) (ea_cons (ev_var rfl) ea_nil)) (spV (a := (c, cs, place, num)) ⟨hc, hn, h22⟩)) fun H1 e1 => ?_
  have hc1 := ex_l e1 hc
  refine s_ret (ev_if (et_B (ev_call (ea_cons (ev_op (ev_var rfl) (ev_var rfl) (rv_ixL hc1 (atI_nat h1))) ea_nil) (spV (a := num) trivial))) (fun hL => ?_) (fun hL => ev_is (ev_var rfl) ?_)) fun H2 e2 => q H2 (e1.trans e2)
  · refine ev_is (ev_op (ev_op (ev_var rfl) ev_c rv_I0) (ev_op (ev_var rfl) (ev_var rfl) (rv_ixL hc1 (atI_nat (natV_at (hb hL))))) rv_I0) ?_
    unfold endN
    rw [if_pos hL]
    rfl
  · unfold endN
    rw [if_neg (by rw [hL]; exact Bool.false_ne_true)]
abbrev s_numbers_of : Stmt := top 104
abbrev N_numbers_of : List Str := ["calls", "place", "behind", "numbers"]
abbrev P_numbers_of : List Str := ["calls", "place"]
theorem sc_numbers_of : FnScope N_numbers_of P_numbers_of (defScope s_numbers_of) := ⟨rfl, rfl, rfl, by decide +kernel, rfl, by decide +kernel, by decide +kernel⟩
def sp_numbers_of (K : PySem.W.Frag) : Sp := pureL (α := Addr × List Nat × Nat × Nat) (fun a => [.ref a.1, .int a.2.2.1]) (fun a H => cPre K a H ∧ behindN a.2.2.1 a.2.2.2 ≤ a.2.1.length ∧ endN a.2.1 a.2.2.1 a.2.2.2 ≤ a.2.1.length ∧ a.2.1.length ≤ 13100) (fun a => natV (numsN a.2.1 a.2.2.1 a.2.2.2))
theorem has_numbers_of (T : Txt K mg C CD) (D : DefAt K mg "numbers_of" s_numbers_of) (h_list_place : Has P w K mg base 1 "list_place" P_list_place (sp_list_place K)) (h_has_list : Has P w K mg base 1 "has_list" P_has_list sp_has_list)
    (h_end_of : Has P w K mg base 2 "end_of" P_end_of (sp_end_of K)) : Has P w K mg base 3 "numbers_of" P_numbers_of (sp_numbers_of K) := by
  refine has_L D sc_numbers_of (fun _ => rfl) (fun _ _ _ _ _ _ us hl => match us, hl with | [_, _], _ => rfl) fun f cdv A outer s H E hr => ⟨_, (pss_cons (ps_set (i := 2) sc_numbers_of.nd rfl (Or.inl rfl) (pe_callH h_list_place (hr.mono (by decide)) rfl (pa_cons (pv 0) (pa_cons (pv 1) pa_nil)))) (pss_cons (ps_set (i := 3) sc_numbers_of.nd rfl (Or.inl rfl) (pe_slice sl_list (pv 0) (po_some (pe_op op_add (pv 1) pe_int)) (po_some (pv 2)))) (pss_one (ps_ret (pe_ifExp (pt_val (pe_callH h_has_list (hr.mono (by decide)) rfl (pa_cons (pe_ix ix_list (pv 0) (pv 1) (fun _ _ => rfl)) pa_nil))) (pe_op op_cat (pv 3) (pe_slice sl_list (pv 0) (po_some (pe_op op_add (pv 2) pe_int)) (po_some (pe_callH h_end_of (hr.mono (by decide)) rfl (pa_cons (pv 0) (pa_cons (pv 1) pa_nil)))))) (pv 3)))))), ?_⟩
  rintro ⟨c, cs, place, num⟩ H0 Q ⟨⟨hc, hn, h22, hb⟩, hbl, hel, hlen⟩ e q
  replace hc := ex_l e hc
  dsimp only at hc hn h22 hb hbl hel hlen q
  have h1 : (natV cs)[place]? = some (.int num) := map_at hn
  refine s_asg (ev_call (ea_cons (ev_var rfl) (ea_cons (ev_var rfl) ea_nil)) (spV (a := (c, cs, place, num)) ⟨hc, hn, h22⟩)) fun H1 e1 => ?_
  have hsl : cutV (natV cs) (some ((place + 1 : Nat) : Int)) (some ((behindN place num : Nat) : Int)) = natV ((cs.drop (place + 1)).take (sizeN num)) := by
    rw [cut_nat (by unfold behindN; omega) hbl]
    congr 2
    unfold behindN
    omega
  refine s_asgL (el_is (el_sl (ev_var rfl) (eo_some (ev_is (ev_op (ev_var rfl) ev_c rv_I0) (show V.int ((place : Int) + 1) = V.int ((place + 1 : Nat) : Int) from rfl))) (eo_some (ev_var rfl)) (ex_l e1 hc)) hsl) fun l H2 hl e2 h2 => ?_
  have e12 := e1.trans e2
  have hc2 := ex_l e12 hc
  refine s_retIf (et_B (ev_call (ea_cons (ev_op (ev_var rfl) (ev_var rfl) (rv_ixL hc2 (atI_nat h1))) ea_nil) (spV (a := num) trivial))) (fun hL H3 e3 => ?_) (fun hL H3 e3 => ?_)
  · have hbb := hb hL
    have hE : endN cs place num = behindN place num + 1 + cs.getD (behindN place num) 0 := by unfold endN; rw [if_pos hL]
    have hnn : numsN cs place num = (cs.drop (place + 1)).take (sizeN num) ++ (cs.drop (behindN place num + 1)).take (cs.getD (behindN place num) 0) := by unfold numsN; rw [if_pos hL]
    have hc3 := ex_l e3 hc2
    have hs2 : cutV (natV cs) (some ((behindN place num + 1 : Nat) : Int)) (some ((endN cs place num : Nat) : Int)) = natV ((cs.drop (behindN place num + 1)).take (cs.getD (behindN place num) 0)) := by
      rw [cut_nat (by omega) hel]
      congr 2
      omega
    refine s_retL (el_is (el_catR (ev_var rfl) (e3 _ _ h2) (el_is (el_sl (ev_var rfl) (eo_some (ev_is (ev_op (ev_var rfl) ev_c rv_I0) (show V.int (((behindN place num : Nat) : Int) + 1) = V.int ((behindN place num + 1 : Nat) : Int) from rfl))) (eo_some (ev_call (ea_cons (ev_var rfl) (ea_cons (ev_var rfl) ea_nil)) (spV (a := (c, cs, place, num)) ⟨hc3, hn, h22, hb⟩))) hc3) hs2) ?_) ?_) fun p H4 hp e4 h4 => q p H4 (fresh_back (e12.trans e3) hp) ((e12.trans e3).trans e4) h4
    · rw [List.length_map, List.length_map, List.length_take, List.length_take, List.length_drop, List.length_drop]
      omega
    · rw [hnn]
      unfold natV
      rw [List.map_append]
  · have hnn : numsN cs place num = (cs.drop (place + 1)).take (sizeN num) := by unfold numsN; rw [if_neg (by rw [hL]; exact Bool.false_ne_true)]
    rw [hnn] at q
    exact s_ret (ev_var rfl) fun H4 e4 => q l H4 (fresh_back e1 hl) ((e12.trans e3).trans e4) (e4 _ _ (e3 _ _ h2))

/-! ### answers -/
def dueV (s : State) (raw : List (List (List Int))) : List V := (dueL s raw).map V.int
theorem dueV_cons {s : State} {c : List (List Int)} {raw : List (List (List Int))} {o : Operation} (h : Kv434Neutral.operationOf c = some o) : dueV s (c :: raw) = .int ((rowR (execute s o).2).length : Nat) :: (rowR (execute s o).2 ++ dueV (execute s o).1 raw) := by
  unfold dueV
  rw [due_cons, step_op h, List.map_cons, List.map_append]
  unfold rowR
  rw [List.length_map]
theorem Parsed.at {cs : List Nat} {place : Nat} {raw : List (List (List Int))} (h : Parsed cs place raw) : (raw = [] ∧ place = cs.length) ∨ ∃ num c raw', raw = c :: raw' ∧ cs[place]? = some num ∧ num ≤ 22 ∧ behindN place num ≤ cs.length ∧ (hasL num = true → behindN place num < cs.length) ∧ endN cs place num ≤ cs.length ∧
    Kv434Neutral.operationOf c = some (opOf num (numsN cs place num)) ∧ okN num (numsN cs place num) ∧ Parsed cs (endN cs place num) raw' := by
  cases h with
  | done h => exact .inl ⟨rfl, h⟩
  | call h1 h2 h3 h4 h5 h6 h7 h8 => exact .inr ⟨_, _, _, rfl, h1, h2, h3, h4, h5, h6, h7, h8⟩
/-- the request's list stands, apart from what the calls change -/
def CalOk (K : PySem.W.Frag) (H : Hp) (c d f : Addr) (own : List Addr) (xs : List V) : Prop := (Rd H c (.lst xs) ∧ c ≠ d ∧ c ≠ f ∧ c ∉ own) ∨ ∀ H', SqL K H' c xs
theorem rd_obj {H : Hp} {a : Addr} {u : HO} (h : Rd H a u) : ∃ o, H a = some o := by
  rcases h with h | ⟨o, h⟩
  · exact ⟨_, h⟩
  · exact ⟨_, h⟩
theorem rd_keep {H H' : Hp} {a : Addr} {u : HO} (h : Rd H a u) (k : ∀ o, H a = some o → H' a = some o) : Rd H' a u := by
  rcases h with h | ⟨o, h⟩
  · exact .inl (k _ h)
  · exact .inr ⟨o, k _ h⟩
section
variable {H H' : Hp} {c d f : Addr} {own : List Addr} {xs F : List V} {st : State}
theorem CalOk.sq (h : CalOk K H c d f own xs) : SqL K H c xs := by
  rcases h with h | h
  · exact .inl h.1
  · exact h H
theorem CalOk.mono (h : CalOk K H c d f own xs) (e : Ex H H') : CalOk K H' c d f own xs := by
  rcases h with h | h
  · exact .inl ⟨rd_keep h.1 fun o q => e _ _ q, h.2⟩
  · exact .inr h
theorem CalOk.updF (h : CalOk K H c d f own xs) (o : HO) : CalOk K (upd H f o) c d f own xs := by
  rcases h with h | h
  · exact .inl ⟨rd_keep h.1 fun o q => by rw [upd_ne h.2.2.1]; exact q, h.2⟩
  · exact .inr h
theorem DeskAt.mono (h : DeskAt C CD H d own st) (e : Ex H H') : DeskAt C CD H' d own st := by
  obtain ⟨dx, h⟩ := h
  cases st with
  | none => exact ⟨dx, h.1, e _ _ h.2⟩
  | some p =>
    obtain ⟨b, pa, ea, la, ts, h0, h1, h2, h3, h4⟩ := h
    exact ⟨dx, b, pa, ea, la, ts, h0, e _ _ h1, h2, h3.mono e, h4⟩
theorem DeskAt.updF (h : DeskAt C CD H d own st) (hF : H f = some (.lst F)) (hfd : f ≠ d) (hfo : f ∉ own) (o : HO) : DeskAt C CD (upd H f o) d own st := by
  obtain ⟨dx, h⟩ := h
  cases st with
  | none => exact ⟨dx, h.1, by rw [upd_ne hfd.symm]; exact h.2⟩
  | some p =>
    obtain ⟨b, pa, ea, la, ts, h0, h1, h2, h3, h4⟩ := h
    rw [h0] at hfo
    simp at hfo
    obtain ⟨g1, g2, g3, g4⟩ := hfo
    refine ⟨dx, b, pa, ea, la, ts, h0, by rw [upd_ne hfd.symm]; exact h1, h2, ⟨?_, ?_, ?_, ?_, Tups.upd hF h3.tup, h3.pe, h3.pl, h3.el⟩, h4⟩
    · obtain ⟨dy, q⟩ := h3.ins
      exact ⟨dy, by rw [upd_ne (fun z => g1 z.symm)]; exact q⟩
    · rw [upd_ne (fun z => g2 z.symm)]
      exact h3.ppl
    · rw [upd_ne (fun z => g3 z.symm)]
      exact h3.exi
    · rw [upd_ne (fun z => g4 z.symm)]
      exact h3.pas
theorem DeskAt.obj (h : DeskAt C CD H d own st) : ∃ dx fs, H d = some (.ins CD dx fs) ∧ fs.lookup ("answer" : Str) = none := by
  obtain ⟨dx, h⟩ := h
  cases st with
  | none => exact ⟨dx, _, h.2, dF_answer⟩
  | some p =>
    obtain ⟨b, pa, ea, la, ts, _, h, _⟩ := h
    exact ⟨dx, _, h, dF_answer⟩
end
def sp_answers (K : PySem.W.Frag) : Sp := fun vs H Q _ => ∃ (c : Addr) (cs : List Nat) (raw : List (List (List Int))), vs = [.ref c] ∧ SqL K H c (natV cs) ∧ cs.length ≤ 13100 ∧ Parsed cs 0 raw ∧ (dueV none raw).length ≤ 10000000 ∧ ∀ p H', H' p = some (.lst (dueV none raw)) → Q (.ref p) H'
abbrev s_answers : Stmt := top 105
abbrev N_answers : List Str := ["calls", "desk", "found", "place", "told"]
abbrev P_answers : List Str := ["calls"]
theorem sc_answers : FnScope N_answers P_answers (defScope s_answers) := ⟨rfl, rfl, rfl, by decide +kernel, rfl, by decide +kernel, by decide +kernel⟩
theorem ok_answers (T : Txt K mg C CD) {fA : Addr} {fdA : FuncData} (FA : Fun K "answers" "answers" s_answers fA fdA) (h_Desk : HasC P w K mg base 1 "Desk" CD P_Desk_init (sp_Dinit CD)) (h_Desk_answer : HasM P w K mg base 11 CD "answer" P_Desk_answer (sp_desk K C CD))
    (h_end_of : Has P w K mg base 2 "end_of" P_end_of (sp_end_of K)) (h_numbers_of : Has P w K mg base 3 "numbers_of" P_numbers_of (sp_numbers_of K)) : FnOk P w K mg base CX0 12 fA fdA P_answers (sp_answers K) := by
  refine FA.ok sc_answers (fun vs H Q E h => ?_) (fun cdv A outer s H vs Q E hr h => ⟨_, (pss_cons (ps_par3 (i := 1) (j := 2) (l := 3) rfl sc_answers.nd rfl rfl rfl (by decide) (by decide) (by decide) rfl rfl rfl (pa_cons (pe_mkH0 h_Desk (hr.mono (by decide)) rfl) (pa_cons (pe_lst pa_nil) (pa_cons pe_int pa_nil))) (by rfl)) (pss_cons (ps_while PassesOwn.never (pt_cmpR op_lt (pv 3) (pe_callB call_len_seq (by rfl) T.b_len PySem.boot_len (pa_cons (pv 0) pa_nil)) (nomark _)) (pss_cons (ps_set (i := 4) sc_answers.nd rfl (Or.inl rfl) (pe_methH h_Desk_answer T.clD (hr.mono (by decide)) (pv 1) (pa_cons (pe_ix ix_list (pv 0) (pv 3) (fun _ _ => rfl)) (pa_cons (pe_callH h_numbers_of (hr.mono (by decide)) rfl (pa_cons (pv 0) (pa_cons (pv 3) pa_nil))) pa_nil)))) (pss_cons (ps_expr (pe_bm PySem.F.plainAttrs_list PySem.F.slot_list_append PySem.F.type_list_append mt_append (pv 2) (pa_cons (pe_callB call_len_seq (by rfl) T.b_len PySem.boot_len (pa_cons (pv 4) pa_nil)) pa_nil))) (pss_cons (ps_expr (pe_bm PySem.F.plainAttrs_list PySem.F.slot_list_extend PySem.F.type_list_extend mt_extend (pv 2) (pa_cons (pv 4) pa_nil))) (pss_one (ps_set (i := 3) sc_answers.nd rfl (Or.inl rfl) (pe_callH h_end_of (hr.mono (by decide)) rfl (pa_cons (pv 0) (pa_cons (pv 3) pa_nil))))))))) (pss_one (ps_ret (pv 2))))), ?_⟩)
  · obtain ⟨c, cs, raw, rfl, _⟩ := h
    rfl
  · obtain ⟨c, cs, raw0, rfl, hS, hlen, hP, hdue, q⟩ := h
    refine s_start fun d dx f H1 e1 hd hf hdf h1d h1f => ?_
    refine s_while (fun m σ' H' => ∃ place raw st own F v, σ' = [some (.ref c), some (.ref d), some (.ref f), some (.int (place : Nat)), v] ∧ m = raw.length ∧ Parsed cs place raw ∧ CalOk K H' c d f own (natV cs) ∧ DeskAt C CD H' d own st ∧ H' f = some (.lst F) ∧ f ≠ d ∧ f ∉ own ∧ F ++ dueV st raw = dueV none raw0) raw0.length ?_ ?_
    · refine ⟨0, raw0, none, [], [], _, rfl, rfl, hP, ?_, ⟨dx, rfl, h1d⟩, h1f, hdf.symm, by simp, rfl⟩
      rcases hS with hS | hS
      · obtain ⟨o, ho⟩ := rd_obj hS
        exact .inl ⟨rd_keep hS fun o h => e1 _ _ h, ne_of_none ho hd, ne_of_none ho hf, by simp⟩
      · exact .inr fun H' => .inr hS
    · rintro m σ' H' ⟨place, raw, st, own, F, v, rfl, hm, hP, hC, hD, hF, hfd, hfo, hsum⟩
      have hlc : (natV cs).length = cs.length := by simp
      refine ⟨decide (place < cs.length), et_is (et_test (ev_op (ev_var rfl) (ev_len (ev_var rfl) hC.sq) rv_I0)) (by rw [hlc, decide_eq_decide]; omega), fun hb H2 e2 => ?_, fun hb H2 e2 => ?_⟩
      · have hlt : place < cs.length := of_decide_eq_true hb
        obtain ⟨rfl, he⟩ | ⟨num, cl, raw', rfl, hn, h22, hbl, hbb, hel, hop, hok, hP'⟩ := hP.at
        · omega
        have hrow := dueV_cons (s := st) (raw := raw') hop
        have hC2 := hC.mono e2
        have hD2 := hD.mono e2
        have h1 : (natV cs)[place]? = some (.int num) := map_at hn
        obtain ⟨dxx, fs, hdd, hfs⟩ := hD2.obj
        refine ⟨fun σ2 H3 => ∃ place raw st own F v, σ2 = [some (.ref c), some (.ref d), some (.ref f), some (.int (place : Nat)), v] ∧ raw.length < m ∧ Parsed cs place raw ∧ CalOk K H3 c d f own (natV cs) ∧ DeskAt C CD H3 d own st ∧ H3 f = some (.lst F) ∧ f ≠ d ∧ f ∉ own ∧ F ++ dueV st raw = dueV none raw0,
          fun σ2 H3 ⟨place, raw, st, own, F, v, h1, h2, h3⟩ => ⟨raw.length, h2, place, raw, st, own, F, v, h1, rfl, h3⟩, ?_⟩
        refine s_asgMeth (ev_var rfl) hdd hfs (ev_op (ev_var rfl) (ev_var rfl) (rv_ixL hC2.sq (atI_nat h1))) (el_call (ea_cons (ev_var rfl) (ea_cons (ev_var rfl) ea_nil)) (spL (a := (c, cs, place, num)) ⟨⟨hC2.sq, hn, h22, hbb⟩, hbl, hel, hlen⟩)) fun na H3 e3 hna h3 => ?_
        have hD3 := hD2.mono e3
        have hF3 : H3 f = some (.lst F) := e3 _ _ (e2 _ _ hF)
        have hC3 := hC2.mono e3
        refine ⟨d, na, num, numsN cs place num, own, st, rfl, hD3, h22, SqL.o h3, hok, fun p H4 own' hp keep hD4 hown hrow4 => ?_⟩
        -- behind the call
        have hF4 : H4 f = some (.lst F) := keep _ _ hF3 hfd hfo
        have hfo' : f ∉ own' := fun hx => by
          rcases hown f hx with z | z
          · exact hfo z
          · rw [hF3] at z; cases z
        have hpf : p ≠ f := (ne_of_none hF3 hp).symm
        have hC4 : CalOk K H4 c d f own' (natV cs) := by
          rcases hC3 with hC | hC
          · refine .inl ⟨rd_keep hC.1 fun o h => keep _ _ h hC.2.1 hC.2.2.2, hC.2.1, hC.2.2.1, fun hx => ?_⟩
            rcases hown c hx with z | z
            · exact hC.2.2.2 z
            · obtain ⟨o, ho⟩ := rd_obj hC.1
              rw [ho] at z; cases z
          · exact .inr hC
        rw [hrow] at hsum
        generalize hrw : rowR (execute st (opOf num (numsN cs place num))).2 = row at hsum hrow4
        generalize (execute st (opOf num (numsN cs place num))).1 = st' at hsum hD4
        have htot : (F ++ (V.int (row.length : Nat) :: (row ++ dueV st' raw'))).length ≤ 10000000 := by rw [hsum]; exact hdue
        rw [List.length_append, List.length_cons, List.length_append] at htot
        have hbig : (10000000 : Nat) < sizeLine := by decide
        refine s_appB hF4 (ev_var rfl) (ev_len (ev_var rfl) (SqL.o hrow4)) (by omega) fun H5 e5 => ?_
        have hD5 := (hD4.mono e5).updF (e5 _ _ hF4) hfd hfo' (.lst (F ++ [.int (row.length : Nat)]))
        have hC5 := (hC4.mono e5).updF (.lst (F ++ [.int (row.length : Nat)]))
        have hp5 : (upd H5 f (.lst (F ++ [.int (row.length : Nat)]))) p = some (.lst row) := by rw [upd_ne hpf]; exact e5 _ _ hrow4
        refine s_extB upd_same hp5 (ev_var rfl) (ev_var rfl) (by rw [List.length_append]; show F.length + 1 + row.length ≤ sizeLine; omega) fun H6 e6 => ?_
        have hD6 := (hD5.mono e6).updF (e6 _ _ upd_same) hfd hfo' (.lst (F ++ [.int (row.length : Nat)] ++ row))
        have hC6 := (hC5.mono e6).updF (.lst (F ++ [.int (row.length : Nat)] ++ row))
        refine s_asg (ev_call (ea_cons (ev_var rfl) (ea_cons (ev_var rfl) ea_nil)) (spV (a := (c, cs, place, num)) ⟨hC6.sq, hn, h22, hbb⟩)) fun H7 e7 => ?_
        refine ⟨endN cs place num, raw', st', own', F ++ [.int (row.length : Nat)] ++ row, _, rfl, ?_, hP', hC6.mono e7, hD6.mono e7, e7 _ _ upd_same, hfd, hfo', ?_⟩
        · rw [hm]
          exact Nat.lt_succ_self _
        · rw [← hsum]
          simp
      · have hlt : ¬ place < cs.length := of_decide_eq_false hb
        obtain ⟨rfl, he⟩ | ⟨num, cl, raw', rfl, hn, _⟩ := hP.at
        · have hF' : F = dueV none raw0 := by
            rw [← hsum]
            show F = F ++ []
            rw [List.append_nil]
          refine s_ret (ev_var rfl) fun H3 e3 => q f H3 ?_
          rw [← hF']
          exact e3 _ _ (e2 _ _ hF)
        · exact absurd (List.getElem?_eq_some_iff.mp hn).1 hlt
end
end Bx
end

section
set_option maxRecDepth 100000
set_option maxHeartbeats 4000000
/-! What the top leaves, in the words of the walk. -/
namespace Bx
open PySem PySem.Spec PyProof.Rows L2 Evl
section
variable {K : PySem.W.Frag} {h : Heap} {mg : Str → Option Value} {R : Prop}
theorem with_def {x : Str} {st : Stmt} {f : Addr} {oc kV dc pm cd ct : Value} {od an : Option Addr} {sl : Array (Option Value)} (X : K.In h) (G : h.Ns mainGlobals mg) (a : PySem.W.nsIn K mainGlobals x = some (some (.ref f)))
    (l : K.lookup f = some ⟨oc, od, .func (PySem.W.fnOf x x (defArgs st) (defBody st) (defScope st) .none kV dc pm an cd ct), sl⟩) (c : PySem.W.codeIn K cd x = true) (k : PySem.W.keepIn K (.ref f) = true) (r : DefAt K mg x st → R) : R :=
  r ⟨f, _, PySem.W.mg_of X G a, fun_mk l c k⟩
theorem gi_of {x : Str} {i : Int} {t : Tok} (X : K.In h) (G : h.Ns mainGlobals mg) (a : PySem.W.nsIn K mainGlobals x = some (some (.int i t))) : GI mg x i := ⟨t, PySem.W.mg_of X G a⟩
theorem tup_of {a : Addr} {od : Option Addr} {its : Array Value} {n : Nat} {sl : Array (Option Value)} {xs : List V} (l : K.lookup a = some ⟨.type "tuple", od, .seq its n, sl⟩) (hz : its.size ≤ sizeLine) (hv : Vals xs its.toList) : ∀ H, SqT K H a xs := fun _ => .inr ⟨_, its, n, l, rfl, rfl, hz, hv⟩
end
end Bx
end

section
set_option maxRecDepth 100000
set_option maxHeartbeats 4000000
/-! All promises together (printed by genend.py). -/
namespace Bx
open PySem PySem.Spec PyProof.Rows L2 Evl
theorem finish {P : Program} {w : World} {K : PySem.W.Frag} {mg : Str → Option Value} {base : Heap} {C CD aS fB fD fM fA : Addr} {fdB fdD fdM fdA : FuncData} (T : Txt K mg C CD) (hSZ : mg "SIZES" = some (.ref aS)) (hSq : ∀ H, SqT K H aS (natV sizesL))
    (MB : Mk K C fB) (FB : Fun K "__init__" "Building.__init__" s_Building_init fB fdB) (MD : Mk K CD fD) (FD : Fun K "__init__" "Desk.__init__" s_Desk_init fD fdD) (MM : Meth K CD "answer" fM) (FM : Fun K "answer" "Desk.answer" s_Desk_answer fM fdM)
    (D_area_count : DefAt K mg "area_count" s_area_count)
    (D_passage_count : DefAt K mg "passage_count" s_passage_count)
    (D_total_people : DefAt K mg "total_people" s_total_people)
    (D_answer_state : DefAt K mg "answer_state" s_answer_state)
    (D_is_form : DefAt K mg "is_form" s_is_form)
    (D_source_of : DefAt K mg "source_of" s_source_of)
    (D_gone : DefAt K mg "gone" s_gone)
    (D_leaving : DefAt K mg "leaving" s_leaving)
    (D_target_of : DefAt K mg "target_of" s_target_of)
    (D_travel_time_of : DefAt K mg "travel_time_of" s_travel_time_of)
    (D_arrived : DefAt K mg "arrived" s_arrived)
    (D_present : DefAt K mg "present" s_present)
    (D_keeps_people : DefAt K mg "keeps_people" s_keeps_people)
    (D_has_passage : DefAt K mg "has_passage" s_has_passage)
    (D_has_known_steps : DefAt K mg "has_known_steps" s_has_known_steps)
    (D_entering : DefAt K mg "entering" s_entering)
    (D_capacity_of : DefAt K mg "capacity_of" s_capacity_of)
    (D_keeps_capacities : DefAt K mg "keeps_capacities" s_keeps_capacities)
    (D_is_valid : DefAt K mg "is_valid" s_is_valid)
    (D_steps_of : DefAt K mg "steps_of" s_steps_of)
    (D_answer_is_valid : DefAt K mg "answer_is_valid" s_answer_is_valid)
    (D_evacuated : DefAt K mg "evacuated" s_evacuated)
    (D_answer_evacuated : DefAt K mg "answer_evacuated" s_answer_evacuated)
    (D_minute_answer : DefAt K mg "minute_answer" s_minute_answer)
    (D_is_capacity : DefAt K mg "is_capacity" s_is_capacity)
    (D_people_before : DefAt K mg "people_before" s_people_before)
    (D_crossings : DefAt K mg "crossings" s_crossings)
    (D_capacity_across : DefAt K mg "capacity_across" s_capacity_across)
    (D_cut_capacity : DefAt K mg "cut_capacity" s_cut_capacity)
    (D_cut_at : DefAt K mg "cut_at" s_cut_at)
    (D_cut_count : DefAt K mg "cut_count" s_cut_count)
    (D_smallest_cut : DefAt K mg "smallest_cut" s_smallest_cut)
    (D_has_exits : DefAt K mg "has_exits" s_has_exits)
    (D_min_cut : DefAt K mg "min_cut" s_min_cut)
    (D_max_evacuated : DefAt K mg "max_evacuated" s_max_evacuated)
    (D_earliest : DefAt K mg "earliest" s_earliest)
    (D_with_capacity : DefAt K mg "with_capacity" s_with_capacity)
    (D_building_with_capacity : DefAt K mg "building_with_capacity" s_building_with_capacity)
    (D_answer_if_capacity : DefAt K mg "answer_if_capacity" s_answer_if_capacity)
    (D_has_area : DefAt K mg "has_area" s_has_area)
    (D_building_with_people : DefAt K mg "building_with_people" s_building_with_people)
    (D_answer_if_people : DefAt K mg "answer_if_people" s_answer_if_people)
    (D_spare_people : DefAt K mg "spare_people" s_spare_people)
    (D_max_people : DefAt K mg "max_people" s_max_people)
    (D_answer_max_people : DefAt K mg "answer_max_people" s_answer_max_people)
    (D_counted : DefAt K mg "counted" s_counted)
    (D_limits_all : DefAt K mg "limits_all" s_limits_all)
    (D_is_limiting : DefAt K mg "is_limiting" s_is_limiting)
    (D_critical_passages : DefAt K mg "critical_passages" s_critical_passages)
    (D_answer_critical : DefAt K mg "answer_critical" s_answer_critical)
    (D_outgoing : DefAt K mg "outgoing" s_outgoing)
    (D_answer_outgoing : DefAt K mg "answer_outgoing" s_answer_outgoing)
    (D_last_query_answer : DefAt K mg "last_query_answer" s_last_query_answer)
    (D_reversed_passage : DefAt K mg "reversed_passage" s_reversed_passage)
    (D_reverse_passages : DefAt K mg "reverse_passages" s_reverse_passages)
    (D_add_area : DefAt K mg "add_area" s_add_area)
    (D_set_people : DefAt K mg "set_people" s_set_people)
    (D_set_exit : DefAt K mg "set_exit" s_set_exit)
    (D_is_travel_time : DefAt K mg "is_travel_time" s_is_travel_time)
    (D_add_passage : DefAt K mg "add_passage" s_add_passage)
    (D_remove_passage : DefAt K mg "remove_passage" s_remove_passage)
    (D_set_capacity : DefAt K mg "set_capacity" s_set_capacity)
    (D_edit_answer : DefAt K mg "edit_answer" s_edit_answer)
    (D_is_cut : DefAt K mg "is_cut" s_is_cut)
    (D_answer_cut_capacity : DefAt K mg "answer_cut_capacity" s_answer_cut_capacity)
    (D_list_areas : DefAt K mg "list_areas" s_list_areas)
    (D_list_passages : DefAt K mg "list_passages" s_list_passages)
    (D_answer_max_evacuated : DefAt K mg "answer_max_evacuated" s_answer_max_evacuated)
    (D_answer_min_remaining : DefAt K mg "answer_min_remaining" s_answer_min_remaining)
    (D_answer_earliest : DefAt K mg "answer_earliest" s_answer_earliest)
    (D_answer_min_cut : DefAt K mg "answer_min_cut" s_answer_min_cut)
    (D_first_query_answer : DefAt K mg "first_query_answer" s_first_query_answer)
    (D_list_place : DefAt K mg "list_place" s_list_place)
    (D_has_list : DefAt K mg "has_list" s_has_list)
    (D_end_of : DefAt K mg "end_of" s_end_of)
    (D_numbers_of : DefAt K mg "numbers_of" s_numbers_of)
    (FA : Fun K "answers" "answers" s_answers fA fdA) : FnOk P w K mg base CX0 12 fA fdA ["calls"] (sp_answers K) := by
  have h_Desk := has_Dinit (P := P) (w := w) (base := base) T FD MD
  have h_area_count := has_area_count (P := P) (w := w) (base := base) T D_area_count 
  have h_passage_count := has_passage_count (P := P) (w := w) (base := base) T D_passage_count 
  have h_total_people := has_total_people (P := P) (w := w) (base := base) T D_total_people 
  have h_answer_state := has_answer_state (P := P) (w := w) (base := base) T D_answer_state h_area_count h_passage_count h_total_people
  have h_is_form := has_is_form (P := P) (w := w) (base := base) T D_is_form 
  have h_source_of := has_source_of (P := P) (w := w) (base := base) D_source_of 
  have h_gone := has_gone (P := P) (w := w) (base := base) T D_gone h_source_of
  have h_leaving := has_leaving (P := P) (w := w) (base := base) T D_leaving h_gone
  have h_target_of := has_target_of (P := P) (w := w) (base := base) D_target_of 
  have h_travel_time_of := has_travel_time_of (P := P) (w := w) (base := base) D_travel_time_of 
  have h_arrived := has_arrived (P := P) (w := w) (base := base) T D_arrived h_target_of h_travel_time_of
  have h_present := has_present (P := P) (w := w) (base := base) T D_present h_gone h_arrived
  have h_keeps_people := has_keeps_people (P := P) (w := w) (base := base) T D_keeps_people h_area_count h_leaving h_present
  have h_has_passage := has_has_passage (P := P) (w := w) (base := base) T D_has_passage 
  have h_has_known_steps := has_has_known_steps (P := P) (w := w) (base := base) T D_has_known_steps h_has_passage
  have h_entering := has_entering (P := P) (w := w) (base := base) T D_entering 
  have h_capacity_of := has_capacity_of (P := P) (w := w) (base := base) D_capacity_of 
  have h_keeps_capacities := has_keeps_capacities (P := P) (w := w) (base := base) T D_keeps_capacities h_passage_count h_entering h_capacity_of
  have h_is_valid := has_is_valid (P := P) (w := w) (base := base) T D_is_valid h_keeps_people h_has_known_steps h_keeps_capacities
  have h_steps_of := has_steps_of (P := P) (w := w) (base := base) T D_steps_of 
  have h_answer_is_valid := has_answer_is_valid (P := P) (w := w) (base := base) T D_answer_is_valid h_is_form h_is_valid h_steps_of
  have h_evacuated := has_evacuated (P := P) (w := w) (base := base) T D_evacuated h_area_count h_present
  have h_answer_evacuated := has_answer_evacuated (P := P) (w := w) (base := base) T D_answer_evacuated h_is_form h_is_valid h_steps_of h_evacuated
  have h_minute_answer := has_minute_answer (P := P) (w := w) (base := base) T D_minute_answer 
  have h_is_capacity := has_is_capacity (P := P) (w := w) (base := base) T D_is_capacity 
  have h_people_before := has_people_before (P := P) (w := w) (base := base) T D_people_before 
  have h_crossings := has_crossings (P := P) (w := w) (base := base) T D_crossings h_target_of h_source_of h_travel_time_of
  have h_capacity_across := has_capacity_across (P := P) (w := w) (base := base) T D_capacity_across h_capacity_of h_crossings
  have h_cut_capacity := has_cut_capacity (P := P) (w := w) (base := base) T D_cut_capacity h_people_before h_capacity_across
  have h_cut_at := has_cut_at (P := P) (w := w) (base := base) T D_cut_at 
  have h_cut_count := has_cut_count (P := P) (w := w) (base := base) T D_cut_count 
  have h_smallest_cut := has_smallest_cut (P := P) (w := w) (base := base) T D_smallest_cut h_cut_at h_cut_capacity h_cut_count
  have h_has_exits := has_has_exits (P := P) (w := w) (base := base) T D_has_exits 
  have h_min_cut := has_min_cut (P := P) (w := w) (base := base) T D_min_cut h_smallest_cut h_has_exits h_area_count
  have h_max_evacuated := has_max_evacuated (P := P) (w := w) (base := base) T D_max_evacuated h_cut_capacity h_min_cut
  have h_earliest := has_earliest (P := P) (w := w) (base := base) T D_earliest h_total_people h_max_evacuated
  have h_with_capacity := has_with_capacity (P := P) (w := w) (base := base) D_with_capacity 
  have h_Building := has_Binit (P := P) (w := w) (base := base) T FB MB
  have h_building_with_capacity := has_building_with_capacity (P := P) (w := w) (base := base) T D_building_with_capacity h_Building h_with_capacity
  have h_answer_if_capacity := has_answer_if_capacity (P := P) (w := w) (base := base) T D_answer_if_capacity h_minute_answer h_earliest h_has_passage h_is_capacity h_building_with_capacity
  have h_has_area := has_has_area (P := P) (w := w) (base := base) T D_has_area 
  have h_building_with_people := has_building_with_people (P := P) (w := w) (base := base) T D_building_with_people h_Building
  have h_answer_if_people := has_answer_if_people (P := P) (w := w) (base := base) T D_answer_if_people h_minute_answer h_earliest h_has_area h_building_with_people
  have h_spare_people := has_spare_people (P := P) (w := w) (base := base) T D_spare_people h_total_people h_cut_count h_cut_at h_cut_capacity
  have h_max_people := has_max_people (P := P) (w := w) (base := base) T D_max_people h_building_with_people h_has_exits h_spare_people h_total_people
  have h_answer_max_people := has_answer_max_people (P := P) (w := w) (base := base) T D_answer_max_people h_minute_answer h_has_area h_max_people
  have h_counted := has_counted (P := P) (w := w) (base := base) T D_counted 
  have h_limits_all := has_limits_all (P := P) (w := w) (base := base) T D_limits_all h_cut_capacity h_crossings
  have h_is_limiting := has_is_limiting (P := P) (w := w) (base := base) T D_is_limiting h_total_people h_cut_count h_limits_all h_cut_at
  have h_critical_passages := has_critical_passages (P := P) (w := w) (base := base) T D_critical_passages h_is_limiting h_capacity_of
  have h_answer_critical := has_answer_critical (P := P) (w := w) (base := base) T D_answer_critical h_earliest h_counted h_critical_passages
  have h_outgoing := has_outgoing (P := P) (w := w) (base := base) T D_outgoing h_source_of
  have h_answer_outgoing := has_answer_outgoing (P := P) (w := w) (base := base) T D_answer_outgoing h_has_area h_counted h_outgoing
  have h_last_query_answer := has_last_query_answer (P := P) (w := w) (base := base) T D_last_query_answer h_answer_is_valid h_answer_evacuated h_answer_if_capacity h_answer_if_people h_answer_max_people h_answer_critical h_answer_outgoing h_answer_state
  have h_reversed_passage := has_reversed_passage (P := P) (w := w) (base := base) D_reversed_passage 
  have h_reverse_passages := has_reverse_passages (P := P) (w := w) (base := base) T D_reverse_passages h_reversed_passage h_passage_count
  have h_add_area := has_add_area (P := P) (w := w) (base := base) T D_add_area h_area_count
  have h_set_people := has_set_people (P := P) (w := w) (base := base) T D_set_people h_has_area
  have h_set_exit := has_set_exit (P := P) (w := w) (base := base) T D_set_exit h_has_area
  have h_is_travel_time := has_is_travel_time (P := P) (w := w) (base := base) T D_is_travel_time 
  have h_add_passage := has_add_passage (P := P) (w := w) (base := base) T D_add_passage h_passage_count h_has_area h_is_capacity h_is_travel_time
  have h_remove_passage := has_remove_passage (P := P) (w := w) (base := base) T D_remove_passage h_has_passage h_passage_count
  have h_set_capacity := has_set_capacity (P := P) (w := w) (base := base) T D_set_capacity h_with_capacity h_has_passage h_is_capacity h_capacity_of
  have h_edit_answer := has_edit_answer (P := P) (w := w) (base := base) T D_edit_answer h_add_area h_set_people h_set_exit h_add_passage h_remove_passage h_set_capacity h_reverse_passages
  have h_is_cut := has_is_cut (P := P) (w := w) (base := base) T D_is_cut 
  have h_answer_cut_capacity := has_answer_cut_capacity (P := P) (w := w) (base := base) T D_answer_cut_capacity h_cut_capacity h_is_cut
  have h_list_areas := has_list_areas (P := P) (w := w) (base := base) T D_list_areas h_area_count
  have h_list_passages := has_list_passages (P := P) (w := w) (base := base) T D_list_passages h_passage_count
  have h_answer_max_evacuated := has_answer_max_evacuated (P := P) (w := w) (base := base) T D_answer_max_evacuated h_max_evacuated
  have h_answer_min_remaining := has_answer_min_remaining (P := P) (w := w) (base := base) T D_answer_min_remaining h_total_people h_max_evacuated
  have h_answer_earliest := has_answer_earliest (P := P) (w := w) (base := base) T D_answer_earliest h_minute_answer h_earliest
  have h_answer_min_cut := has_answer_min_cut (P := P) (w := w) (base := base) T D_answer_min_cut h_min_cut h_cut_capacity
  have h_first_query_answer := has_first_query_answer (P := P) (w := w) (base := base) T D_first_query_answer h_list_areas h_list_passages h_answer_max_evacuated h_answer_min_remaining h_answer_earliest h_answer_min_cut h_answer_cut_capacity
  have h_Desk_answer := has_Desk_answer (P := P) (w := w) (base := base) T FM MM h_Building h_edit_answer h_first_query_answer h_last_query_answer
  have h_list_place := has_list_place (P := P) (w := w) (base := base) T D_list_place hSZ hSq 
  have h_has_list := has_has_list (P := P) (w := w) (base := base) T D_has_list 
  have h_end_of := has_end_of (P := P) (w := w) (base := base) T D_end_of h_list_place h_has_list
  have h_numbers_of := has_numbers_of (P := P) (w := w) (base := base) T D_numbers_of h_list_place h_has_list h_end_of
  exact ok_answers (P := P) (w := w) (base := base) T FA h_Desk h_Desk_answer h_end_of h_numbers_of
theorem with_txt {K : PySem.W.Frag} {h : Heap} {mg : Str → Option Value} {R : Prop} {C CD aS fB fD fM : Addr} {its : Array Value} {nS : Nat} {odS : Option Addr} {slS : Array (Option Value)}
    {ocB kVB dcB pmB cdB ctB : Value} {odB anB : Option Addr} {slB : Array (Option Value)}
    {ocQ kVQ dcQ pmQ cdQ ctQ : Value} {odQ anQ : Option Addr} {slQ : Array (Option Value)}
    {ocM kVM dcM pmM cdM ctM : Value} {odM anM : Option Addr} {slM : Array (Option Value)}
    {t_MAX_PEOPLE t_MAX_AREAS t_MAX_CAPACITY t_MAX_TRAVEL_TIME t_MAX_PASSAGES t_LAST_MINUTE t_NO_SUCH t_BAD_ARGUMENT t_FULL t_NEVER t_NUMBERS_IN_STEP t_MAX_NUMBERS t_IMPOSSIBLE t_NO_PLANNER t_CREATE t_CUT_CAPACITY t_IS_VALID_PLAN t_EVACUATED_BY_PLAN : Tok} (X : K.In h) (G : h.Ns mainGlobals mg)
    (aC : PySem.W.nsIn K mainGlobals "Building" = some (some (.ref C)))
    (aD : PySem.W.nsIn K mainGlobals "Desk" = some (some (.ref CD)))
    (pgC : PySem.W.plainGet K C Str.empty = true)
    (hdC : PySem.W.hasDictIn K C = true)
    (poC : PySem.W.plainOver K C = true)
    (saC : PySem.W.findIn K (.ref C) "__setattr__" = some (some (.builtin "object.__setattr__")))
    (mkC : PySem.W.makesIn K C = true)
    (kcC : PySem.W.keepIn K (.ref C) = true)
    (pgD : PySem.W.plainGet K CD Str.empty = true)
    (hdD : PySem.W.hasDictIn K CD = true)
    (poD : PySem.W.plainOver K CD = true)
    (saD : PySem.W.findIn K (.ref CD) "__setattr__" = some (some (.builtin "object.__setattr__")))
    (mkD : PySem.W.makesIn K CD = true)
    (kcD : PySem.W.keepIn K (.ref CD) = true)
    (nP : PySem.W.findIn K (.ref C) "people" = some none)
    (nE : PySem.W.findIn K (.ref C) "exits" = some none)
    (nL : PySem.W.findIn K (.ref C) "passages" = some none)
    (nB : PySem.W.findIn K (.ref CD) "building" = some none)
    (z_len : PySem.W.nsIn K mainGlobals "len" = some none)
    (z_sum : PySem.W.nsIn K mainGlobals "sum" = some none)
    (z_min : PySem.W.nsIn K mainGlobals "min" = some none)
    (z_max : PySem.W.nsIn K mainGlobals "max" = some none)
    (z_int : PySem.W.nsIn K mainGlobals "int" = some none)
    (z_list : PySem.W.nsIn K mainGlobals "list" = some none)
    (z_range : PySem.W.nsIn K mainGlobals "range" = some none)
    (z_zip : PySem.W.nsIn K mainGlobals "zip" = some none)
    (z_enumerate : PySem.W.nsIn K mainGlobals "enumerate" = some none)
    (z_reversed : PySem.W.nsIn K mainGlobals "reversed" = some none)
    (g_MAX_PEOPLE : PySem.W.nsIn K mainGlobals "MAX_PEOPLE" = some (some (.int (20) t_MAX_PEOPLE)))
    (g_MAX_AREAS : PySem.W.nsIn K mainGlobals "MAX_AREAS" = some (some (.int (5) t_MAX_AREAS)))
    (g_MAX_CAPACITY : PySem.W.nsIn K mainGlobals "MAX_CAPACITY" = some (some (.int (9) t_MAX_CAPACITY)))
    (g_MAX_TRAVEL_TIME : PySem.W.nsIn K mainGlobals "MAX_TRAVEL_TIME" = some (some (.int (3) t_MAX_TRAVEL_TIME)))
    (g_MAX_PASSAGES : PySem.W.nsIn K mainGlobals "MAX_PASSAGES" = some (some (.int (8) t_MAX_PASSAGES)))
    (g_LAST_MINUTE : PySem.W.nsIn K mainGlobals "LAST_MINUTE" = some (some (.int (5) t_LAST_MINUTE)))
    (g_NO_SUCH : PySem.W.nsIn K mainGlobals "NO_SUCH" = some (some (.int (-2) t_NO_SUCH)))
    (g_BAD_ARGUMENT : PySem.W.nsIn K mainGlobals "BAD_ARGUMENT" = some (some (.int (-22) t_BAD_ARGUMENT)))
    (g_FULL : PySem.W.nsIn K mainGlobals "FULL" = some (some (.int (-28) t_FULL)))
    (g_NEVER : PySem.W.nsIn K mainGlobals "NEVER" = some (some (.int (-1) t_NEVER)))
    (g_NUMBERS_IN_STEP : PySem.W.nsIn K mainGlobals "NUMBERS_IN_STEP" = some (some (.int (3) t_NUMBERS_IN_STEP)))
    (g_MAX_NUMBERS : PySem.W.nsIn K mainGlobals "MAX_NUMBERS" = some (some (.int (36) t_MAX_NUMBERS)))
    (g_IMPOSSIBLE : PySem.W.nsIn K mainGlobals "IMPOSSIBLE" = some (some (.int (-33) t_IMPOSSIBLE)))
    (g_NO_PLANNER : PySem.W.nsIn K mainGlobals "NO_PLANNER" = some (some (.int (-11) t_NO_PLANNER)))
    (g_CREATE : PySem.W.nsIn K mainGlobals "CREATE" = some (some (.int (0) t_CREATE)))
    (g_CUT_CAPACITY : PySem.W.nsIn K mainGlobals "CUT_CAPACITY" = some (some (.int (14) t_CUT_CAPACITY)))
    (g_IS_VALID_PLAN : PySem.W.nsIn K mainGlobals "IS_VALID_PLAN" = some (some (.int (15) t_IS_VALID_PLAN)))
    (g_EVACUATED_BY_PLAN : PySem.W.nsIn K mainGlobals "EVACUATED_BY_PLAN" = some (some (.int (16) t_EVACUATED_BY_PLAN)))
    (aB : PySem.W.findIn K (.ref C) "__init__" = some (some (.ref fB)))
    (iB : PySem.W.isFn K (.ref fB) = true)
    (lB : K.lookup fB = some ⟨ocB, odB, .func (PySem.W.fnOf "__init__" "Building.__init__" (defArgs s_Building_init) (defBody s_Building_init) (defScope s_Building_init) .none kVB dcB pmB anB cdB ctB), slB⟩)
    (cB : PySem.W.codeIn K cdB "Building.__init__" = true)
    (kB : PySem.W.keepIn K (.ref fB) = true)
    (aQ : PySem.W.findIn K (.ref CD) "__init__" = some (some (.ref fD)))
    (iQ : PySem.W.isFn K (.ref fD) = true)
    (lQ : K.lookup fD = some ⟨ocQ, odQ, .func (PySem.W.fnOf "__init__" "Desk.__init__" (defArgs s_Desk_init) (defBody s_Desk_init) (defScope s_Desk_init) .none kVQ dcQ pmQ anQ cdQ ctQ), slQ⟩)
    (cQ : PySem.W.codeIn K cdQ "Desk.__init__" = true)
    (kQ : PySem.W.keepIn K (.ref fD) = true)
    (aM : PySem.W.findIn K (.ref CD) "answer" = some (some (.ref fM)))
    (iM : PySem.W.isFn K (.ref fM) = true)
    (lM : K.lookup fM = some ⟨ocM, odM, .func (PySem.W.fnOf "answer" "Desk.answer" (defArgs s_Desk_answer) (defBody s_Desk_answer) (defScope s_Desk_answer) .none kVM dcM pmM anM cdM ctM), slM⟩)
    (cM : PySem.W.codeIn K cdM "Desk.answer" = true)
    (kM : PySem.W.keepIn K (.ref fM) = true)
    (aSz : PySem.W.nsIn K mainGlobals "SIZES" = some (some (.ref aS)))
    (lSz : K.lookup aS = some ⟨.type "tuple", odS, .seq its nS, slS⟩)
    (hz : its.size ≤ sizeLine) (hv : Vals (natV sizesL) its.toList)
    (r : ∀ (fdB fdD fdM : FuncData), Txt K mg C CD → mg "SIZES" = some (.ref aS) → (∀ H, SqT K H aS (natV sizesL)) → Mk K C fB → Fun K "__init__" "Building.__init__" s_Building_init fB fdB → Mk K CD fD → Fun K "__init__" "Desk.__init__" s_Desk_init fD fdD → Meth K CD "answer" fM → Fun K "answer" "Desk.answer" s_Desk_answer fM fdM → R) : R := by
  refine r _ _ _ ?_ (PySem.W.mg_of X G aSz) (tup_of lSz hz hv) ⟨mkC, aB, iB, kcC⟩ (fun_mk lB cB kB) ⟨mkD, aQ, iQ, kcD⟩ (fun_mk lQ cQ kQ) ⟨aM, iM, kM⟩ (fun_mk lM cM kM)
  exact { tb := ⟨⟨pgC, hdC, poC, saC⟩, nP, nE, nL⟩, clD := ⟨pgD, hdD, poD, saD⟩, nB := nB, gB := PySem.W.mg_of X G aC, gD := PySem.W.mg_of X G aD, b_len := PySem.W.mg_none_of X G z_len, b_sum := PySem.W.mg_none_of X G z_sum, b_min := PySem.W.mg_none_of X G z_min, b_max := PySem.W.mg_none_of X G z_max, b_int := PySem.W.mg_none_of X G z_int, b_list := PySem.W.mg_none_of X G z_list, b_range := PySem.W.mg_none_of X G z_range, b_zip := PySem.W.mg_none_of X G z_zip, b_enumerate := PySem.W.mg_none_of X G z_enumerate, b_reversed := PySem.W.mg_none_of X G z_reversed, c_MAX_PEOPLE := gi_of X G g_MAX_PEOPLE, c_MAX_AREAS := gi_of X G g_MAX_AREAS, c_MAX_CAPACITY := gi_of X G g_MAX_CAPACITY, c_MAX_TRAVEL_TIME := gi_of X G g_MAX_TRAVEL_TIME, c_MAX_PASSAGES := gi_of X G g_MAX_PASSAGES, c_LAST_MINUTE := gi_of X G g_LAST_MINUTE, c_NO_SUCH := gi_of X G g_NO_SUCH, c_BAD_ARGUMENT := gi_of X G g_BAD_ARGUMENT, c_FULL := gi_of X G g_FULL, c_NEVER := gi_of X G g_NEVER, c_NUMBERS_IN_STEP := gi_of X G g_NUMBERS_IN_STEP, c_MAX_NUMBERS := gi_of X G g_MAX_NUMBERS, c_IMPOSSIBLE := gi_of X G g_IMPOSSIBLE, c_NO_PLANNER := gi_of X G g_NO_PLANNER, c_CREATE := gi_of X G g_CREATE, c_CUT_CAPACITY := gi_of X G g_CUT_CAPACITY, c_IS_VALID_PLAN := gi_of X G g_IS_VALID_PLAN, c_EVACUATED_BY_PLAN := gi_of X G g_EVACUATED_BY_PLAN }
theorem with_ans {K : PySem.W.Frag} {h : Heap} {mg : Str → Option Value} {R : Prop} {f fa : Addr} {oc kV dc pm cd ct : Value} {od an : Option Addr} {sl : Array (Option Value)} (X : K.In h) (G : h.Ns mainGlobals mg) (hfa : mg "answers" = some (.ref fa)) (a : PySem.W.nsIn K mainGlobals "answers" = some (some (.ref f)))
    (l : K.lookup f = some ⟨oc, od, .func (PySem.W.fnOf "answers" "answers" (defArgs s_answers) (defBody s_answers) (defScope s_answers) .none kV dc pm an cd ct), sl⟩) (c : PySem.W.codeIn K cd "answers" = true) (k : PySem.W.keepIn K (.ref f) = true)
    (r : ∀ fd : FuncData, (∀ (s : Shared) (us : List Value), us.length = (["calls"] : List Str).length → BindsTo s fd ⟨us, []⟩ ((["calls"] : List Str).zip us)) → Fun K "answers" "answers" s_answers fa fd → R) : R := by
  have e := hfa.symm.trans (PySem.W.mg_of X G a)
  cases e
  exact r _ (fun s us hu => match us, hu with | [_], _ => .of_eq rfl) (fun_mk l c k)
end Bx
end

section
set_option maxRecDepth 100000
set_option maxHeartbeats 4000000
/-! The request. -/
namespace Bx
open PySem PySem.Spec PyProof.Rows L2 Evl
theorem natV_ints {ns : List Int} (h : ∀ x ∈ ns, 0 ≤ x) : natV (ns.map Int.toNat) = ns.map V.int := by
  unfold natV
  rw [List.map_map]
  refine List.map_congr_left fun x hx => ?_
  have := h x hx
  show V.int ((x.toNat : Nat) : Int) = V.int x
  congr 1
  omega
theorem request {K : PySem.W.Frag} {H : Hp} {c : Addr} {ns : List Int} {Q : VK} {E : XK} (hs : SqL K H c (ns.map V.int)) (hl : ns.length ≤ 13100) (hn : ∀ x ∈ ns, 0 ≤ x) (ha : PyKv434.answers_asked ns = true)
    (k : ∀ p H', H' p = some (.lst ((PyKv434.answers ns).map V.int)) → Q (.ref p) H') : sp_answers K [.ref c] H Q E := by
  obtain ⟨raw, hr, hd⟩ := asked_raw ha
  rw [answers_due hr] at hd k
  refine ⟨c, ns.map Int.toNat, raw, rfl, ?_, by rw [List.length_map]; exact hl, ?_, by unfold dueV; rw [List.length_map]; exact hd, k⟩
  · rw [natV_ints hn]
    exact hs
  · refine parsed_of _ ns.length 0 raw (Nat.zero_le _) ?_
    rw [List.drop_zero, nat_ints hn]
    exact hr
end Bx
end
open PySem PySem.W PyProof.Rows
set_option maxRecDepth 100000 in
set_option maxHeartbeats 0 in
theorem PySem.Challenge.cw_buildingexits_s01_answers_holds : PySem.Challenge.rw_buildingexits_s01_answers.Holds := by
  w_on; k_headS; (case hw => exact ⟨[.list [.int 0]], by decide +kernel, by decide +kernel⟩)
  k_fillS
  refine L2.walk_specK (r := PySem.Challenge.rw_buildingexits_s01_answers) (k := 12) (CX := L2.CX0) (ps := ["calls"]) (sp := Bx.sp_answers) (by decide +kernel) rfl rfl ⟨rfl, by decide, by decide⟩ (fun w h Y => PySem.W.kIn_of Y) ?F ?S (fun _ _ _ _ z => z)
  case F =>
    intro w mg fa h Y KX G hmg
    refine' Bx.with_txt KX G ?aC ?aD ?pgC ?hdC ?poC ?saC ?mkC ?kcC ?pgD ?hdD ?poD ?saD ?mkD ?kcD ?nP ?nE ?nL ?nB ?z_len ?z_sum ?z_min ?z_max ?z_int ?z_list ?z_range ?z_zip ?z_enumerate ?z_reversed ?g_MAX_PEOPLE ?g_MAX_AREAS ?g_MAX_CAPACITY ?g_MAX_TRAVEL_TIME ?g_MAX_PASSAGES ?g_LAST_MINUTE ?g_NO_SUCH ?g_BAD_ARGUMENT ?g_FULL ?g_NEVER ?g_NUMBERS_IN_STEP ?g_MAX_NUMBERS ?g_IMPOSSIBLE ?g_NO_PLANNER ?g_CREATE ?g_CUT_CAPACITY ?g_IS_VALID_PLAN ?g_EVACUATED_BY_PLAN ?aB ?iB ?lB ?cB ?kB ?aQ ?iQ ?lQ ?cQ ?kQ ?aM ?iM ?lM ?cM ?kM ?aSz ?lSz ?hz ?hv ?rest
    (case aC => k_is)
    (case aD => k_is)
    (case pgC => k_is)
    (case hdC => k_is)
    (case poC => k_is)
    (case saC => k_is)
    (case mkC => k_is)
    (case kcC => k_is)
    (case pgD => k_is)
    (case hdD => k_is)
    (case poD => k_is)
    (case saD => k_is)
    (case mkD => k_is)
    (case kcD => k_is)
    (case nP => k_is)
    (case nE => k_is)
    (case nL => k_is)
    (case nB => k_is)
    (case z_len => k_is)
    (case z_sum => k_is)
    (case z_min => k_is)
    (case z_max => k_is)
    (case z_int => k_is)
    (case z_list => k_is)
    (case z_range => k_is)
    (case z_zip => k_is)
    (case z_enumerate => k_is)
    (case z_reversed => k_is)
    (case g_MAX_PEOPLE => k_is)
    (case g_MAX_AREAS => k_is)
    (case g_MAX_CAPACITY => k_is)
    (case g_MAX_TRAVEL_TIME => k_is)
    (case g_MAX_PASSAGES => k_is)
    (case g_LAST_MINUTE => k_is)
    (case g_NO_SUCH => k_is)
    (case g_BAD_ARGUMENT => k_is)
    (case g_FULL => k_is)
    (case g_NEVER => k_is)
    (case g_NUMBERS_IN_STEP => k_is)
    (case g_MAX_NUMBERS => k_is)
    (case g_IMPOSSIBLE => k_is)
    (case g_NO_PLANNER => k_is)
    (case g_CREATE => k_is)
    (case g_CUT_CAPACITY => k_is)
    (case g_IS_VALID_PLAN => k_is)
    (case g_EVACUATED_BY_PLAN => k_is)
    (case aB => k_is)
    (case iB => k_is)
    (case lB => k_is)
    (case cB => k_is)
    (case kB => k_is)
    (case aQ => k_is)
    (case iQ => k_is)
    (case lQ => k_is)
    (case cQ => k_is)
    (case kQ => k_is)
    (case aM => k_is)
    (case iM => k_is)
    (case lM => k_is)
    (case cM => k_is)
    (case kM => k_is)
    (case aSz => k_is)
    (case lSz => k_is)
    (case hz => decide)
    (case hv => exact (.cons ⟨_, rfl⟩ (.cons ⟨_, rfl⟩ (.cons ⟨_, rfl⟩ (.cons ⟨_, rfl⟩ (.cons ⟨_, rfl⟩ (.cons ⟨_, rfl⟩ (.cons ⟨_, rfl⟩ (.cons ⟨_, rfl⟩ (.cons ⟨_, rfl⟩ (.cons ⟨_, rfl⟩ (.cons ⟨_, rfl⟩ (.cons ⟨_, rfl⟩ (.cons ⟨_, rfl⟩ (.cons ⟨_, rfl⟩ (.cons ⟨_, rfl⟩ (.cons ⟨_, rfl⟩ (.cons ⟨_, rfl⟩ (.cons ⟨_, rfl⟩ (.cons ⟨_, rfl⟩ (.cons ⟨_, rfl⟩ (.cons ⟨_, rfl⟩ (.cons ⟨_, rfl⟩ (.cons ⟨_, rfl⟩ .nil))))))))))))))))))))))))
    intro fdB fdD fdM T hSZ hSq MB FB MD FD MM FM
    refine' Bx.with_def (x := "area_count") (st := Bx.s_area_count) KX G ?a0 ?l0 ?c0 ?k0 ?r0
    (case a0 => k_is); (case l0 => k_is); (case c0 => k_is); (case k0 => k_is)
    intro D_area_count
    refine' Bx.with_def (x := "passage_count") (st := Bx.s_passage_count) KX G ?a1 ?l1 ?c1 ?k1 ?r1
    (case a1 => k_is); (case l1 => k_is); (case c1 => k_is); (case k1 => k_is)
    intro D_passage_count
    refine' Bx.with_def (x := "total_people") (st := Bx.s_total_people) KX G ?a2 ?l2 ?c2 ?k2 ?r2
    (case a2 => k_is); (case l2 => k_is); (case c2 => k_is); (case k2 => k_is)
    intro D_total_people
    refine' Bx.with_def (x := "answer_state") (st := Bx.s_answer_state) KX G ?a3 ?l3 ?c3 ?k3 ?r3
    (case a3 => k_is); (case l3 => k_is); (case c3 => k_is); (case k3 => k_is)
    intro D_answer_state
    refine' Bx.with_def (x := "is_form") (st := Bx.s_is_form) KX G ?a4 ?l4 ?c4 ?k4 ?r4
    (case a4 => k_is); (case l4 => k_is); (case c4 => k_is); (case k4 => k_is)
    intro D_is_form
    refine' Bx.with_def (x := "source_of") (st := Bx.s_source_of) KX G ?a5 ?l5 ?c5 ?k5 ?r5
    (case a5 => k_is); (case l5 => k_is); (case c5 => k_is); (case k5 => k_is)
    intro D_source_of
    refine' Bx.with_def (x := "gone") (st := Bx.s_gone) KX G ?a6 ?l6 ?c6 ?k6 ?r6
    (case a6 => k_is); (case l6 => k_is); (case c6 => k_is); (case k6 => k_is)
    intro D_gone
    refine' Bx.with_def (x := "leaving") (st := Bx.s_leaving) KX G ?a7 ?l7 ?c7 ?k7 ?r7
    (case a7 => k_is); (case l7 => k_is); (case c7 => k_is); (case k7 => k_is)
    intro D_leaving
    refine' Bx.with_def (x := "target_of") (st := Bx.s_target_of) KX G ?a8 ?l8 ?c8 ?k8 ?r8
    (case a8 => k_is); (case l8 => k_is); (case c8 => k_is); (case k8 => k_is)
    intro D_target_of
    refine' Bx.with_def (x := "travel_time_of") (st := Bx.s_travel_time_of) KX G ?a9 ?l9 ?c9 ?k9 ?r9
    (case a9 => k_is); (case l9 => k_is); (case c9 => k_is); (case k9 => k_is)
    intro D_travel_time_of
    refine' Bx.with_def (x := "arrived") (st := Bx.s_arrived) KX G ?a10 ?l10 ?c10 ?k10 ?r10
    (case a10 => k_is); (case l10 => k_is); (case c10 => k_is); (case k10 => k_is)
    intro D_arrived
    refine' Bx.with_def (x := "present") (st := Bx.s_present) KX G ?a11 ?l11 ?c11 ?k11 ?r11
    (case a11 => k_is); (case l11 => k_is); (case c11 => k_is); (case k11 => k_is)
    intro D_present
    refine' Bx.with_def (x := "keeps_people") (st := Bx.s_keeps_people) KX G ?a12 ?l12 ?c12 ?k12 ?r12
    (case a12 => k_is); (case l12 => k_is); (case c12 => k_is); (case k12 => k_is)
    intro D_keeps_people
    refine' Bx.with_def (x := "has_passage") (st := Bx.s_has_passage) KX G ?a13 ?l13 ?c13 ?k13 ?r13
    (case a13 => k_is); (case l13 => k_is); (case c13 => k_is); (case k13 => k_is)
    intro D_has_passage
    refine' Bx.with_def (x := "has_known_steps") (st := Bx.s_has_known_steps) KX G ?a14 ?l14 ?c14 ?k14 ?r14
    (case a14 => k_is); (case l14 => k_is); (case c14 => k_is); (case k14 => k_is)
    intro D_has_known_steps
    refine' Bx.with_def (x := "entering") (st := Bx.s_entering) KX G ?a15 ?l15 ?c15 ?k15 ?r15
    (case a15 => k_is); (case l15 => k_is); (case c15 => k_is); (case k15 => k_is)
    intro D_entering
    refine' Bx.with_def (x := "capacity_of") (st := Bx.s_capacity_of) KX G ?a16 ?l16 ?c16 ?k16 ?r16
    (case a16 => k_is); (case l16 => k_is); (case c16 => k_is); (case k16 => k_is)
    intro D_capacity_of
    refine' Bx.with_def (x := "keeps_capacities") (st := Bx.s_keeps_capacities) KX G ?a17 ?l17 ?c17 ?k17 ?r17
    (case a17 => k_is); (case l17 => k_is); (case c17 => k_is); (case k17 => k_is)
    intro D_keeps_capacities
    refine' Bx.with_def (x := "is_valid") (st := Bx.s_is_valid) KX G ?a18 ?l18 ?c18 ?k18 ?r18
    (case a18 => k_is); (case l18 => k_is); (case c18 => k_is); (case k18 => k_is)
    intro D_is_valid
    refine' Bx.with_def (x := "steps_of") (st := Bx.s_steps_of) KX G ?a19 ?l19 ?c19 ?k19 ?r19
    (case a19 => k_is); (case l19 => k_is); (case c19 => k_is); (case k19 => k_is)
    intro D_steps_of
    refine' Bx.with_def (x := "answer_is_valid") (st := Bx.s_answer_is_valid) KX G ?a20 ?l20 ?c20 ?k20 ?r20
    (case a20 => k_is); (case l20 => k_is); (case c20 => k_is); (case k20 => k_is)
    intro D_answer_is_valid
    refine' Bx.with_def (x := "evacuated") (st := Bx.s_evacuated) KX G ?a21 ?l21 ?c21 ?k21 ?r21
    (case a21 => k_is); (case l21 => k_is); (case c21 => k_is); (case k21 => k_is)
    intro D_evacuated
    refine' Bx.with_def (x := "answer_evacuated") (st := Bx.s_answer_evacuated) KX G ?a22 ?l22 ?c22 ?k22 ?r22
    (case a22 => k_is); (case l22 => k_is); (case c22 => k_is); (case k22 => k_is)
    intro D_answer_evacuated
    refine' Bx.with_def (x := "minute_answer") (st := Bx.s_minute_answer) KX G ?a23 ?l23 ?c23 ?k23 ?r23
    (case a23 => k_is); (case l23 => k_is); (case c23 => k_is); (case k23 => k_is)
    intro D_minute_answer
    refine' Bx.with_def (x := "is_capacity") (st := Bx.s_is_capacity) KX G ?a24 ?l24 ?c24 ?k24 ?r24
    (case a24 => k_is); (case l24 => k_is); (case c24 => k_is); (case k24 => k_is)
    intro D_is_capacity
    refine' Bx.with_def (x := "people_before") (st := Bx.s_people_before) KX G ?a25 ?l25 ?c25 ?k25 ?r25
    (case a25 => k_is); (case l25 => k_is); (case c25 => k_is); (case k25 => k_is)
    intro D_people_before
    refine' Bx.with_def (x := "crossings") (st := Bx.s_crossings) KX G ?a26 ?l26 ?c26 ?k26 ?r26
    (case a26 => k_is); (case l26 => k_is); (case c26 => k_is); (case k26 => k_is)
    intro D_crossings
    refine' Bx.with_def (x := "capacity_across") (st := Bx.s_capacity_across) KX G ?a27 ?l27 ?c27 ?k27 ?r27
    (case a27 => k_is); (case l27 => k_is); (case c27 => k_is); (case k27 => k_is)
    intro D_capacity_across
    refine' Bx.with_def (x := "cut_capacity") (st := Bx.s_cut_capacity) KX G ?a28 ?l28 ?c28 ?k28 ?r28
    (case a28 => k_is); (case l28 => k_is); (case c28 => k_is); (case k28 => k_is)
    intro D_cut_capacity
    refine' Bx.with_def (x := "cut_at") (st := Bx.s_cut_at) KX G ?a29 ?l29 ?c29 ?k29 ?r29
    (case a29 => k_is); (case l29 => k_is); (case c29 => k_is); (case k29 => k_is)
    intro D_cut_at
    refine' Bx.with_def (x := "cut_count") (st := Bx.s_cut_count) KX G ?a30 ?l30 ?c30 ?k30 ?r30
    (case a30 => k_is); (case l30 => k_is); (case c30 => k_is); (case k30 => k_is)
    intro D_cut_count
    refine' Bx.with_def (x := "smallest_cut") (st := Bx.s_smallest_cut) KX G ?a31 ?l31 ?c31 ?k31 ?r31
    (case a31 => k_is); (case l31 => k_is); (case c31 => k_is); (case k31 => k_is)
    intro D_smallest_cut
    refine' Bx.with_def (x := "has_exits") (st := Bx.s_has_exits) KX G ?a32 ?l32 ?c32 ?k32 ?r32
    (case a32 => k_is); (case l32 => k_is); (case c32 => k_is); (case k32 => k_is)
    intro D_has_exits
    refine' Bx.with_def (x := "min_cut") (st := Bx.s_min_cut) KX G ?a33 ?l33 ?c33 ?k33 ?r33
    (case a33 => k_is); (case l33 => k_is); (case c33 => k_is); (case k33 => k_is)
    intro D_min_cut
    refine' Bx.with_def (x := "max_evacuated") (st := Bx.s_max_evacuated) KX G ?a34 ?l34 ?c34 ?k34 ?r34
    (case a34 => k_is); (case l34 => k_is); (case c34 => k_is); (case k34 => k_is)
    intro D_max_evacuated
    refine' Bx.with_def (x := "earliest") (st := Bx.s_earliest) KX G ?a35 ?l35 ?c35 ?k35 ?r35
    (case a35 => k_is); (case l35 => k_is); (case c35 => k_is); (case k35 => k_is)
    intro D_earliest
    refine' Bx.with_def (x := "with_capacity") (st := Bx.s_with_capacity) KX G ?a36 ?l36 ?c36 ?k36 ?r36
    (case a36 => k_is); (case l36 => k_is); (case c36 => k_is); (case k36 => k_is)
    intro D_with_capacity
    refine' Bx.with_def (x := "building_with_capacity") (st := Bx.s_building_with_capacity) KX G ?a37 ?l37 ?c37 ?k37 ?r37
    (case a37 => k_is); (case l37 => k_is); (case c37 => k_is); (case k37 => k_is)
    intro D_building_with_capacity
    refine' Bx.with_def (x := "answer_if_capacity") (st := Bx.s_answer_if_capacity) KX G ?a38 ?l38 ?c38 ?k38 ?r38
    (case a38 => k_is); (case l38 => k_is); (case c38 => k_is); (case k38 => k_is)
    intro D_answer_if_capacity
    refine' Bx.with_def (x := "has_area") (st := Bx.s_has_area) KX G ?a39 ?l39 ?c39 ?k39 ?r39
    (case a39 => k_is); (case l39 => k_is); (case c39 => k_is); (case k39 => k_is)
    intro D_has_area
    refine' Bx.with_def (x := "building_with_people") (st := Bx.s_building_with_people) KX G ?a40 ?l40 ?c40 ?k40 ?r40
    (case a40 => k_is); (case l40 => k_is); (case c40 => k_is); (case k40 => k_is)
    intro D_building_with_people
    refine' Bx.with_def (x := "answer_if_people") (st := Bx.s_answer_if_people) KX G ?a41 ?l41 ?c41 ?k41 ?r41
    (case a41 => k_is); (case l41 => k_is); (case c41 => k_is); (case k41 => k_is)
    intro D_answer_if_people
    refine' Bx.with_def (x := "spare_people") (st := Bx.s_spare_people) KX G ?a42 ?l42 ?c42 ?k42 ?r42
    (case a42 => k_is); (case l42 => k_is); (case c42 => k_is); (case k42 => k_is)
    intro D_spare_people
    refine' Bx.with_def (x := "max_people") (st := Bx.s_max_people) KX G ?a43 ?l43 ?c43 ?k43 ?r43
    (case a43 => k_is); (case l43 => k_is); (case c43 => k_is); (case k43 => k_is)
    intro D_max_people
    refine' Bx.with_def (x := "answer_max_people") (st := Bx.s_answer_max_people) KX G ?a44 ?l44 ?c44 ?k44 ?r44
    (case a44 => k_is); (case l44 => k_is); (case c44 => k_is); (case k44 => k_is)
    intro D_answer_max_people
    refine' Bx.with_def (x := "counted") (st := Bx.s_counted) KX G ?a45 ?l45 ?c45 ?k45 ?r45
    (case a45 => k_is); (case l45 => k_is); (case c45 => k_is); (case k45 => k_is)
    intro D_counted
    refine' Bx.with_def (x := "limits_all") (st := Bx.s_limits_all) KX G ?a46 ?l46 ?c46 ?k46 ?r46
    (case a46 => k_is); (case l46 => k_is); (case c46 => k_is); (case k46 => k_is)
    intro D_limits_all
    refine' Bx.with_def (x := "is_limiting") (st := Bx.s_is_limiting) KX G ?a47 ?l47 ?c47 ?k47 ?r47
    (case a47 => k_is); (case l47 => k_is); (case c47 => k_is); (case k47 => k_is)
    intro D_is_limiting
    refine' Bx.with_def (x := "critical_passages") (st := Bx.s_critical_passages) KX G ?a48 ?l48 ?c48 ?k48 ?r48
    (case a48 => k_is); (case l48 => k_is); (case c48 => k_is); (case k48 => k_is)
    intro D_critical_passages
    refine' Bx.with_def (x := "answer_critical") (st := Bx.s_answer_critical) KX G ?a49 ?l49 ?c49 ?k49 ?r49
    (case a49 => k_is); (case l49 => k_is); (case c49 => k_is); (case k49 => k_is)
    intro D_answer_critical
    refine' Bx.with_def (x := "outgoing") (st := Bx.s_outgoing) KX G ?a50 ?l50 ?c50 ?k50 ?r50
    (case a50 => k_is); (case l50 => k_is); (case c50 => k_is); (case k50 => k_is)
    intro D_outgoing
    refine' Bx.with_def (x := "answer_outgoing") (st := Bx.s_answer_outgoing) KX G ?a51 ?l51 ?c51 ?k51 ?r51
    (case a51 => k_is); (case l51 => k_is); (case c51 => k_is); (case k51 => k_is)
    intro D_answer_outgoing
    refine' Bx.with_def (x := "last_query_answer") (st := Bx.s_last_query_answer) KX G ?a52 ?l52 ?c52 ?k52 ?r52
    (case a52 => k_is); (case l52 => k_is); (case c52 => k_is); (case k52 => k_is)
    intro D_last_query_answer
    refine' Bx.with_def (x := "reversed_passage") (st := Bx.s_reversed_passage) KX G ?a53 ?l53 ?c53 ?k53 ?r53
    (case a53 => k_is); (case l53 => k_is); (case c53 => k_is); (case k53 => k_is)
    intro D_reversed_passage
    refine' Bx.with_def (x := "reverse_passages") (st := Bx.s_reverse_passages) KX G ?a54 ?l54 ?c54 ?k54 ?r54
    (case a54 => k_is); (case l54 => k_is); (case c54 => k_is); (case k54 => k_is)
    intro D_reverse_passages
    refine' Bx.with_def (x := "add_area") (st := Bx.s_add_area) KX G ?a55 ?l55 ?c55 ?k55 ?r55
    (case a55 => k_is); (case l55 => k_is); (case c55 => k_is); (case k55 => k_is)
    intro D_add_area
    refine' Bx.with_def (x := "set_people") (st := Bx.s_set_people) KX G ?a56 ?l56 ?c56 ?k56 ?r56
    (case a56 => k_is); (case l56 => k_is); (case c56 => k_is); (case k56 => k_is)
    intro D_set_people
    refine' Bx.with_def (x := "set_exit") (st := Bx.s_set_exit) KX G ?a57 ?l57 ?c57 ?k57 ?r57
    (case a57 => k_is); (case l57 => k_is); (case c57 => k_is); (case k57 => k_is)
    intro D_set_exit
    refine' Bx.with_def (x := "is_travel_time") (st := Bx.s_is_travel_time) KX G ?a58 ?l58 ?c58 ?k58 ?r58
    (case a58 => k_is); (case l58 => k_is); (case c58 => k_is); (case k58 => k_is)
    intro D_is_travel_time
    refine' Bx.with_def (x := "add_passage") (st := Bx.s_add_passage) KX G ?a59 ?l59 ?c59 ?k59 ?r59
    (case a59 => k_is); (case l59 => k_is); (case c59 => k_is); (case k59 => k_is)
    intro D_add_passage
    refine' Bx.with_def (x := "remove_passage") (st := Bx.s_remove_passage) KX G ?a60 ?l60 ?c60 ?k60 ?r60
    (case a60 => k_is); (case l60 => k_is); (case c60 => k_is); (case k60 => k_is)
    intro D_remove_passage
    refine' Bx.with_def (x := "set_capacity") (st := Bx.s_set_capacity) KX G ?a61 ?l61 ?c61 ?k61 ?r61
    (case a61 => k_is); (case l61 => k_is); (case c61 => k_is); (case k61 => k_is)
    intro D_set_capacity
    refine' Bx.with_def (x := "edit_answer") (st := Bx.s_edit_answer) KX G ?a62 ?l62 ?c62 ?k62 ?r62
    (case a62 => k_is); (case l62 => k_is); (case c62 => k_is); (case k62 => k_is)
    intro D_edit_answer
    refine' Bx.with_def (x := "is_cut") (st := Bx.s_is_cut) KX G ?a63 ?l63 ?c63 ?k63 ?r63
    (case a63 => k_is); (case l63 => k_is); (case c63 => k_is); (case k63 => k_is)
    intro D_is_cut
    refine' Bx.with_def (x := "answer_cut_capacity") (st := Bx.s_answer_cut_capacity) KX G ?a64 ?l64 ?c64 ?k64 ?r64
    (case a64 => k_is); (case l64 => k_is); (case c64 => k_is); (case k64 => k_is)
    intro D_answer_cut_capacity
    refine' Bx.with_def (x := "list_areas") (st := Bx.s_list_areas) KX G ?a65 ?l65 ?c65 ?k65 ?r65
    (case a65 => k_is); (case l65 => k_is); (case c65 => k_is); (case k65 => k_is)
    intro D_list_areas
    refine' Bx.with_def (x := "list_passages") (st := Bx.s_list_passages) KX G ?a66 ?l66 ?c66 ?k66 ?r66
    (case a66 => k_is); (case l66 => k_is); (case c66 => k_is); (case k66 => k_is)
    intro D_list_passages
    refine' Bx.with_def (x := "answer_max_evacuated") (st := Bx.s_answer_max_evacuated) KX G ?a67 ?l67 ?c67 ?k67 ?r67
    (case a67 => k_is); (case l67 => k_is); (case c67 => k_is); (case k67 => k_is)
    intro D_answer_max_evacuated
    refine' Bx.with_def (x := "answer_min_remaining") (st := Bx.s_answer_min_remaining) KX G ?a68 ?l68 ?c68 ?k68 ?r68
    (case a68 => k_is); (case l68 => k_is); (case c68 => k_is); (case k68 => k_is)
    intro D_answer_min_remaining
    refine' Bx.with_def (x := "answer_earliest") (st := Bx.s_answer_earliest) KX G ?a69 ?l69 ?c69 ?k69 ?r69
    (case a69 => k_is); (case l69 => k_is); (case c69 => k_is); (case k69 => k_is)
    intro D_answer_earliest
    refine' Bx.with_def (x := "answer_min_cut") (st := Bx.s_answer_min_cut) KX G ?a70 ?l70 ?c70 ?k70 ?r70
    (case a70 => k_is); (case l70 => k_is); (case c70 => k_is); (case k70 => k_is)
    intro D_answer_min_cut
    refine' Bx.with_def (x := "first_query_answer") (st := Bx.s_first_query_answer) KX G ?a71 ?l71 ?c71 ?k71 ?r71
    (case a71 => k_is); (case l71 => k_is); (case c71 => k_is); (case k71 => k_is)
    intro D_first_query_answer
    refine' Bx.with_def (x := "list_place") (st := Bx.s_list_place) KX G ?a72 ?l72 ?c72 ?k72 ?r72
    (case a72 => k_is); (case l72 => k_is); (case c72 => k_is); (case k72 => k_is)
    intro D_list_place
    refine' Bx.with_def (x := "has_list") (st := Bx.s_has_list) KX G ?a73 ?l73 ?c73 ?k73 ?r73
    (case a73 => k_is); (case l73 => k_is); (case c73 => k_is); (case k73 => k_is)
    intro D_has_list
    refine' Bx.with_def (x := "end_of") (st := Bx.s_end_of) KX G ?a74 ?l74 ?c74 ?k74 ?r74
    (case a74 => k_is); (case l74 => k_is); (case c74 => k_is); (case k74 => k_is)
    intro D_end_of
    refine' Bx.with_def (x := "numbers_of") (st := Bx.s_numbers_of) KX G ?a75 ?l75 ?c75 ?k75 ?r75
    (case a75 => k_is); (case l75 => k_is); (case c75 => k_is); (case k75 => k_is)
    intro D_numbers_of
    refine' Bx.with_ans KX G hmg ?aZ ?lZ ?cZ ?kZ ?rZ
    (case aZ => k_is); (case lZ => k_is); (case cZ => k_is); (case kZ => k_is)
    intro fd hb FA
    exact ⟨fd, hb, fun base _ _ => Bx.finish T hSZ hSq MB FB MD FD MM FM D_area_count D_passage_count D_total_people D_answer_state D_is_form D_source_of D_gone D_leaving D_target_of D_travel_time_of D_arrived D_present D_keeps_people D_has_passage D_has_known_steps D_entering D_capacity_of D_keeps_capacities D_is_valid D_steps_of D_answer_is_valid D_evacuated D_answer_evacuated D_minute_answer D_is_capacity D_people_before D_crossings D_capacity_across D_cut_capacity D_cut_at D_cut_count D_smallest_cut D_has_exits D_min_cut D_max_evacuated D_earliest D_with_capacity D_building_with_capacity D_answer_if_capacity D_has_area D_building_with_people D_answer_if_people D_spare_people D_max_people D_answer_max_people D_counted D_limits_all D_is_limiting D_critical_passages D_answer_critical D_outgoing D_answer_outgoing D_last_query_answer D_reversed_passage D_reverse_passages D_add_area D_set_people D_set_exit D_is_travel_time D_add_passage D_remove_passage D_set_capacity D_edit_answer D_is_cut D_answer_cut_capacity D_list_areas D_list_passages D_answer_max_evacuated D_answer_min_remaining D_answer_earliest D_answer_min_cut D_first_query_answer D_list_place D_has_list D_end_of D_numbers_of FA⟩
  case S =>
    intro K H xs a hO hwi hask hx
    cases hx with
    | cons h1 h2 =>
      cases h2
      cases h1 with
      | lst hs ha =>
        have e := L2.ints_dw a.1 _ ha
        subst e
        have q : ((Codec.inLen 0 13100 a.1 && a.1.all (Codec.inInt 0 4294967295)) && true) = true := hwi
        rw [Bool.and_eq_true, Bool.and_eq_true] at q
        exact Bx.request hs (Codec.inNat_iff.mp q.1.1).2 (fun x hx => (Codec.inInt_iff.mp (List.all_eq_true.mp q.1.2 x hx)).1) hask fun p H' hp => .lst (L2.SqL.of hp) (L2.dw_ints _)
#print axioms PySem.Challenge.cw_buildingexits_s01_answers_holds
