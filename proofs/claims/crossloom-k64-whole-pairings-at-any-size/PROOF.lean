import PyProof.Rows.All
import Wide.All
import OpenK.AllK
import Wide.FinOn
import HandS.ForMost
import HandS.AnyAll
import HandS.EndTab
import HandS.GenOver
import PyProof.GenRules
import KE.GoesEnum
import HandS.DictTup
import HandS.ListItems
import HandS.SortInts
import HandS.TupLen
import KE.KDictKeyed
import HandS.Style
import HandS.Conv
import HandS.More
import HandS.HeadWalk
import KE.KNestM
import PySem.Challenge.RW_crossloom_k64_whole_pairings_at_any_size
set_option Elab.async false
set_option linter.all false
set_option maxHeartbeats 2000000
/-! Mathematics: lists as functions, permutations. -/
namespace CL
/-- the i-th item -/
def gt (l : List Nat) (i : Nat) : Nat := l.getD i 0
theorem gt_of {l : List Nat} {i x : Nat} (h : l[i]? = some x) : gt l i = x := by
  unfold gt; rw [List.getD_eq_getElem?_getD, h]; rfl
theorem some_gt {l : List Nat} {i : Nat} (h : i < l.length) : l[i]? = some (gt l i) := by
  unfold gt; rw [List.getD_eq_getElem?_getD, List.getElem?_eq_getElem h]; rfl
theorem gt_map {l : List Nat} {f : Nat → Nat} {i : Nat} (h : i < l.length) : gt (l.map f) i = f (gt l i) := by
  refine gt_of ?_
  rw [List.getElem?_map, some_gt h]; rfl
theorem gt_range {n i : Nat} (h : i < n) : gt (List.range n) i = i := by
  refine gt_of ?_
  rw [List.getElem?_range h]
theorem gt_mem {l : List Nat} {i : Nat} (h : i < l.length) : gt l i ∈ l := List.mem_of_getElem? (some_gt h)
theorem mem_gt {l : List Nat} {x : Nat} (h : x ∈ l) : ∃ i, i < l.length ∧ gt l i = x := by
  obtain ⟨i, hi⟩ := List.mem_iff_getElem?.mp h
  exact ⟨i, (List.getElem?_eq_some_iff.mp hi).1, gt_of hi⟩
theorem gt_app1 {l m : List Nat} {i : Nat} (h : i < l.length) : gt (l ++ m) i = gt l i := by
  refine gt_of ?_
  rw [List.getElem?_append_left h, some_gt h]
theorem gt_app2 {l m : List Nat} {i : Nat} (h : i < m.length) : gt (l ++ m) (l.length + i) = gt m i := by
  refine gt_of ?_
  rw [List.getElem?_append_right (Nat.le_add_right _ _), Nat.add_sub_cancel_left, some_gt h]
theorem ext_gt {l m : List Nat} (hl : l.length = m.length) (h : ∀ i, i < l.length → gt l i = gt m i) : l = m := by
  refine List.ext_getElem? fun i => ?_
  by_cases hi : i < l.length
  · rw [some_gt hi, some_gt (by omega), h i hi]
  · rw [List.getElem?_eq_none (by omega), List.getElem?_eq_none (by omega)]
/-- a permutation of 0 .. length - 1 -/
structure PermL (n : Nat) (l : List Nat) : Prop where
  len : l.length = n
  lt : ∀ i, i < n → gt l i < n
  inj : ∀ i j, i < n → j < n → gt l i = gt l j → i = j
theorem nodup_of_inj {l : List Nat} (inj : ∀ i j, i < l.length → j < l.length → gt l i = gt l j → i = j) : l.Nodup := by
  refine List.nodup_iff_pairwise_ne.mpr (List.pairwise_iff_getElem.mpr fun i j hi hj hij e => ?_)
  have := inj i j hi hj (by rw [gt_of (List.getElem?_eq_getElem hi), gt_of (List.getElem?_eq_getElem hj)]; exact e)
  omega
theorem inj_of_nodup {l : List Nat} (h : l.Nodup) : ∀ i j, i < l.length → j < l.length → gt l i = gt l j → i = j := fun i j hi hj e => by
  have h1 := gt_of (List.getElem?_eq_getElem hi)
  have h2 := gt_of (List.getElem?_eq_getElem hj)
  exact (List.getElem_inj h).mp (by rw [← h1, ← h2]; exact e)
theorem PermL.nodup {n : Nat} {l : List Nat} (p : PermL n l) : l.Nodup := nodup_of_inj (by rw [p.len]; exact p.inj)
theorem PermL.of {n : Nat} {l : List Nat} (hl : l.length = n) (h1 : l.Nodup) (h2 : ∀ x ∈ l, x < n) : PermL n l :=
  ⟨hl, fun i hi => h2 _ (gt_mem (by omega)), by rw [← hl]; exact inj_of_nodup h1⟩
theorem PermL.all {n : Nat} {l : List Nat} (p : PermL n l) : ∀ x ∈ l, x < n := fun x hx => by
  obtain ⟨i, hi, e⟩ := mem_gt hx
  rw [← e]; exact p.lt i (by rw [← p.len]; exact hi)
/-- no more different items than room -/
theorem pigeon {l m : List Nat} (h : l.Nodup) (hs : ∀ x ∈ l, x ∈ m) : l.length ≤ m.length := List.Nodup.length_le_of_subset h hs
theorem PermL.sur {n : Nat} {l : List Nat} (p : PermL n l) : ∀ x, x < n → ∃ i, i < n ∧ gt l i = x := fun x hx => by
  by_cases h : x ∈ l
  · obtain ⟨i, hi, e⟩ := mem_gt h
    exact ⟨i, by rw [← p.len]; exact hi, e⟩
  · exfalso
    have h1 := pigeon p.nodup (m := (List.range n).erase x) fun y hy => by
      refine (List.mem_erase_of_ne (fun e => h (by rw [← e]; exact hy))).mpr ?_
      exact List.mem_range.mpr (p.all y hy)
    rw [List.length_erase_of_mem (List.mem_range.mpr hx), p.len, List.length_range] at h1
    omega
theorem PermL.range (n : Nat) : PermL n (List.range n) := ⟨List.length_range, fun i hi => by rw [gt_range hi]; exact hi, fun i j hi hj e => by rw [gt_range hi, gt_range hj] at e; exact e⟩
theorem PermL.perm {n : Nat} {l : List Nat} (p : PermL n l) : l.Perm (List.range n) :=
  (List.perm_ext_iff_of_nodup p.nodup List.nodup_range).mpr fun x => ⟨fun h => List.mem_range.mpr (p.all x h), fun h => by
    obtain ⟨i, hi, e⟩ := p.sur x (List.mem_range.mp h)
    rw [← e]; exact gt_mem (by rw [p.len]; exact hi)⟩
/-- r is l turned over -/
structure InvL (n : Nat) (l r : List Nat) : Prop where
  len : r.length = n
  at_ : ∀ i, i < n → gt r (gt l i) = i
theorem InvL.back {n : Nat} {l r : List Nat} (p : PermL n l) (v : InvL n l r) : ∀ x, x < n → gt r x < n ∧ gt l (gt r x) = x := fun x hx => by
  obtain ⟨i, hi, e⟩ := p.sur x hx
  rw [← e, v.at_ i hi]
  exact ⟨hi, rfl⟩
theorem InvL.perm {n : Nat} {l r : List Nat} (p : PermL n l) (v : InvL n l r) : PermL n r :=
  ⟨v.len, fun x hx => (v.back p x hx).1, fun x y hx hy e => by
    have h1 := (v.back p x hx).2
    rw [e, (v.back p y hy).2] at h1
    exact h1.symm⟩
/-- the other gate of the switch -/
def pt (g : Nat) : Nat := if g % 2 = 0 then g + 1 else g - 1
theorem pt_pt (g : Nat) : pt (pt g) = g := by unfold pt; split <;> split <;> omega
theorem pt_ne (g : Nat) : pt g ≠ g := by unfold pt; split <;> omega
theorem pt_div (g : Nat) : pt g / 2 = g / 2 := by unfold pt; split <;> omega
theorem pt_lt {n g : Nat} (hn : n % 2 = 0) (h : g < n) : pt g < n := by unfold pt; split <;> omega
theorem pt_of_div {g h : Nat} (e : g / 2 = h / 2) (ne : g ≠ h) : g = pt h := by unfold pt; split <;> omega
theorem pt_int (g : Nat) : (g : Int) + 1 - 2 * ((g : Int) % 2) = ((pt g : Nat) : Int) := by unfold pt; split <;> omega
end CL
set_option Elab.async false
set_option linter.all false
set_option maxHeartbeats 2000000
/-! Mathematics: halves, counting. -/
namespace CL
/-- a function changed at one place -/
def fset {α : Type} (f : Nat → α) (i : Nat) (v : α) : Nat → α := fun x => if x = i then v else f x
theorem fset_same {α : Type} {f : Nat → α} {i : Nat} {v : α} : fset f i v i = v := if_pos rfl
theorem fset_ne {α : Type} {f : Nat → α} {i x : Nat} {v : α} (h : x ≠ i) : fset f i v x = f x := if_neg h
/-- how many of the first n have no value -/
def nones (n : Nat) (f : Nat → Option Nat) : Nat := ((List.range n).filter fun x => (f x).isNone).length
theorem nones_le (n : Nat) (f : Nat → Option Nat) : nones n f ≤ n := by
  unfold nones
  refine Nat.le_trans (List.length_filter_le _ _) ?_
  simp
theorem filter_len_le {α : Type} (p q : α → Bool) : ∀ l : List α, (∀ x ∈ l, p x = true → q x = true) → (l.filter p).length ≤ (l.filter q).length
  | [], _ => Nat.le_refl _
  | x :: l, h => by
    have ih := filter_len_le p q l fun y hy => h y (List.mem_cons_of_mem _ hy)
    have hx := h x List.mem_cons_self
    cases hp : p x <;> cases hq : q x <;> simp [List.filter_cons, hp, hq] <;> first | omega | (rw [hp] at hx; rw [hq] at hx; exact absurd (hx rfl) (by simp)) | skip
theorem filter_len_lt {α : Type} (p q : α → Bool) : ∀ l : List α, (∀ x ∈ l, p x = true → q x = true) → (∃ x ∈ l, p x = false ∧ q x = true) → (l.filter p).length < (l.filter q).length
  | [], _, ⟨_, h, _⟩ => nomatch h
  | x :: l, h, ⟨y, hy, h1, h2⟩ => by
    have ih := filter_len_le p q l fun z hz => h z (List.mem_cons_of_mem _ hz)
    have hx := h x List.mem_cons_self
    rcases List.mem_cons.mp hy with e | hy
    · subst e
      simp [List.filter_cons, h1, h2]; omega
    · have ih2 := filter_len_lt p q l (fun z hz => h z (List.mem_cons_of_mem _ hz)) ⟨y, hy, h1, h2⟩
      cases hp : p x <;> cases hq : q x <;> simp [List.filter_cons, hp, hq] <;> first | omega | (rw [hp] at hx; rw [hq] at hx; exact absurd (hx rfl) (by simp)) | skip
theorem nones_set {n i : Nat} {f : Nat → Option Nat} {v : Nat} (hi : i < n) (h : f i = none) : nones n (fset f i (some v)) < nones n f := by
  unfold nones
  refine filter_len_lt _ _ _ (fun x _ hx => ?_) ⟨i, List.mem_range.mpr hi, by rw [fset_same]; rfl, by rw [h]; rfl⟩
  by_cases e : x = i
  · subst e; rw [fset_same] at hx; cases hx
  · rw [fset_ne e] at hx; exact hx
/-- σ: a pairing of the numbers below n without a fixed one -/
structure Flip (n : Nat) (s : Nat → Nat) : Prop where
  lt : ∀ x, x < n → s x < n
  inv : ∀ x, x < n → s (s x) = x
  ne : ∀ x, x < n → s x ≠ x
theorem flip_pt {n : Nat} (h : n % 2 = 0) : Flip n pt := ⟨fun x hx => pt_lt h hx, fun x _ => pt_pt x, fun x _ => pt_ne x⟩
theorem flip_back {n : Nat} {l r : List Nat} (p : PermL n l) (v : InvL n l r) (h : n % 2 = 0) : Flip n fun x => gt r (pt (gt l x)) := by
  refine ⟨fun x hx => (v.back p _ (pt_lt h (p.lt x hx))).1, fun x hx => ?_, fun x hx e => ?_⟩
  · show gt r (pt (gt l (gt r (pt (gt l x))))) = x
    rw [(v.back p _ (pt_lt h (p.lt x hx))).2, pt_pt, v.at_ x hx]
  · have e2 := (v.back p _ (pt_lt h (p.lt x hx))).2
    have e3 : gt r (pt (gt l x)) = x := e
    rw [e3] at e2
    exact pt_ne _ e2.symm
/-- partners have opposite values -/
def Opp (n : Nat) (s : Nat → Nat) (f : Nat → Option Nat) : Prop := ∀ x a, x < n → f x = some a → a ≤ 1 ∧ f (s x) = some (1 - a)
/-- within the loop -/
structure InH (n : Nat) (s : Nat → Nat) (start : Nat) (f : Nat → Option Nat) (here : Nat) : Prop where
  opp : Opp n pt f
  lt : here < n
  st : (Opp n s f ∧ here = start) ∨ (f start = some 0 ∧ f (s here) = some 1 ∧ (∀ x a, x < n → f x = some a → x ≠ start → x ≠ s here → f (s x) = some (1 - a)) ∧ (f here = none ∨ here = start))
theorem InH.step {n : Nat} {s : Nat → Nat} {start here : Nat} {f : Nat → Option Nat} (hs : Flip n s) (hn : n % 2 = 0) (I : InH n s start f here) (h : f here = none) :
    InH n s start (fset (fset f here (some 0)) (pt here) (some 1)) (s (pt here)) := by
  have hlt := I.lt
  have plt : pt here < n := pt_lt hn hlt
  have pn : f (pt here) = none := by
    cases e : f (pt here) with
    | none => rfl
    | some a =>
      have := (I.opp _ a plt e).2
      rw [pt_pt, h] at this; cases this
  have hpne : pt here ≠ here := pt_ne here
  have v1 : fset (fset f here (some 0)) (pt here) (some 1) (pt here) = some 1 := fset_same
  have v0 : fset (fset f here (some 0)) (pt here) (some 1) here = some 0 := by rw [fset_ne hpne.symm, fset_same]
  have vo : ∀ x, x ≠ here → x ≠ pt here → fset (fset f here (some 0)) (pt here) (some 1) x = f x := fun x h1 h2 => by rw [fset_ne h2, fset_ne h1]
  have vs : ∀ x a, f x = some a → fset (fset f here (some 0)) (pt here) (some 1) x = some a := fun x a e => by
    rw [vo x (fun z => by rw [z, h] at e; cases e) (fun z => by rw [z, pn] at e; cases e)]; exact e
  refine ⟨fun x a hx e => ?_, hs.lt _ plt, .inr ⟨?_, ?_, ?_, ?_⟩⟩
  · by_cases e1 : x = here
    · subst e1; rw [v0] at e; cases e; exact ⟨by omega, v1⟩
    · by_cases e2 : x = pt here
      · subst e2; rw [v1] at e; cases e; exact ⟨by omega, by rw [pt_pt]; exact v0⟩
      · rw [vo x e1 e2] at e
        exact ⟨(I.opp x a hx e).1, vs _ _ (I.opp x a hx e).2⟩
  · rcases I.st with ⟨_, e⟩ | ⟨e, _⟩
    · rw [← e]; exact v0
    · exact vs _ _ e
  · rw [hs.inv _ plt]; exact v1
  · intro x a hx e n1 n2
    rw [hs.inv _ plt] at n2
    by_cases e1 : x = here
    · subst e1
      rw [v0] at e; cases e
      rcases I.st with ⟨_, e⟩ | ⟨_, e, _⟩
      · exact absurd e n1
      · exact vs _ _ e
    · rw [vo x e1 n2] at e
      rcases I.st with ⟨o, _⟩ | ⟨_, e2, o, _⟩
      · exact vs _ _ (o x a hx e).2
      · by_cases e3 : x = s here
        · rw [e3, e2] at e
          cases e
          rw [e3, hs.inv _ hlt]; exact v0
        · exact vs _ _ (o x a hx e n1 e3)
  · by_cases q : s (pt here) = start
    · exact .inr q
    · refine .inl ?_
      have n1 : s (pt here) ≠ pt here := hs.ne _ plt
      by_cases n2 : s (pt here) = here
      · exfalso
        have n3 : s here = pt here := by rw [← n2, hs.inv _ plt]; rw [n2]
        rcases I.st with ⟨_, e⟩ | ⟨_, e, _⟩
        · rw [n2] at q; exact q e
        · rw [n3, pn] at e; cases e
      · rw [vo _ n2 n1]
        cases e : f (s (pt here)) with
        | none => rfl
        | some b =>
          exfalso
          rcases I.st with ⟨o, _⟩ | ⟨_, e2, o, _⟩
          · have := (o _ b (hs.lt _ plt) e).2
            rw [hs.inv _ plt, pn] at this; cases this
          · by_cases e3 : s (pt here) = s here
            · have := congrArg s e3
              rw [hs.inv _ plt, hs.inv _ hlt] at this
              exact hpne this
            · have := o _ b (hs.lt _ plt) e q e3
              rw [hs.inv _ plt, pn] at this; cases this
theorem InH.done {n : Nat} {s : Nat → Nat} {start here : Nat} {f : Nat → Option Nat} (hs : Flip n s) (I : InH n s start f here) (h : f here ≠ none) : Opp n pt f ∧ Opp n s f ∧ f start ≠ none := by
  refine ⟨I.opp, ?_⟩
  rcases I.st with ⟨o, e⟩ | ⟨e0, e1, o, e2⟩
  · exact ⟨o, by rw [← e]; exact h⟩
  · rcases e2 with e2 | e2
    · exact absurd e2 h
    · subst e2
      refine ⟨fun x a hx e => ⟨(I.opp x a hx e).1, ?_⟩, by rw [e0]; simp⟩
      by_cases n1 : x = here
      · subst n1
        rw [e0] at e; cases e; exact e1
      · by_cases n2 : x = s here
        · subst n2
          rw [e1] at e; cases e
          rw [hs.inv _ I.lt]; exact e0
        · exact o x a hx e n1 n2
theorem InH.start {n : Nat} {s : Nat → Nat} {start : Nat} {f : Nat → Option Nat} (o1 : Opp n pt f) (o2 : Opp n s f) (h : start < n) : InH n s start f start := ⟨o1, h, .inl ⟨o2, rfl⟩⟩
theorem InH.less {n : Nat} {s : Nat → Nat} {start here : Nat} {f : Nat → Option Nat} (hn : n % 2 = 0) (I : InH n s start f here) (h : f here = none) : nones n (fset (fset f here (some 0)) (pt here) (some 1)) < nones n f := by
  have plt : pt here < n := pt_lt hn I.lt
  have pn : f (pt here) = none := by
    cases e : f (pt here) with
    | none => rfl
    | some a =>
      have := (I.opp _ a plt e).2
      rw [pt_pt, h] at this; cases this
  have h1 := nones_set (v := 0) I.lt h
  have h2 := nones_set (n := n) (i := pt here) (f := fset f here (some 0)) (v := 1) plt (by rw [fset_ne (pt_ne here)]; exact pn)
  omega
/-- halves: values 0, 1; opposite at the partners in and out -/
structure IsHalf (n : Nat) (l : List Nat) (hf : List Nat) : Prop where
  len : hf.length = n
  le : ∀ x, x < n → gt hf x ≤ 1
  inn : ∀ x, x < n → gt hf (pt x) = 1 - gt hf x
  out : ∀ x y, x < n → y < n → gt l y = pt (gt l x) → gt hf y = 1 - gt hf x
end CL
set_option Elab.async false
set_option linter.all false
set_option maxHeartbeats 2000000
/-! Mathematics: the net that carries all pairings. -/
namespace CL
def swp (s : List Nat) (p : Nat) : Nat := if gt s (p / 2) = 1 then pt p else p
def run : List (List Nat) → List (List Nat) → Nat → List Nat
  | r :: rs, s :: ss, p => gt r (swp s p) :: run rs ss (gt r (swp s p))
  | _, _, _ => []
def fin : List (List Nat) → List (List Nat) → Nat → Nat
  | r :: rs, s :: ss, p => fin rs ss (gt r (swp s p))
  | _, _, p => p
def inH (row : List Nat) : List Nat := row ++ row.map fun x => row.length + x
def parted (m : Nat) : List Nat := (List.range (2 * m)).map fun p => p / 2 + p % 2 * m
def backP (m : Nat) : List Nat := (List.range (2 * m)).map fun z => 2 * (z % m) + z / m
def midR (rows : List (List Nat)) : List (List Nat) := rows.tail.dropLast
def netW : Nat → List (List Nat)
  | 0 => [List.range 2, List.range 2]
  | j + 1 => [List.range (2 ^ (j + 2)), (parted (2 ^ (j + 1))).map (gt (inH ((netW j).headD [])))] ++ (midR (netW j)).map inH ++ [(inH ((netW j).getLastD [])).map (gt (backP (2 ^ (j + 1)))), List.range (2 ^ (j + 2))]
theorem gt_tab {n i : Nat} {f : Nat → Nat} (h : i < n) : gt ((List.range n).map f) i = f i := by
  rw [gt_map (by simpa using h), gt_range h]
theorem len_tab {n : Nat} {f : Nat → Nat} : ((List.range n).map f).length = n := by simp
theorem gt_inH {m x s : Nat} {r : List Nat} (hl : r.length = m) (hx : x < m) (hs : s ≤ 1) : gt (inH r) (x + s * m) = gt r x + s * m := by
  unfold inH
  have : s = 0 ∨ s = 1 := by omega
  rcases this with e | e
  · subst e
    rw [Nat.zero_mul, Nat.add_zero, gt_app1 (by omega)]; omega
  · subst e
    rw [Nat.one_mul, Nat.add_comm x m]
    have := gt_app2 (l := r) (m := r.map fun x => r.length + x) (i := x) (by simp; omega)
    rw [hl] at this
    rw [hl, this, gt_map (by omega)]
    omega
theorem inH_len {m : Nat} {r : List Nat} (hl : r.length = m) : (inH r).length = 2 * m := by unfold inH; simp; omega
theorem split_lt {m z : Nat} (h : z < 2 * m) : ∃ x s, x < m ∧ s ≤ 1 ∧ z = x + s * m := by
  by_cases q : z < m
  · exact ⟨z, 0, q, by omega, by omega⟩
  · exact ⟨z - m, 1, by omega, by omega, by omega⟩
theorem split_inj {m x s y t : Nat} (hx : x < m) (hs : s ≤ 1) (hy : y < m) (ht : t ≤ 1) (e : x + s * m = y + t * m) : x = y ∧ s = t := by
  have h1 : s = 0 ∨ s = 1 := by omega
  have h2 : t = 0 ∨ t = 1 := by omega
  rcases h1 with rfl | rfl <;> rcases h2 with rfl | rfl <;> omega
theorem split_lt2 {m x s : Nat} (hx : x < m) (hs : s ≤ 1) : x + s * m < 2 * m := by
  have h1 : s = 0 ∨ s = 1 := by omega
  rcases h1 with rfl | rfl <;> omega
theorem inH_perm {m : Nat} {r : List Nat} (p : PermL m r) : PermL (2 * m) (inH r) := by
  refine ⟨inH_len p.len, fun z hz => ?_, fun z z' hz hz' e => ?_⟩
  · obtain ⟨x, s, hx, hs, rfl⟩ := split_lt hz
    rw [gt_inH p.len hx hs]
    exact split_lt2 (p.lt x hx) hs
  · obtain ⟨x, s, hx, hs, rfl⟩ := split_lt hz
    obtain ⟨y, t, hy, ht, rfl⟩ := split_lt hz'
    rw [gt_inH p.len hx hs, gt_inH p.len hy ht] at e
    obtain ⟨e1, e2⟩ := split_inj (p.lt x hx) hs (p.lt y hy) ht e
    rw [p.inj x y hx hy e1, e2]
theorem gt_parted {m p : Nat} (h : p < 2 * m) : gt (parted m) p = p / 2 + p % 2 * m := gt_tab h
theorem gt_backP {m x s : Nat} (hx : x < m) (hs : s ≤ 1) : gt (backP m) (x + s * m) = 2 * x + s := by
  unfold backP
  rw [gt_tab (split_lt2 hx hs)]
  have h1 : s = 0 ∨ s = 1 := by omega
  rcases h1 with rfl | rfl
  · rw [Nat.zero_mul, Nat.add_zero, Nat.mod_eq_of_lt hx, Nat.div_eq_of_lt hx]
  · rw [Nat.one_mul, Nat.add_mod_right, Nat.mod_eq_of_lt hx, Nat.add_div_right x (by omega), Nat.div_eq_of_lt hx]
theorem parted_perm (m : Nat) : PermL (2 * m) (parted m) := by
  refine ⟨len_tab, fun p hp => ?_, fun p q hp hq e => ?_⟩
  · rw [gt_parted hp]
    exact split_lt2 (by omega) (by omega)
  · rw [gt_parted hp, gt_parted hq] at e
    obtain ⟨e1, e2⟩ := split_inj (by omega) (by omega) (by omega) (by omega) e
    omega
theorem back_inv (m : Nat) : InvL (2 * m) (parted m) (backP m) := ⟨len_tab, fun p hp => by
  rw [gt_parted hp, gt_backP (by omega) (by omega)]
  omega⟩
theorem back_perm (m : Nat) : PermL (2 * m) (backP m) := (back_inv m).perm (parted_perm m)
theorem inv_unique {n : Nat} {l r r' : List Nat} (p : PermL n l) (v : InvL n l r) (v' : InvL n l r') : r = r' := by
  refine ext_gt (by rw [v.len, v'.len]) fun x hx => ?_
  rw [v.len] at hx
  obtain ⟨i, hi, e⟩ := p.sur x hx
  rw [← e, v.at_ i hi, v'.at_ i hi]
/-- composition -/
theorem perm_map {n : Nat} {l r : List Nat} (p : PermL n l) (q : PermL n r) : PermL n (l.map (gt r)) := by
  have hg : ∀ i, i < n → gt (l.map (gt r)) i = gt r (gt l i) := fun i hi => gt_map (by rw [p.len]; exact hi)
  refine ⟨by rw [List.length_map, p.len], fun i hi => ?_, fun i j hi hj e => ?_⟩
  · rw [hg i hi]; exact q.lt _ (p.lt i hi)
  · rw [hg i hi, hg j hj] at e
    exact p.inj i j hi hj (q.inj _ _ (p.lt i hi) (p.lt j hj) e)
theorem mid_mem {rows : List (List Nat)} {r : List Nat} (h : r ∈ midR rows) : r ∈ rows := List.mem_of_mem_tail (List.dropLast_subset _ h)
theorem head_mem {rows : List (List Nat)} (h : rows ≠ []) : rows.headD [] ∈ rows := by
  cases rows with
  | nil => exact absurd rfl h
  | cons r rs => exact List.mem_cons_self
theorem last_mem {rows : List (List Nat)} (h : rows ≠ []) : rows.getLastD [] ∈ rows := by
  cases rows with
  | nil => exact absurd rfl h
  | cons r rs =>
    rw [List.getLastD_cons]
    rw [← List.getLast_eq_getLastD]
    · exact List.getLast_mem _
    · exact h
theorem netW_len (j : Nat) : (netW j).length = 2 * (j + 1) := by
  induction j with
  | zero => rfl
  | succ j ih =>
    unfold netW midR
    simp only [List.length_append, List.length_cons, List.length_nil, List.length_map, List.length_dropLast, List.length_tail, ih]
    omega
theorem netW_ne (j : Nat) : netW j ≠ [] := fun e => by
  have := netW_len j
  rw [e] at this
  simp at this
theorem netW_perm (j : Nat) : ∀ r ∈ netW j, PermL (2 ^ (j + 1)) r := by
  induction j with
  | zero =>
    intro r hr
    have : r = List.range 2 := by simpa [netW] using hr
    subst this
    exact PermL.range 2
  | succ j ih =>
    intro r hr
    have e2 : 2 ^ (j + 2) = 2 * 2 ^ (j + 1) := by rw [Nat.pow_succ]; omega
    unfold netW at hr
    simp only [List.mem_append, List.mem_cons, List.not_mem_nil, or_false, List.mem_map] at hr
    rw [e2] at hr ⊢
    rcases hr with ((rfl | rfl) | ⟨q, hq, rfl⟩) | (rfl | rfl)
    · exact PermL.range _
    · exact perm_map (parted_perm _) (inH_perm (ih _ (head_mem (netW_ne j))))
    · exact inH_perm (ih _ (mid_mem hq))
    · exact perm_map (inH_perm (ih _ (last_mem (netW_ne j)))) (back_perm _)
    · exact PermL.range _
/-- the settings of a pairing -/
structure SubL (m s : Nat) (l hf ls : List Nat) : Prop where
  len : ls.length = m
  at_ : ∀ g, g < 2 * m → gt hf g = s → gt ls (g / 2) = gt l g / 2
def IsSet : Nat → List Nat → List (List Nat) → Prop
  | 0, l, S => S = [[gt l 0]]
  | j + 1, l, S => ∃ (hf r l0 l1 : List Nat) (S0 S1 : List (List Nat)), IsHalf (2 ^ (j + 2)) l hf ∧ InvL (2 ^ (j + 2)) l r ∧ SubL (2 ^ (j + 1)) 0 l hf l0 ∧ SubL (2 ^ (j + 1)) 1 l hf l1 ∧ IsSet j l0 S0 ∧ IsSet j l1 S1 ∧
      S = [(List.range (2 ^ (j + 1))).map fun p => gt hf (2 * p)] ++ List.zipWith (· ++ ·) S0 S1 ++ [(List.range (2 ^ (j + 1))).map fun p => gt hf (gt r (2 * p))]
theorem half_at {n m s x : Nat} {l hf : List Nat} (hn : n = 2 * m) (h : IsHalf n l hf) (hs : s ≤ 1) (hx : x < m) : ∃ g, g < n ∧ g / 2 = x ∧ gt hf g = s := by
  by_cases q : gt hf (2 * x) = s
  · exact ⟨2 * x, by omega, by omega, q⟩
  · have h1 := h.le (2 * x) (by omega)
    have h2 := h.inn (2 * x) (by omega)
    have e : pt (2 * x) = 2 * x + 1 := by unfold pt; rw [if_pos (by omega)]
    rw [e] at h2
    exact ⟨2 * x + 1, by omega, by omega, by omega⟩
theorem sub_perm {n m s : Nat} {l hf ls : List Nat} (hn : n = 2 * m) (p : PermL n l) (h : IsHalf n l hf) (hs : s ≤ 1) (u : SubL m s l hf ls) : PermL m ls := by
  refine ⟨u.len, fun x hx => ?_, fun x y hx hy e => ?_⟩
  · obtain ⟨g, hg, e1, e2⟩ := half_at hn h hs hx
    have := u.at_ g (by omega) e2
    rw [← e1, this]
    have := p.lt g hg
    omega
  · obtain ⟨g, hg, e1, e2⟩ := half_at hn h hs hx
    obtain ⟨g', hg', e1', e2'⟩ := half_at hn h hs hy
    have a1 := u.at_ g (by omega) e2
    have a2 := u.at_ g' (by omega) e2'
    rw [e1] at a1
    rw [e1'] at a2
    rw [a1, a2] at e
    by_cases q : gt l g = gt l g'
    · rw [← e1, ← e1', p.inj g g' hg hg' q]
    · exfalso
      have := h.out g g' hg hg' (pt_of_div e.symm fun z => q z.symm)
      omega
theorem set_facts (j : Nat) : ∀ (l : List Nat) (S : List (List Nat)), PermL (2 ^ (j + 1)) l → IsSet j l S → S.length = 2 * j + 1 ∧ ∀ s ∈ S, s.length = 2 ^ j ∧ ∀ x ∈ s, x ≤ 1 := by
  induction j with
  | zero =>
    intro l S p h
    have h : S = [[gt l 0]] := h
    subst h
    refine ⟨rfl, fun s hs => ?_⟩
    have : s = [gt l 0] := by simpa using hs
    subst this
    refine ⟨rfl, fun x hx => ?_⟩
    have : x = gt l 0 := by simpa using hx
    subst this
    have := p.lt 0 (by decide)
    have e2 : (2 : Nat) ^ (0 + 1) = 2 := rfl
    omega
  | succ j ih =>
    intro l S p h
    obtain ⟨hf, r, l0, l1, S0, S1, hh, hr, u0, u1, i0, i1, rfl⟩ := h
    have e2 : 2 ^ (j + 2) = 2 * 2 ^ (j + 1) := by rw [Nat.pow_succ]; omega
    have e1 : 2 ^ (j + 1) = 2 * 2 ^ j := by rw [Nat.pow_succ]; omega
    have p' : PermL (2 ^ (j + 2)) l := p
    obtain ⟨a0, b0⟩ := ih l0 S0 (sub_perm e2 p' hh (by omega) u0) i0
    obtain ⟨a1, b1⟩ := ih l1 S1 (sub_perm e2 p' hh (by omega) u1) i1
    refine ⟨by simp [a0, a1]; omega, fun s hs => ?_⟩
    simp only [List.mem_append, List.mem_singleton] at hs
    rcases hs with (rfl | hs) | rfl
    · refine ⟨len_tab, fun x hx => ?_⟩
      obtain ⟨q, hq, rfl⟩ := List.mem_map.mp hx
      have := List.mem_range.mp hq
      exact hh.le _ (by omega)
    · obtain ⟨i, hi⟩ := List.mem_iff_getElem?.mp hs
      rw [List.getElem?_zipWith] at hi
      cases h0 : S0[i]? with
      | none => rw [h0] at hi; simp at hi
      | some x0 =>
        cases h1 : S1[i]? with
        | none => rw [h0, h1] at hi; simp at hi
        | some x1 =>
          rw [h0, h1] at hi
          have e : x0 ++ x1 = s := by simpa using hi
          subst e
          obtain ⟨c0, d0⟩ := b0 x0 (List.mem_of_getElem? h0)
          obtain ⟨c1, d1⟩ := b1 x1 (List.mem_of_getElem? h1)
          refine ⟨by rw [List.length_append]; omega, fun x hx => ?_⟩
          rcases List.mem_append.mp hx with q | q
          · exact d0 x q
          · exact d1 x q
    · refine ⟨len_tab, fun x hx => ?_⟩
      obtain ⟨q, hq, rfl⟩ := List.mem_map.mp hx
      have := List.mem_range.mp hq
      exact hh.le _ (hr.back p' (2 * q) (by omega)).1
theorem pt_add {m x s : Nat} (hm : m % 2 = 0) : pt (x + s * m) = pt x + s * m := by
  have h : (x + s * m) % 2 = x % 2 := by
    rw [Nat.add_mod, Nat.mul_mod, hm]; simp
  unfold pt
  rw [h]
  split
  · omega
  · have : x % 2 = 1 := by omega
    omega
theorem swp_app {m x s : Nat} {z0 z1 : List Nat} (hm : m % 2 = 0) (hx : x < m) (hs : s ≤ 1) (h0 : z0.length = m / 2) (h1 : z1.length = m / 2) :
    swp (z0 ++ z1) (x + s * m) = swp (if s = 0 then z0 else z1) x + s * m := by
  have h : s = 0 ∨ s = 1 := by omega
  have key : gt (z0 ++ z1) ((x + s * m) / 2) = gt (if s = 0 then z0 else z1) (x / 2) := by
    rcases h with rfl | rfl
    · rw [if_pos rfl, Nat.zero_mul, Nat.add_zero, gt_app1 (by omega)]
    · rw [if_neg (by omega), Nat.one_mul]
      have : (x + m) / 2 = z0.length + x / 2 := by omega
      rw [this, gt_app2 (by omega)]
  unfold swp
  rw [key, pt_add hm]
  by_cases c : gt (if s = 0 then z0 else z1) (x / 2) = 1
  · rw [if_pos c, if_pos c]
  · rw [if_neg c, if_neg c]
theorem swp_lt {n p : Nat} {s : List Nat} (hn : n % 2 = 0) (h : p < n) : swp s p < n := by
  unfold swp
  split
  · exact pt_lt hn h
  · exact h
theorem fin_app {rs ss : List (List Nat)} (rs' ss' : List (List Nat)) (p : Nat) (h : rs.length = ss.length) : fin (rs ++ rs') (ss ++ ss') p = fin rs' ss' (fin rs ss p) := by
  induction rs generalizing ss p with
  | nil =>
    cases ss with
    | nil => rfl
    | cons _ _ => simp at h
  | cons r rs ih =>
    cases ss with
    | nil => simp at h
    | cons s ss => exact ih _ (by simpa using h)
theorem fin_lt {n : Nat} (hn : n % 2 = 0) {rs : List (List Nat)} (hr : ∀ r ∈ rs, PermL n r) : ∀ (ss : List (List Nat)) (p : Nat), p < n → fin rs ss p < n := by
  induction rs with
  | nil => intro ss p h; cases ss <;> exact h
  | cons r rs ih =>
    intro ss p h
    cases ss with
    | nil => exact h
    | cons s ss => exact ih (fun q hq => hr q (List.mem_cons_of_mem _ hq)) ss _ ((hr r List.mem_cons_self).lt _ (swp_lt hn h))
theorem fin_mid {m : Nat} (hm : m % 2 = 0) (bk : Nat → Nat) (r : List Nat) : ∀ (rs : List (List Nat)) (S0 S1 : List (List Nat)), (∀ q ∈ r :: rs, PermL m q) → S0.length = rs.length + 1 → S1.length = rs.length + 1 → (∀ s ∈ S0, s.length = m / 2) → (∀ s ∈ S1, s.length = m / 2) → ∀ (x s : Nat), x < m → s ≤ 1 →
    fin (((r :: rs).dropLast).map inH ++ [(inH ((r :: rs).getLastD [])).map bk]) (List.zipWith (· ++ ·) S0 S1) (x + s * m) = bk (fin (r :: rs) (if s = 0 then S0 else S1) x + s * m) := by
  intro rs
  induction rs generalizing r with
  | nil =>
    intro S0 S1 hp l0 l1 c0 c1 x s hx hs
    match S0, S1, l0, l1 with
    | [z0], [z1], _, _ =>
      have pr := hp r List.mem_cons_self
      show gt ((inH r).map bk) (swp (z0 ++ z1) (x + s * m)) = _
      rw [swp_app hm hx hs (c0 z0 (by simp)) (c1 z1 (by simp))]
      have hl := swp_lt (s := if s = 0 then z0 else z1) hm hx
      rw [gt_map (by rw [inH_len pr.len]; exact split_lt2 hl hs), gt_inH pr.len hl hs]
      have h : s = 0 ∨ s = 1 := by omega
      rcases h with rfl | rfl
      · rfl
      · rfl
  | cons r' rs ih =>
    intro S0 S1 hp l0 l1 c0 c1 x s hx hs
    match S0, S1, l0, l1 with
    | z0 :: S0, z1 :: S1, l0, l1 =>
      have pr := hp r List.mem_cons_self
      have hl := swp_lt (s := if s = 0 then z0 else z1) hm hx
      have := ih r' S0 S1 (fun q hq => hp q (List.mem_cons_of_mem _ hq)) (by simpa using l0) (by simpa using l1) (fun q hq => c0 q (List.mem_cons_of_mem _ hq)) (fun q hq => c1 q (List.mem_cons_of_mem _ hq)) (gt r (swp (if s = 0 then z0 else z1) x)) s (pr.lt _ hl) hs
      show fin (((r' :: rs).dropLast).map inH ++ [(inH ((r' :: rs).getLastD [])).map bk]) (List.zipWith (· ++ ·) S0 S1) (gt (inH r) (swp (z0 ++ z1) (x + s * m))) = _
      rw [swp_app hm hx hs (c0 z0 (by simp)) (c1 z1 (by simp)), gt_inH pr.len hl hs, this]
      have h : s = 0 ∨ s = 1 := by omega
      rcases h with rfl | rfl
      · rfl
      · rfl
theorem carried_all (j : Nat) : ∀ (l : List Nat) (S : List (List Nat)), PermL (2 ^ (j + 1)) l → IsSet j l S → ∀ g, g < 2 ^ (j + 1) → fin (netW j).tail S (gt ((netW j).headD []) g) = gt l g := by
  induction j with
  | zero =>
    intro l S p h g hg
    have h : S = [[gt l 0]] := h
    subst h
    have hg : g < 2 := hg
    have e2 : (2 : Nat) ^ (0 + 1) = 2 := rfl
    have h0 := p.lt 0 (by decide)
    have h1 := p.lt 1 (by decide)
    have ne : gt l 0 ≠ gt l 1 := fun e => absurd (p.inj 0 1 (by decide) (by decide) e) (by decide)
    show gt (List.range 2) (swp [gt l 0] (gt (List.range 2) g)) = gt l g
    rw [gt_range hg, gt_range (swp_lt (n := 2) rfl hg)]
    have hd : g / 2 = 0 := by omega
    unfold swp
    rw [hd]
    have hv : gt [gt l 0] 0 = gt l 0 := rfl
    rw [hv]
    have : g = 0 ∨ g = 1 := by omega
    rcases this with rfl | rfl
    · split
      · show 1 = _; omega
      · omega
    · split
      · show 0 = _; omega
      · omega
  | succ j ih =>
    intro l S p h g hg
    obtain ⟨hf, r, l0, l1, S0, S1, hh, hr, u0, u1, i0, i1, rfl⟩ := h
    have e2 : 2 ^ (j + 2) = 2 * 2 ^ (j + 1) := by rw [Nat.pow_succ]; omega
    have e1 : 2 ^ (j + 1) = 2 * 2 ^ j := by rw [Nat.pow_succ]; omega
    generalize hm : 2 ^ (j + 1) = m at *
    have hme : m % 2 = 0 := by omega
    have hn2 : 2 ^ (j + 1 + 1) = 2 * m := e2
    have p' : PermL (2 * m) l := by rw [← e2]; exact p
    rw [e2] at hh hr
    rw [hn2] at hg
    have q0 := sub_perm rfl p' hh (by omega) u0
    have q1 := sub_perm rfl p' hh (by omega) u1
    have f0 := set_facts j l0 S0 (by rw [hm]; exact q0) i0
    have f1 := set_facts j l1 S1 (by rw [hm]; exact q1) i1
    have hmj : m / 2 = 2 ^ j := by omega
    -- the inner net
    have np := netW_perm j
    rw [hm] at np
    have nl := netW_len j
    obtain ⟨r0, r1, rs, en⟩ : ∃ r0 r1 rs, netW j = r0 :: r1 :: rs := by
      match h : netW j with
      | [] => rw [h] at nl; simp at nl
      | [_] => rw [h] at nl; simp at nl; omega
      | r0 :: r1 :: rs => exact ⟨r0, r1, rs, rfl⟩
    have en2 : netW (j + 1) = [List.range (2 * m), (parted m).map (gt (inH r0))] ++ ((r1 :: rs).dropLast).map inH ++ [(inH ((r1 :: rs).getLastD [])).map (gt (backP m)), List.range (2 * m)] := by
      show [List.range (2 ^ (j + 2)), (parted (2 ^ (j + 1))).map (gt (inH ((netW j).headD [])))] ++ (midR (netW j)).map inH ++ [(inH ((netW j).getLastD [])).map (gt (backP (2 ^ (j + 1)))), List.range (2 ^ (j + 2))] = _
      rw [hm, e2, en]
      rfl
    rw [en2]
    rw [en] at np nl
    have p0 := np r0 List.mem_cons_self
    have lt : gt hf g ≤ 1 := hh.le g hg
    show fin ((parted m).map (gt (inH r0)) :: (((r1 :: rs).dropLast).map inH ++ [(inH ((r1 :: rs).getLastD [])).map (gt (backP m)), List.range (2 * m)])) _ (gt (List.range (2 * m)) g) = gt l g
    rw [gt_range hg]
    -- the first stage
    have hsw : swp ((List.range m).map fun p => gt hf (2 * p)) g = 2 * (g / 2) + gt hf g := by
      unfold swp
      rw [gt_tab (by omega)]
      by_cases ge : g % 2 = 0
      · have e : 2 * (g / 2) = g := by omega
        rw [e]
        have : pt g = g + 1 := by unfold pt; rw [if_pos ge]
        split <;> omega
      · have e : 2 * (g / 2) + 1 = g := by omega
        have ep : pt (2 * (g / 2)) = g := by unfold pt; rw [if_pos (by omega)]; omega
        have := hh.inn (2 * (g / 2)) (by omega)
        rw [ep] at this
        have hx := hh.le (2 * (g / 2)) (by omega)
        have e3 : pt g = g - 1 := by unfold pt; rw [if_neg ge]
        split <;> omega
    show fin (((r1 :: rs).dropLast).map inH ++ [(inH ((r1 :: rs).getLastD [])).map (gt (backP m)), List.range (2 * m)]) (List.zipWith (· ++ ·) S0 S1 ++ [(List.range m).map fun p => gt hf (gt r (2 * p))]) (gt ((parted m).map (gt (inH r0))) (swp ((List.range m).map fun p => gt hf (2 * p)) g)) = gt l g
    have hg2 : g / 2 < m := by omega
    have hlt2 : 2 * (g / 2) + gt hf g < 2 * m := by omega
    rw [hsw, gt_map (by rw [(parted_perm m).len]; exact hlt2), gt_parted hlt2]
    have ed : (2 * (g / 2) + gt hf g) / 2 = g / 2 := by omega
    have em : (2 * (g / 2) + gt hf g) % 2 = gt hf g := by omega
    rw [ed, em, gt_inH p0.len hg2 lt]
    -- the inner nets and the last wires
    have eq3 : (((r1 :: rs).dropLast).map inH ++ [(inH ((r1 :: rs).getLastD [])).map (gt (backP m)), List.range (2 * m)]) = (((r1 :: rs).dropLast).map inH ++ [(inH ((r1 :: rs).getLastD [])).map (gt (backP m))]) ++ [List.range (2 * m)] := by simp
    have hlen : rs.length + 1 = 2 * j + 1 := by simp at nl; omega
    rw [eq3, fin_app _ _ _ (by simp [f0.1, f1.1]; omega), fin_mid hme (gt (backP m)) r1 rs S0 S1 (fun q hq => np q (List.mem_cons_of_mem _ hq)) (by rw [f0.1, hlen]) (by rw [f1.1, hlen]) (fun s hs => by rw [(f0.2 s hs).1, hmj]) (fun s hs => by rw [(f1.2 s hs).1, hmj]) _ _ (p0.lt _ hg2) lt]
    have hy : fin (r1 :: rs) (if gt hf g = 0 then S0 else S1) (gt r0 (g / 2)) = gt l g / 2 := by
      have c : gt hf g = 0 ∨ gt hf g = 1 := by omega
      rcases c with c | c
      · rw [if_pos c]
        have := ih l0 S0 q0 i0 (g / 2) hg2
        rw [en] at this
        show fin (r1 :: rs) S0 (gt r0 (g / 2)) = _
        exact this.trans (u0.at_ g hg c)
      · rw [if_neg (by omega)]
        have := ih l1 S1 q1 i1 (g / 2) hg2
        rw [en] at this
        show fin (r1 :: rs) S1 (gt r0 (g / 2)) = _
        exact this.trans (u1.at_ g hg c)
    have hl2 := p'.lt g hg
    rw [hy, gt_backP (by omega) lt]
    -- the last stage
    show gt (List.range (2 * m)) (swp ((List.range m).map fun p => gt hf (gt r (2 * p))) (2 * (gt l g / 2) + gt hf g)) = gt l g
    rw [gt_range (swp_lt (by omega) (by omega))]
    unfold swp
    have ed2 : (2 * (gt l g / 2) + gt hf g) / 2 = gt l g / 2 := by omega
    rw [ed2, gt_tab (by omega)]
    by_cases ge : gt l g % 2 = 0
    · have e : 2 * (gt l g / 2) = gt l g := by omega
      rw [e, hr.at_ g hg]
      have : pt (gt l g + 1) = gt l g := by unfold pt; rw [if_neg (by omega)]; omega
      split
      · rename_i c; rw [c]; exact this
      · omega
    · have e : 2 * (gt l g / 2) + 1 = gt l g := by omega
      obtain ⟨b1, b2⟩ := hr.back p' (2 * (gt l g / 2)) (by omega)
      have ep : gt l g = pt (gt l (gt r (2 * (gt l g / 2)))) := by
        rw [b2]; unfold pt; rw [if_pos (by omega)]; omega
      have := hh.out _ g b1 hg ep
      have hx := hh.le _ b1
      have e5 : pt (2 * (gt l g / 2)) = gt l g := by unfold pt; rw [if_pos (by omega)]; omega
      split
      · rename_i c
        rw [c] at this
        rw [this]
        exact e5
      · omega
/-! ### every stage is a pairing -/
def Inj (n : Nat) (f : Nat → Nat) : Prop := (∀ g, g < n → f g < n) ∧ ∀ g h, g < n → h < n → f g = f h → g = h
theorem swp_inj {n : Nat} (hn : n % 2 = 0) (s : List Nat) : Inj n (swp s) := by
  have inv : ∀ p, swp s (swp s p) = p := fun p => by
    unfold swp
    by_cases c : gt s (p / 2) = 1
    · rw [if_pos c, pt_div, if_pos c, pt_pt]
    · rw [if_neg c, if_neg c]
  refine ⟨fun p h => swp_lt hn h, fun p q _ _ e => ?_⟩
  have := congrArg (swp s) e
  rwa [inv, inv] at this
theorem Inj.comp {n : Nat} {f h : Nat → Nat} (a : Inj n f) (b : Inj n h) : Inj n fun g => h (f g) := ⟨fun g hg => b.1 _ (a.1 g hg), fun g k hg hk e => a.2 g k hg hk (b.2 _ _ (a.1 g hg) (a.1 k hk) e)⟩
theorem PermL.inj' {n : Nat} {l : List Nat} (p : PermL n l) : Inj n (gt l) := ⟨p.lt, p.inj⟩
theorem run_len : ∀ (rs ss : List (List Nat)) (p : Nat), rs.length = ss.length → (run rs ss p).length = rs.length
  | [], [], _, _ => rfl
  | r :: rs, s :: ss, p, h => by
    show (run rs ss _).length + 1 = rs.length + 1
    rw [run_len rs ss _ (by simpa using h)]
  | [], _ :: _, _, h => by simp at h
  | _ :: _, [], _, h => by simp at h
theorem run_inj {n : Nat} (hn : n % 2 = 0) : ∀ (rs ss : List (List Nat)) (f : Nat → Nat) (t : Nat), rs.length = ss.length → (∀ r ∈ rs, PermL n r) → Inj n f → t < rs.length → Inj n fun g => gt (run rs ss (f g)) t
  | [], _, _, t, _, _, _, h => absurd h (Nat.not_lt_zero t)
  | _ :: _, [], _, _, h, _, _, _ => by simp at h
  | r :: rs, s :: ss, f, t, hl, hp, hf, ht => by
    have step : Inj n fun g => gt r (swp s (f g)) := (hf.comp (swp_inj hn s)).comp (hp r List.mem_cons_self).inj'
    cases t with
    | zero => exact step
    | succ t => exact run_inj hn rs ss _ t (by simpa using hl) (fun q hq => hp q (List.mem_cons_of_mem _ hq)) step (by simpa using ht)
theorem run_last : ∀ (rs ss : List (List Nat)) (p : Nat), rs.length = ss.length → gt (p :: run rs ss p) rs.length = fin rs ss p
  | [], [], _, _ => rfl
  | r :: rs, s :: ss, p, h => run_last rs ss _ (by simpa using h)
  | [], _ :: _, _, h => by simp at h
  | _ :: _, [], _, h => by simp at h
end CL
set_option Elab.async false
set_option linter.all false
set_option maxHeartbeats 2000000
/-! Mathematics: colours of calls, chains that are exchanged. c: the colours, e: the ends (side 0, 1). -/
namespace CL
/-- calls of one colour share no switch -/
def Proper (c : Nat → Option Nat) (e : Nat → Nat → Nat) : Prop := ∀ s a b k, s ≤ 1 → c a = some k → c b = some k → e s a = e s b → a = b
def nc (c1 c2 s : Nat) : Nat := if s = 1 then c1 else c2
structure Chain (c : Nat → Option Nat) (e : Nat → Nat → Nat) (c1 c2 start : Nat) (found : List Nat) (s v : Nat) : Prop where
  sle : s ≤ 1
  nd : found.Nodup
  col : ∀ x ∈ found, c x = some c1 ∨ c x = some c2
  new : ∀ x ∈ found, c x = some (nc c1 c2 s) → e s x ≠ v
  ent : ∀ x ∈ found, ∀ t, t ≤ 1 → c x = some (nc c1 c2 t) → (t = 1 ∧ e t x = start) ∨ ∃ y ∈ found, c y = some (nc c1 c2 (1 - t)) ∧ e t y = e t x
  ext : ∀ x ∈ found, ∀ t, t ≤ 1 → c x = some (nc c1 c2 t) → (s = 1 - t ∧ v = e (1 - t) x) ∨ ∃ y ∈ found, c y = some (nc c1 c2 (1 - t)) ∧ e (1 - t) y = e (1 - t) x
  cur : (found = [] ∧ s = 1 ∧ v = start) ∨ ∃ x ∈ found, c x = some (nc c1 c2 (1 - s)) ∧ e s x = v
  org : (found = [] ∧ s = 1 ∧ v = start) ∨ ∃ x ∈ found, c x = some c1 ∧ e 1 x = start
theorem le1 {s : Nat} (h : s ≤ 1) : s = 0 ∨ s = 1 := by omega
section
variable {c : Nat → Option Nat} {e : Nat → Nat → Nat} {c1 c2 start : Nat} {found : List Nat} {s v : Nat}
theorem Chain.begin : Chain c e c1 c2 start [] 1 start :=
  ⟨by omega, List.nodup_nil, fun _ h => (nomatch h), fun _ h => (nomatch h), fun _ h => (nomatch h), fun _ h => (nomatch h), .inl ⟨rfl, rfl, rfl⟩, .inl ⟨rfl, rfl, rfl⟩⟩
theorem nc_ne (h : c1 ≠ c2) {s : Nat} (hs : s ≤ 1) : nc c1 c2 s ≠ nc c1 c2 (1 - s) := by
  rcases le1 hs with rfl | rfl
  · exact fun z => h z.symm
  · exact h
theorem Chain.step (P : Proper c e) (hne : c1 ≠ c2) (hfree : ∀ x, c x = some c2 → e 1 x ≠ start) (C : Chain c e c1 c2 start found s v) {x : Nat} (hx : c x = some (nc c1 c2 s)) (hv : e s x = v) :
    x ∉ found ∧ Chain c e c1 c2 start (found ++ [x]) (1 - s) (e (1 - s) x) := by
  have hnew : x ∉ found := fun h => C.new x h hx hv
  have s1 : 1 - s ≤ 1 := by omega
  have ss : 1 - (1 - s) = s := by have := C.sle; omega
  have mem : ∀ y, y ∈ found ++ [x] ↔ y ∈ found ∨ y = x := fun y => by simp
  refine ⟨hnew, s1, ?_, fun y hy => ?_, fun y hy cy ev => ?_, fun y hy t ht cy => ?_, fun y hy t ht cy => ?_, .inr ⟨x, (mem x).mpr (.inr rfl), by rw [ss]; exact hx, rfl⟩, .inr ?_⟩
  · exact List.nodup_append.mpr ⟨C.nd, by simp, fun a ha b hb => by
      have : b = x := by simpa using hb
      subst this
      exact fun z => hnew (z ▸ ha)⟩
  · rcases (mem y).mp hy with h | h
    · exact C.col y h
    · subst h
      rcases le1 C.sle with z | z
      · right; rw [hx, z]; rfl
      · left; rw [hx, z]; rfl
  · rcases (mem y).mp hy with h | h
    · rcases C.ent y h (1 - s) s1 cy with ⟨e1, e2⟩ | ⟨z, hz, cz, ez⟩
      · have s0 : s = 0 := by have := C.sle; omega
        subst s0
        exact hfree x hx (by rw [← ev]; exact e2)
      · rw [ss] at cz
        have := P (1 - s) z x _ s1 cz hx (by rw [ez, ev])
        exact hnew (this ▸ hz)
    · subst h
      rw [hx] at cy
      exact nc_ne hne C.sle (Option.some.inj cy)
  · rcases (mem y).mp hy with h | h
    · rcases C.ent y h t ht cy with q | ⟨z, hz, r⟩
      · exact .inl q
      · exact .inr ⟨z, (mem z).mpr (.inl hz), r⟩
    · subst h
      have ts : t = s := by
        rw [hx] at cy
        have q := Option.some.inj cy
        rcases le1 C.sle with z | z <;> rcases le1 ht with z' | z' <;> subst z <;> subst z' <;> first | rfl | exact absurd q hne | exact absurd q.symm hne
      subst ts
      rcases C.cur with ⟨_, q1, q2⟩ | ⟨z, hz, cz, ez⟩
      · exact .inl ⟨q1, by rw [hv]; exact q2⟩
      · exact .inr ⟨z, (mem z).mpr (.inl hz), cz, by rw [ez, hv]⟩
  · rcases (mem y).mp hy with h | h
    · rcases C.ext y h t ht cy with ⟨q1, q2⟩ | ⟨z, hz, r⟩
      · refine .inr ⟨x, (mem x).mpr (.inr rfl), by rw [← q1]; exact hx, by rw [← q2, ← q1]; exact hv⟩
      · exact .inr ⟨z, (mem z).mpr (.inl hz), r⟩
    · subst h
      have ts : t = s := by
        rw [hx] at cy
        have q := Option.some.inj cy
        rcases le1 C.sle with z | z <;> rcases le1 ht with z' | z' <;> subst z <;> subst z' <;> first | rfl | exact absurd q hne | exact absurd q.symm hne
      subst ts
      exact .inl ⟨rfl, rfl⟩
  · rcases C.org with ⟨_, q1, q2⟩ | ⟨z, hz, r⟩
    · subst q1
      exact ⟨x, (mem x).mpr (.inr rfl), hx, by rw [hv]; exact q2⟩
    · exact ⟨z, (mem z).mpr (.inl hz), r⟩
/-- the colours behind the exchange -/
def swapped (c : Nat → Option Nat) (c1 c2 : Nat) (found : List Nat) : Nat → Option Nat := fun x => if x ∈ found then (if c x = some c1 then some c2 else some c1) else c x
theorem Chain.proper (P : Proper c e) (hne : c1 ≠ c2) (hfree : ∀ x, c x = some c2 → e 1 x ≠ start) (C : Chain c e c1 c2 start found s v) (hend : ∀ x, c x = some (nc c1 c2 s) → e s x ≠ v) : Proper (swapped c c1 c2 found) e := by
  -- one in, one out
  have key : ∀ t a b k, t ≤ 1 → a ∈ found → b ∉ found → swapped c c1 c2 found a = some k → c b = some k → e t a = e t b → False := by
    intro t a b k ht ha hb ea eb ev
    obtain ⟨u, hu, cu, ck⟩ : ∃ u, u ≤ 1 ∧ c a = some (nc c1 c2 u) ∧ k = nc c1 c2 (1 - u) := by
      unfold swapped at ea
      rw [if_pos ha] at ea
      by_cases q : c a = some c1
      · rw [if_pos q] at ea
        exact ⟨1, by omega, q, (Option.some.inj ea).symm⟩
      · rw [if_neg q] at ea
        rcases C.col a ha with z | z
        · exact absurd z q
        · exact ⟨0, by omega, z, (Option.some.inj ea).symm⟩
    subst ck
    have uu : 1 - (1 - u) = u := by omega
    by_cases tu : t = u
    · subst tu
      rcases C.ent a ha t ht cu with ⟨q1, q2⟩ | ⟨y, hy, cy, ey⟩
      · subst q1
        exact hfree b eb (by rw [← ev]; exact q2)
      · have := P t y b _ ht cy eb (by rw [ey, ev])
        exact hb (this ▸ hy)
    · have t1 : t = 1 - u := by omega
      subst t1
      rcases C.ext a ha u hu cu with ⟨q1, q2⟩ | ⟨y, hy, cy, ey⟩
      · rw [← q1] at eb ev q2
        exact hend b eb (by rw [← ev]; exact q2.symm)
      · have := P (1 - u) y b _ ht cy eb (by rw [ey, ev])
        exact hb (this ▸ hy)
  intro t a b k ht ea eb ev
  by_cases ha : a ∈ found
  · by_cases hb : b ∈ found
    · unfold swapped at ea eb
      rw [if_pos ha] at ea
      rw [if_pos hb] at eb
      by_cases qa : c a = some c1
      · by_cases qb : c b = some c1
        · exact P t a b _ ht qa qb ev
        · rw [if_pos qa] at ea
          rw [if_neg qb] at eb
          exact absurd ((Option.some.inj eb).trans (Option.some.inj ea).symm) hne
      · by_cases qb : c b = some c1
        · rw [if_neg qa] at ea
          rw [if_pos qb] at eb
          exact absurd ((Option.some.inj ea).trans (Option.some.inj eb).symm) hne
        · have h1 := (C.col a ha).resolve_left qa
          have h2 := (C.col b hb).resolve_left qb
          exact P t a b _ ht h1 h2 ev
    · have eb' : c b = some k := by unfold swapped at eb; rw [if_neg hb] at eb; exact eb
      exact (key t a b k ht ha hb ea eb' ev).elim
  · have ea' : c a = some k := by unfold swapped at ea; rw [if_neg ha] at ea; exact ea
    by_cases hb : b ∈ found
    · exact (key t b a k ht hb ha eb ea' ev.symm).elim
    · have eb' : c b = some k := by unfold swapped at eb; rw [if_neg hb] at eb; exact eb
      exact P t a b k ht ea' eb' ev
/-- c1 is free at the start behind the exchange -/
theorem Chain.free1 (P : Proper c e) (hne : c1 ≠ c2) (hfree : ∀ x, c x = some c2 → e 1 x ≠ start) (C : Chain c e c1 c2 start found s v) (hend : ∀ x, c x = some (nc c1 c2 s) → e s x ≠ v) : ∀ x, swapped c c1 c2 found x = some c1 → e 1 x ≠ start := by
  intro x hx ev
  unfold swapped at hx
  by_cases h : x ∈ found
  · rw [if_pos h] at hx
    by_cases q : c x = some c1
    · rw [if_pos q] at hx
      exact hne (Option.some.inj hx).symm
    · exact hfree x ((C.col x h).resolve_left q) ev
  · rw [if_neg h] at hx
    rcases C.org with ⟨_, q1, q2⟩ | ⟨y, hy, cy, ey⟩
    · subst q1
      exact hend x hx (by rw [ev, q2])
    · exact h (P 1 x y c1 (by omega) hx cy (by rw [ev, ey]) ▸ hy)
/-- c1 stays free at the other end -/
theorem Chain.free0 (hne : c1 ≠ c2) (C : Chain c e c1 c2 start found s v) {u : Nat} (hu : ∀ x, c x = some c1 → e 0 x ≠ u) : ∀ x, swapped c c1 c2 found x = some c1 → e 0 x ≠ u := by
  intro x hx ev
  unfold swapped at hx
  by_cases h : x ∈ found
  · rw [if_pos h] at hx
    by_cases q : c x = some c1
    · rw [if_pos q] at hx
      exact hne (Option.some.inj hx).symm
    · have c0 := (C.col x h).resolve_left q
      rcases C.ent x h 0 (by omega) c0 with ⟨z, _⟩ | ⟨y, hy, cy, ey⟩
      · omega
      · exact hu y cy (by rw [ey, ev])
  · rw [if_neg h] at hx
    exact hu x hx ev
/-- a call more, of a colour free at both its ends -/
theorem Proper.add (P : Proper c e) {x k : Nat} (h0 : ∀ y, c y = some k → e 0 y ≠ e 0 x) (h1 : ∀ y, c y = some k → e 1 y ≠ e 1 x) : Proper (fset c x (some k)) e := by
  intro t a b j ht ea eb ev
  by_cases qa : a = x
  · by_cases qb : b = x
    · rw [qa, qb]
    · subst qa
      rw [fset_same] at ea
      rw [fset_ne qb] at eb
      cases ea
      rcases le1 ht with z | z <;> subst z
      · exact absurd ev.symm (h0 b eb)
      · exact absurd ev.symm (h1 b eb)
  · by_cases qb : b = x
    · subst qb
      rw [fset_same] at eb
      rw [fset_ne qa] at ea
      cases eb
      rcases le1 ht with z | z <;> subst z
      · exact absurd ev (h0 a ea)
      · exact absurd ev (h1 a ea)
    · rw [fset_ne qa] at ea
      rw [fset_ne qb] at eb
      exact P t a b j ht ea eb ev
end
/-! ### counting -/
/-- different colours at one switch stand on different gates of it; z is a gate more -/
theorem used_le {c : Nat → Option Nat} {ev inp : Nat → Nat} {g v z : Nat} (hg : 0 < g) (hin : ∀ x k, c x = some k → inp x / g = ev x) (hinj : ∀ x y k j, c x = some k → c y = some j → inp x = inp y → x = y) (hz : z / g = v) (hnz : ∀ x k, c x = some k → inp x ≠ z)
    (us : List Nat) (hnd : us.Nodup) (hus : ∀ k ∈ us, ∃ x, c x = some k ∧ ev x = v) : us.length + 1 ≤ g := by
  classical
  let f : Nat → Nat := fun k => if h : ∃ x, c x = some k ∧ ev x = v then inp h.choose else 0
  have hf : ∀ k ∈ us, ∃ x, c x = some k ∧ ev x = v ∧ f k = inp x := fun k hk => by
    have h := hus k hk
    refine ⟨h.choose, h.choose_spec.1, h.choose_spec.2, ?_⟩
    show (if h : ∃ x, c x = some k ∧ ev x = v then inp h.choose else 0) = _
    rw [dif_pos h]
  have nd2 : (us.map f).Nodup := by
    refine List.pairwise_map.mpr (List.Pairwise.imp_of_mem (fun {a b} ha hb hab e => ?_) hnd)
    obtain ⟨x, h1, h2, h3⟩ := hf a ha
    obtain ⟨y, h4, h5, h6⟩ := hf b hb
    have := hinj x y a b h1 h4 (by rw [← h3, ← h6]; exact e)
    subst this
    rw [h1] at h4
    exact hab (Option.some.inj h4)
  have nd3 : (z :: us.map f).Nodup := List.nodup_cons.mpr ⟨fun h => by
    obtain ⟨k, hk, e⟩ := List.mem_map.mp h
    obtain ⟨x, h1, _, h3⟩ := hf k hk
    exact hnz x k h1 (by rw [← h3]; exact e), nd2⟩
  have hsub : ∀ y ∈ z :: us.map f, y ∈ (List.range g).map (fun i => v * g + i) := fun y hy => by
    have hy2 : y / g = v := by
      rcases List.mem_cons.mp hy with e | hy
      · rw [e]; exact hz
      · obtain ⟨k, hk, e⟩ := List.mem_map.mp hy
        obtain ⟨x, h1, h2, h3⟩ := hf k hk
        rw [← e, h3, hin x k h1, h2]
    refine List.mem_map.mpr ⟨y % g, List.mem_range.mpr (Nat.mod_lt _ hg), ?_⟩
    rw [← hy2, Nat.mul_comm]
    exact Nat.div_add_mod y g
  have := List.Nodup.length_le_of_subset nd3 hsub
  simpa using this
theorem free_one {p : Nat → Bool} {n m : Nat} (h : ((List.range n).filter p).length ≤ m) (hm : m < n) : ∃ k, k < n ∧ p k = false := by
  false_or_by_contra
  rename_i hc
  have : (List.range n).filter p = List.range n := List.filter_eq_self.mpr fun k hk => by
    cases q : p k with
    | true => rfl
    | false => exact absurd ⟨k, List.mem_range.mp hk, q⟩ hc
  rw [this, List.length_range] at h
  omega
theorem free_two {p q : Nat → Bool} {n m m' : Nat} (h : ((List.range n).filter p).length ≤ m) (h' : ((List.range n).filter q).length ≤ m') (hm : m + m' < n) : ∃ k, k < n ∧ p k = false ∧ q k = false := by
  have key : ∀ l : List Nat, (l.filter fun k => p k || q k).length ≤ (l.filter p).length + (l.filter q).length := by
    intro l
    induction l with
    | nil => simp
    | cons a l ih => cases hp : p a <;> cases hq : q a <;> simp [List.filter_cons, hp, hq] <;> omega
  obtain ⟨k, h1, h2⟩ := free_one (p := fun k => p k || q k) (Nat.le_trans (key _) (Nat.add_le_add h h')) hm
  have := Bool.or_eq_false_iff.mp h2
  exact ⟨k, h1, this.1, this.2⟩
end CL
set_option Elab.async false
set_option linter.all false
set_option maxHeartbeats 2000000
/-! Mathematics: filled pairings. -/
namespace CL
def somes (l : List (Option Nat)) : List Nat := l.filterMap id
structure PP (n : Nat) (l : List (Option Nat)) : Prop where
  len : l.length = n
  nd : (somes l).Nodup
  lt : ∀ x ∈ somes l, x < n
theorem mem_somes {l : List (Option Nat)} {x : Nat} : x ∈ somes l ↔ some x ∈ l := by
  unfold somes
  rw [List.mem_filterMap]
  constructor
  · rintro ⟨a, h, e⟩
    have : a = some x := e
    rw [← this]; exact h
  · exact fun h => ⟨some x, h, rfl⟩
def fillW : List (Option Nat) → List Nat → List Nat
  | [], _ => []
  | some x :: l, rest => x :: fillW l rest
  | none :: l, r :: rest => r :: fillW l rest
  | none :: l, [] => 0 :: fillW l []
def noneC (l : List (Option Nat)) : Nat := (l.filter fun x => x.isNone).length
theorem none_somes : ∀ l : List (Option Nat), noneC l + (somes l).length = l.length
  | [] => rfl
  | none :: l => by
    have := none_somes l
    have e1 : noneC (none :: l) = noneC l + 1 := by simp [noneC]
    have e2 : somes (none :: l) = somes l := by simp [somes]
    rw [e1, e2, List.length_cons]; omega
  | some x :: l => by
    have := none_somes l
    have e1 : noneC (some x :: l) = noneC l := by simp [noneC]
    have e2 : somes (some x :: l) = x :: somes l := by simp [somes]
    rw [e1, e2, List.length_cons, List.length_cons]; omega
theorem fillW_perm : ∀ (l : List (Option Nat)) (rest : List Nat), noneC l = rest.length → (fillW l rest).Perm (somes l ++ rest)
  | [], rest, h => by
    have : rest = [] := List.length_eq_zero_iff.mp h.symm
    subst this
    exact List.Perm.refl _
  | some x :: l, rest, h => by
    have e2 : somes (some x :: l) = x :: somes l := by simp [somes]
    have e1 : noneC (some x :: l) = noneC l := by simp [noneC]
    rw [e2]
    exact (fillW_perm l rest (by rw [← e1]; exact h)).cons x
  | none :: l, r :: rest, h => by
    have e2 : somes (none :: l) = somes l := by simp [somes]
    have e1 : noneC (none :: l) = noneC l + 1 := by simp [noneC]
    rw [e2]
    exact ((fillW_perm l rest (by rw [e1] at h; simpa using h)).cons r).trans (List.perm_middle.symm)
  | none :: l, [], h => by
    have e1 : noneC (none :: l) = noneC l + 1 := by simp [noneC]
    rw [e1] at h; simp at h
theorem fillW_len : ∀ (l : List (Option Nat)) (rest : List Nat), (fillW l rest).length = l.length
  | [], _ => rfl
  | some x :: l, rest => by show _ + 1 = _ + 1; rw [fillW_len l rest]
  | none :: l, r :: rest => by show _ + 1 = _ + 1; rw [fillW_len l rest]
  | none :: l, [] => by show _ + 1 = _ + 1; rw [fillW_len l []]
theorem fillW_at : ∀ (l : List (Option Nat)) (rest : List Nat) (i x : Nat), l[i]? = some (some x) → (fillW l rest)[i]? = some x
  | [], _, i, x, h => by simp at h
  | some y :: l, rest, 0, x, h => by
    have : y = x := by simpa using h
    subst this; rfl
  | some y :: l, rest, i + 1, x, h => fillW_at l rest i x h
  | none :: l, r :: rest, 0, x, h => by simp at h
  | none :: l, r :: rest, i + 1, x, h => fillW_at l rest i x h
  | none :: l, [], 0, x, h => by simp at h
  | none :: l, [], i + 1, x, h => fillW_at l [] i x h
def freeL (n : Nat) (l : List (Option Nat)) : List Nat := (List.range n).filter fun x => !decide (some x ∈ l)
theorem free_perm {n : Nat} {l : List (Option Nat)} (p : PP n l) : (somes l ++ freeL n l).Perm (List.range n) := by
  have hf : ∀ x, x ∈ freeL n l ↔ x < n ∧ some x ∉ l := fun x => by simp [freeL]
  refine (List.perm_ext_iff_of_nodup ?_ List.nodup_range).mpr fun x => ?_
  · refine List.nodup_append.mpr ⟨p.nd, List.nodup_range.filter _, fun a ha b hb e => ?_⟩
    subst e
    exact ((hf a).mp hb).2 (mem_somes.mp ha)
  · rw [List.mem_append, hf, List.mem_range]
    constructor
    · rintro (h | h)
      · exact p.lt x h
      · exact h.1
    · intro h
      by_cases q : some x ∈ l
      · exact .inl (mem_somes.mpr q)
      · exact .inr ⟨h, q⟩
theorem free_len {n : Nat} {l : List (Option Nat)} (p : PP n l) : noneC l = (freeL n l).length := by
  have h1 := (free_perm p).length_eq
  rw [List.length_append, List.length_range] at h1
  have h2 := none_somes l
  rw [p.len] at h2
  omega
/-- f fills l up -/
structure Fills (n : Nat) (l : List (Option Nat)) (f : List Nat) : Prop where
  perm : PermL n f
  at_ : ∀ i x, l[i]? = some (some x) → gt f i = x
theorem fills {n : Nat} {l : List (Option Nat)} (p : PP n l) : Fills n l (fillW l (freeL n l)) := by
  have h1 := (fillW_perm l (freeL n l) (free_len p)).trans (free_perm p)
  refine ⟨PermL.of (by rw [fillW_len, p.len]) (h1.nodup_iff.mpr List.nodup_range) fun x hx => List.mem_range.mp (h1.mem_iff.mp hx), fun i x h => gt_of (fillW_at l _ i x h)⟩
end CL
set_option Elab.async false
set_option linter.all false
set_option maxRecDepth 100000
set_option maxHeartbeats 4000000
/-! any(test for .. in .. [for .. in ..]) where every test is False: the generator is made, runs to its end. -/
namespace GX
open PySem PySem.Spec PyProof.Rows L2
open Sem (wp)

theorem eval_gen (elt tg iter : Expr) (ifs : List Expr) (rest : List Comprehension) (scope : Scope) (pos : Pos) (env : Env) (hco : scope.isCoroutine = false) :
    eval (.GeneratorExp elt (⟨tg, iter, ifs, 0⟩ :: rest) scope pos) env = (do
      let x ← eval iter env
      standAt iter.pos
      let x ← genFold iter env x
      let it ← holding [x] (pyIter x)
      enterFrame
      let cl ← closureFor scope env
      let code ← genexprCode env pos (env.qual ++ "<genexpr>") scope
      let bi ← builtinsFor env.globals env.builtins
      let cenv ← newFunctionEnv scope env.globals cl [(".0", it)] (env.qual ++ "<genexpr>.") none code none bi
      newGenerator (.compStart (.GeneratorExp elt (⟨tg, iter, ifs, 0⟩ :: rest) scope pos) 0 it .none cenv) "<genexpr>" (env.qual ++ "<genexpr>")) := by
  rw [arm_eval_GeneratorExp]
  simp only [hco, Bool.false_eq_true, if_false]
  cases iter <;> rfl

section
variable {M : Model} {A : Around} {E : Value → Shared → Prop} {s : Shared}
theorem gen_make {env : Env} {elt tg iter : Expr} {ifs : List Expr} {rest : List Comprehension} {scope : Scope} {cl : List (Str × Addr)} {pos : Pos} {Q : Value → Shared → Prop}
    (hco : scope.isCoroutine = false) (hclos : closureFor scope env = pure cl) (hcell : ∀ y ∈ scope.names, y.2 ≠ .cell) (h0 : scope.names.lookup (".0" : Str) = some NameKind.local) (hkind : scope.kind = .function)
    (hroom : A.depth < recursionLimit)
    (h : wpAny M A (eval iter env) (fun xv s₁ => wpAny M A (pyIter xv) (fun it s₂ => s₂.heap.NoLimit ∧
      wpAny M A (genexprCode env pos (env.qual ++ "<genexpr>") scope) (fun code s₃ => wpAny M A (builtinsFor env.globals env.builtins) (fun bi s₄ =>
        ∀ h', h'.Ns s₄.heap.objs.size (fun y => if y = ".0" then some it else none) → Heap.SameBut s₄.heap.objs.size (s₄.heap.push { cls := .type "frame", data := .dict #[] }) h' →
          Q (.ref h'.objs.size) { s₄ with
            gens := s₄.gens.push (.fresh (.compStart (.GeneratorExp elt (⟨tg, iter, ifs, 0⟩ :: rest) scope pos) 0 it .none (genEnv scope cl s₄.heap.objs.size code bi env))),
            toks := s₄.toks + 1 + 1 + 1,
            heap := h'.push { cls := .type "generator", data := .fields #[.int s₄.gens.size 0, .str "<genexpr>" (s₄.toks + 1), .str (env.qual ++ "<genexpr>") (s₄.toks + 1 + 1)] } }) E s₃) E s₂) E s₁) E s)
    (hs : ∀ x, genFold iter env x = pure x) :
    wpAny M A (eval (.GeneratorExp elt (⟨tg, iter, ifs, 0⟩ :: rest) scope pos) env) Q E s := by
  rw [eval_gen _ _ _ _ _ _ _ _ hco, hclos]
  refine wpAny_bind (wpAny_mono h (fun xv s₁ h₁ => ?_) fun _ _ e => e)
  refine wpAny_bind (wpAny_standAt ?_)
  refine wpAny_bind (wpAny_of_eq (hs xv) ?_)
  refine wpAny_bind (wpAny_holding (wpAny_mono h₁ (fun it s₂ h₂ => ?_) fun _ _ e => e))
  refine wpAny_bind (wpAny_enterFrame h₂.1 hroom ?_)
  refine wpAny_bind (wpAny_pure ?_)
  refine wpAny_bind (wpAny_mono h₂.2 (fun code s₃ h₃ => ?_) fun _ _ e => e)
  refine wpAny_bind (wpAny_mono h₃ (fun bi s₄ h₄ => ?_) fun _ _ e => e)
  have hbinds : ∀ y ∈ ([((".0" : Str), it)] : List (Str × Value)), scope.names.lookup y.1 = some NameKind.local := by
    intro y hy
    rcases List.mem_cons.mp hy with rfl | hy
    · exact h0
    · cases hy
  refine wpAny_bind (wpAny_newFunctionEnv hcell hbinds (fun h' hn' hs' => ?_) hkind)
  have e : (fun y : Str => ([((".0" : Str), it)] : List (Str × Value)).reverse.lookup y) = fun y : Str => if y = (".0" : Str) then some it else none := by
    funext y
    by_cases hy : y = ".0"
    · subst hy; simp
    · have : (y == (".0" : Str)) = false := by simpa using hy
      simp [List.lookup, this, hy]
  rw [e] at hn'
  simp only [newGenerator, newFields]
  refine wpAny_bind (wpAny_newGen (wpAny_bind (wpAny_mkText (wpAny_bind (wpAny_mkText (wpAny_newObj_type ?_ (by size_fits)))))))
  exact h₄ h' hn' hs'
end

/-- the generator's frame: over the frames that run -/
abbrev gcx (X : Cx) (s : Shared) (H : Hp) (cenv : Env) (fp : List Addr) (A : Around) : Cx :=
  { X with A := A, s_0 := s, H_0 := H, env := cenv, outer := X.stack, stack := cenv :: X.stack, ex := fp, fn := fun _ => false, pn := [], xe := fun _ _ => False }
/-- its scope -/
structure GSc (scope : Scope) : Prop where
  co : scope.isCoroutine = false
  cell : ∀ y ∈ scope.names, y.2 ≠ .cell
  dot : scope.names.lookup (".0" : Str) = some NameKind.local

section
variable {X : Cx} {pins : List (Addr × Obj)} {σ : L2.St} {H : Hp} {s s5 : Shared}
/-- nothing but the table of generators, and what is no object, has changed -/
theorem inv_gens {s' : Shared} (I : Inv X pins σ H s) (hh : s'.heap = s.heap) (ho : s'.os = s.os) (hb : AllBare s'.gens) : Inv X pins σ H s' := by
  obtain ⟨h1, g1, d1, t1, o1⟩ := s'
  cases hh
  cases ho
  exact ⟨I.ok, I.os, hb, I.base, I.loc, I.cell, I.free, I.freeC, I.pin, I.hok, I.len⟩

theorem gen_start {scope : Scope} {own : List (Str × Nat)} {fp : List Addr} {code : Value} {a : Addr} {ob : Obj} {A : Around} (I : Inv X pins σ H s) (ok : BlkOk X.N X.env.scope scope own) (gs : GSc scope) (hN : X.N.Nodup)
    (hfp : ∀ b ∈ fp, FpOk X pins H b ∧ b < s.heap.objs.size) (hA : A.handled = none) (hF : A.frames = some (genEnv scope (cloFrom X.env.cells scope.names []) s.heap.objs.size code builtinsNs X.env :: X.stack))
    (hns : ∃ m, s5.heap.Ns s.heap.objs.size m) (kp : ∀ b o, s.heap.get? b = some o → s5.heap.get? b = some o) (ha : s5.heap.get? a = some ob) (hal : s.heap.objs.size < a) (hoc : ∀ v, ob.data ≠ .cell v) (ho : s5.os = s.os) (hb : AllBare s5.gens) :
    Inv (gcx X s H (genEnv scope (cloFrom X.env.cells scope.names []) s.heap.objs.size code builtinsNs X.env) fp A) [(a, ob)] (wipe σ (own.map (·.2))) H s5 := by
  have hfree : ∀ y ∈ scope.names, y.2 = .free → ∃ c, X.env.cells.lookup y.1 = some c := fun y hy e => by
    rcases ok.free y hy e with k | k
    · exact I.ok.has _ (.inl k)
    · exact I.ok.has _ (.inr k)
  generalize hcenv : genEnv scope (cloFrom X.env.cells scope.names []) s.heap.objs.size code builtinsNs X.env = cenv at hF ⊢
  have hL : cenv.locals = s.heap.objs.size := by rw [← hcenv]; rfl
  have hcl : cenv.cells = cloFrom X.env.cells scope.names [] := by rw [← hcenv]; rfl
  have hsc : cenv.scope = scope := by rw [← hcenv]; rfl
  have cm : ∀ {y c}, (y, c) ∈ cloFrom X.env.cells scope.names [] → X.env.cells.lookup y = some c ∧ c < s.heap.objs.size := fun {y c} hm => by
    rcases cloFrom_mem hm with hm | ⟨h1, rfl⟩
    · cases hm
    · obtain ⟨c, hc⟩ := hfree _ h1 rfl
      rw [hc]
      obtain ⟨w, z⟩ := I.cell _ _ hc
      exact ⟨rfl, z.lt⟩
  have mem : ∀ {y c}, cenv.cells.lookup y = some c → X.env.cells.lookup y = some c ∧ c < s.heap.objs.size := fun {y c} e => by
    rw [hcl] at e
    exact cm (PySem.mem_of_lookup e)
  have look : ∀ {y}, scope.names.lookup y = some .free → ∃ c, cenv.cells.lookup y = some c ∧ X.env.cells.lookup y = some c := fun {y} hl => by
    have hy : (y, NameKind.free) ∈ scope.names := PySem.mem_of_lookup hl
    obtain ⟨c', e'⟩ := mem_lookup (cloFrom_has (cells := X.env.cells) (acc := []) hy)
    rw [← hcl] at e'
    exact ⟨c', e', (mem e').1⟩
  have nocell : ∀ {y}, scope.names.lookup y ≠ some .cell := fun {y} e => gs.cell _ (PySem.mem_of_lookup e) rfl
  have okB : (gcx X s H cenv fp A).Ok := by
    refine ⟨I.ok.mod, by show cenv.scope.kind = _; rw [hsc]; exact ok.kind, by show cenv.globals = _; rw [← hcenv]; exact I.ok.glob, by show cenv.builtins = _; rw [← hcenv]; rfl, by show s.heap.objs.size ≤ cenv.locals; rw [hL]; exact Nat.le_refl _,
      fun y z c e1 e2 => I.ok.inj y z c (mem e1).1 (mem e2).1, fun y hy => ?_, fun y c z e => Bool.noConfusion z, fun _ => hA, hF, .inr ⟨rfl, by show cenv.frame = some cenv.locals; rw [← hcenv]; rfl⟩, fun b hb => ⟨?_, fun y c e z => ?_⟩, I.bs, Nat.le_trans I.ok.bsz I.sz, fun b o e hb => ?_, fun b hb z => ?_, I.stack, I.stkFree⟩
    · have hy : scope.names.lookup y = some .cell ∨ scope.names.lookup y = some .free := by
        rw [← hsc]; exact hy
      rcases hy with hy | hy
      · exact absurd hy nocell
      · obtain ⟨c, h1, _⟩ := look hy
        exact ⟨c, h1⟩
    · show b ≠ cenv.locals
      rw [hL]; exact Nat.ne_of_lt (hfp b hb).2
    · exact (hfp b hb).1.2.2.2.2.1 y c (mem e).1 z
    · rcases (hfp b hb).1.2.2.2.1 with z | z
      · exact I.ok.noex b o e z
      · exact absurd (Nat.lt_of_lt_of_le (Heap.lt_size e) (Nat.le_trans I.ok.bsz z)) (Nat.lt_irrefl _)
    · rcases List.mem_cons.mp (I.stkSub b z) with z | z
      · exact (hfp b hb).1.2.1 z
      · exact (hfp b hb).1.2.2.1 z
  obtain ⟨mm, hns⟩ := hns
  refine ⟨okB, ho, hb, Un.kept kp, ⟨mm, by show s5.heap.Ns cenv.locals mm; rw [hL]; exact hns, fun i y av e1 e2 e3 => ?_⟩, fun y c e => ?_, ?_, fun y c e => ?_, fun p hp => ?_, I.hok.kept kp, by rw [wipe_length]; exact I.len⟩
  · obtain ⟨e2, hne⟩ := wipe_some e2
    have e3 : Vis scope y := by rw [← hsc]; exact e3
    have hfr : scope.names.lookup y = some .free := by
      have no : ¬ (scope.names.lookup y = some .local) := fun hh => by
        rcases ok.own _ (PySem.mem_of_lookup hh) (.inl rfl) with e' | e'
        · obtain ⟨p, hp, hpy⟩ := List.mem_map.mp e'
          have e3 := ok.ix p hp
          have : p.1 = y := hpy
          rw [this] at e3
          exact hne (List.mem_map.mpr ⟨p, hp, nodup_ix hN e3 e1⟩)
        · exact e' (List.mem_of_getElem? e1)
      rcases e3 with e3 | e3 | e3
      · exact absurd e3 no
      · exact absurd e3 nocell
      · exact e3
    obtain ⟨m, hn, hl⟩ := I.loc
    have hvis : Vis X.env.scope y := (ok.free _ (PySem.mem_of_lookup hfr) rfl).elim (fun k => .inr (.inl k)) (fun k => .inr (.inr k))
    obtain ⟨w, r, q⟩ := hl i y av e1 e2 hvis
    refine ⟨w, r, .inr ⟨.inr (by show cenv.scope.names.lookup y = _; rw [hsc]; exact hfr), ?_⟩⟩
    obtain ⟨c, h1, h2⟩ := look hfr
    rcases q with ⟨k, _⟩ | ⟨_, c', e', z⟩
    · have k : X.env.scope.names.lookup y = some .local := k
      rcases ok.free _ (PySem.mem_of_lookup hfr) rfl with k' | k' <;> rw [show X.env.scope.names.lookup y = _ from k'] at k <;> cases k
    · rw [h2] at e'; cases e'
      exact ⟨c, h1, z.keeps kp⟩
  · obtain ⟨w, z⟩ := I.cell y c (mem e).1
    exact ⟨w, z.keeps kp⟩
  · show H cenv.locals = none
    rw [hL]; exact I.hok.fresh (Nat.le_refl _)
  · exact I.freeC y c (mem e).1
  · have hp' : p = (a, ob) := by simpa using hp
    subst hp'
    refine ⟨ha, I.hok.fresh (Nat.le_of_lt hal), by show a ≠ cenv.locals; rw [hL]; exact Nat.ne_of_gt hal, fun z => ?_, hoc⟩
    have z : a ∈ frs X.stack := z
    rcases List.mem_cons.mp (I.stkSub a z) with z | z
    · have h1 := I.lt
      rw [← z] at h1
      exact absurd (Nat.lt_trans hal h1) (Nat.lt_irrefl _)
    · exact I.nofs (Nat.le_of_lt hal) z
end
end GX
set_option Elab.async false
set_option linter.all false
set_option maxRecDepth 100000
set_option maxHeartbeats 4000000
namespace GX
open PySem PySem.Spec PyProof.Rows L2 GenW
open Sem (wp)

theorem turn_out (elt t0 i0 t1 i1 : Expr) (scope : Scope) (pos : Pos) (it acc : Value) (env : Env) :
    compTurn (.GeneratorExp elt [⟨t0, i0, [], 0⟩, ⟨t1, i1, [], 0⟩] scope pos) 0 it acc env = (do
      standAt i0.pos
      match ← pyNext it with
      | none => pure (.done .next)
      | some v =>
        letOwnedTupleGo t0 it v
        assign t0 env v
        let x ← eval i1 env
        standAt i1.pos
        let x ← foldedSetIterable i1 env x
        let _ ← runOwn (.compStart (.GeneratorExp elt [⟨t0, i0, [], 0⟩, ⟨t1, i1, [], 0⟩] scope pos) 1 (← holding [x] (pyIter x)) acc env) env
        again (.compLoop (.GeneratorExp elt [⟨t0, i0, [], 0⟩, ⟨t1, i1, [], 0⟩] scope pos) 0 it acc env)) := by rfl
theorem turn_in (elt t0 i0 t1 i1 : Expr) (scope : Scope) (pos : Pos) (it acc : Value) (env : Env) :
    compTurn (.GeneratorExp elt [⟨t0, i0, [], 0⟩, ⟨t1, i1, [], 0⟩] scope pos) 1 it acc env = (do
      standAt i1.pos
      match ← pyNext it with
      | none => pure (.done .next)
      | some v =>
        letOwnedTupleGo t1 it v
        assign t1 env v
        (do let v ← eval elt env; standAt elt.pos; let _ ← yieldOut env v)
        again (.compLoop (.GeneratorExp elt [⟨t0, i0, [], 0⟩, ⟨t1, i1, [], 0⟩] scope pos) 1 it acc env)) := by rfl
theorem turn_one (elt t0 i0 : Expr) (scope : Scope) (pos : Pos) (it acc : Value) (env : Env) :
    compTurn (.GeneratorExp elt [⟨t0, i0, [], 0⟩] scope pos) 0 it acc env = (do
      standAt i0.pos
      match ← pyNext it with
      | none => pure (.done .next)
      | some v =>
        letOwnedTupleGo t0 it v
        assign t0 env v
        (do let v ← eval elt env; standAt elt.pos; let _ ← yieldOut env v)
        again (.compLoop (.GeneratorExp elt [⟨t0, i0, [], 0⟩] scope pos) 0 it acc env)) := by rfl

/-- while the generator sleeps nothing changes but the table of generators -/
def GY0 (a : Addr) (g : Nat) : Protocol := fun _ _ v s kap => v = .bool false ∧ AllBare s.gens ∧ s.heap.NoLimit ∧ s.heap.IsGen a g ∧ ∀ s' : Shared, s'.heap = s.heap → s'.os = s.os → AllBare s'.gens → kap (.send .none) s'
def GR0 (F : Shared → Prop) : GenEnd := fun _ _ r s => r = .ok .next ∧ F s

section
variable {Xg : Cx} {A : Around} {ob : Obj} {a : Addr} {gi : Nat} {elt tg iter tg1 iter1 : Expr} {scope : Scope} {pos : Pos} {it : Addr} {fp : List Addr} {tn : Nat → Heap → Prop} {J : It} {Ph : Hp → Prop} {σw : L2.St} {vs vs1 : List Nat} {n mx : Nat} {g g1 : TG} {te : TE} {wi1 : TI}

/-- an iterator's records, where they are the frame's own (ex) -/
theorem stat_ex {pn : List (Addr × Obj)} {σ' : L2.St} {H : Hp} {s' : Shared} (I : Inv Xg pn σ' H s') (hex : Xg.ex = fp) (hp : ∀ p ∈ Xg.pn ++ pn, p.1 ∉ fp) (nfp : ∀ b ∈ fp, H b = none) : ∀ b ∈ fp, FpOk Xg pn H b := fun b hb =>
  have hb' : b ∈ Xg.ex := by rw [hex]; exact hb
  ⟨nfp b hb, (I.ok.exf b hb').1, I.ok.exfs b hb', .inl hb', fun x c e => (I.ok.exf b hb').2 x c e, fun p hp' z => hp p hp' (by rw [z]; exact hb)⟩
/-- the generator's state between two turns -/
def GSt (Xg : Cx) (pn : List (Addr × Obj)) (σw : L2.St) (Ph : Hp → Prop) (fp : List Addr) (s : Shared) : Prop := ∃ H, Inv Xg pn σw H s ∧ Ph H ∧ ∀ b ∈ fp, H b = none
/-- the slots behind a turn know what they knew ahead -/
theorem wipe_back {σw σ2 : L2.St} {vs : List Nat} (e : wipe σ2 vs = σw) : σw.length = σ2.length ∧ ∀ (j : Nat) v, σw[j]? = some (some v) → σ2[j]? = some (some v) :=
  ⟨by rw [← e, wipe_length], fun j v h => by rw [← e] at h; exact (wipe_some h).1⟩

theorem seg_one (hX : Xg.A = A.over (.compLoop (.GeneratorExp elt [⟨tg, iter, [], 0⟩] scope pos) 0 (.ref it) .none Xg.env) []) (hc : Xg.calm = true) (hxe : Xg.xe = fun _ _ => False) (hex : Xg.ex = fp) (hpn : Xg.pn = []) (hafp : a ∉ fp) (hgen : ∀ h : Heap, h.get? a = some ob → h.IsGen a gi)
    (hco : Xg.env.scope.isCoroutine = false) (T : Turn Xg.prog Xg.w Xg.K tg J fp it tn)
    (pg : PG Xg tg g) (pe : PE Xg elt te) (go : ∀ i H, i < n → Ph H → J.go i H) (stop : ∀ H, Ph H → J.stop n H)
    (step : ∀ i x H H', i < n → Ph H → J.yld i H x H' → g x σw H' fun σ2 H2 => wipe σ2 vs = σw ∧ te σ2 H2 fun v H4 => Ph H4 ∧ v = .bl false) :
    ∀ (k i N : Nat) (s₀ s : Shared), n - i = k → i ≤ n → k ≤ N → GSt Xg [(a, ob)] σw Ph fp s → tn i s.heap →
      Seg (model Xg.prog Xg.w) A (GR0 (GSt Xg [(a, ob)] σw Ph fp)) (GY0 a gi) N s₀ (.compLoop (.GeneratorExp elt [⟨tg, iter, [], 0⟩] scope pos) 0 (.ref it) .none Xg.env)
        ((model Xg.prog Xg.w).den (.compLoop (.GeneratorExp elt [⟨tg, iter, [], 0⟩] scope pos) 0 (.ref it) .none Xg.env)) [] s := by
  have hpf : ∀ p ∈ Xg.pn ++ [(a, ob)], p.1 ∉ fp := fun p hp => by
    rw [hpn] at hp
    have : p = (a, ob) := by simpa using hp
    rw [this]; exact hafp
  have hy : ∀ v, yieldOut Xg.env v = yieldValue v := fun v => by simp only [yieldOut, hco, Bool.false_eq_true, if_false]
  intro k
  induction k with
  | zero =>
    intro i N s₀ s hk hi hN G st
    obtain ⟨H, I, ph, nfp⟩ := G
    have hin : i = n := by omega
    subst hin
    show Seg _ A _ _ _ s₀ _ ((compTurn (.GeneratorExp elt [⟨tg, iter, [], 0⟩] scope pos) 0 (.ref it) .none Xg.env).onRaise (leaving Xg.env)) [] s
    rw [turn_one, Sem.onRaise_eq_wrap]
    refine seg_bind_wrap (wpAny_standAt ?_)
    refine seg_bind_wrap ?_
    rw [← hX]
    refine thnF (T.done Xg rfl rfl rfl hc i _ s σw H (fun _ _ => False) I (stat_ex I hex hpf nfp) st (stop H ph)) fun r s6 ⟨hr, I6⟩ => ?_
    subst hr
    exact seg_end (.ok .next) ⟨rfl, H, I6, ph, nfp⟩
  | succ k ih =>
    intro i N s₀ s hk hi hN G st
    obtain ⟨H, I, ph, nfp⟩ := G
    have hlt : i < n := by omega
    obtain ⟨N, rfl⟩ : ∃ m, N = m + 1 := ⟨N - 1, by omega⟩
    show Seg _ A _ _ _ s₀ _ ((compTurn (.GeneratorExp elt [⟨tg, iter, [], 0⟩] scope pos) 0 (.ref it) .none Xg.env).onRaise (leaving Xg.env)) [] s
    rw [turn_one, Sem.onRaise_eq_wrap]
    refine seg_bind_wrap (wpAny_standAt ?_)
    refine seg_bind_wrap ?_
    rw [← hX]
    refine thnF (T.item Xg rfl rfl rfl hc i _ s σw H (fun _ _ => False) I (stat_ex I hex hpf nfp) st (go i H hlt ph)) fun r s6 ⟨u, hr, h6⟩ => ?_
    subst hr
    refine seg_bind_wrap ?_
    rw [← hX]
    refine thnF h6 fun _ s7 ⟨x, H7, I7, r7, y7, st7, n7⟩ => ?_
    have q7 := step i x H H7 hlt ph y7
    have I7' := I7.pinned (stat_ex I7 hex hpf n7) (T.obj _ _ st7)
    refine seg_bind_wrap ?_
    rw [← hX]
    refine wpAny_mono (pg.run _ s7 σw H7 x u _ I7' r7 q7) (fun _ s8 ⟨σ8, H8, I8, hw8, q8⟩ => ?_) fun e s' z => ?_
    · simp only [hy]
      rw [Sem.bind_eq_wrap', Sem.bind_eq_wrap', Sem.wrap_wrap, Sem.wrap_wrap]
      refine seg_wrap ?_
      rw [← hX]
      refine wpAny_mono (pe.run _ s8 σ8 H8 _ I8 q8) (fun y s9 ⟨v, H9, I9, r9, e9, ev⟩ => ?_) fun e s' z => ?_
      · subst ev
        cases r9
        have pin9 : ∀ b ∈ fp, ∀ o, s7.heap.get? b = some o → s9.heap.get? b = some o ∧ H9 b = none := fun b hb o e =>
          let z := I9.pin (b, o) (List.mem_append_right _ (List.mem_append_right _ (mem_pinsAt hb e)))
          ⟨z.1, z.2.1⟩
        have J9 : Inv Xg [(a, ob)] σw H9 s9 := (I9.unpinned (pins := [(a, ob)])).weak (wipe_back hw8).1 (wipe_back hw8).2
        have ga : s9.heap.get? a = some ob := (J9.pin (a, ob) (List.mem_append_right _ (List.mem_singleton.mpr rfl))).1
        have st9 : tn (i + 1) s9.heap := T.keep _ _ _ st7 fun b hb o e => (pin9 b hb o e).1
        have n9 : ∀ b ∈ fp, H9 b = none := fun b hb => by
          obtain ⟨o, e, _⟩ := T.obj _ _ st7 b hb
          exact (pin9 b hb o e).2
        refine seg_at (seg_yield rfl rfl rfl ⟨rfl, J9.bare, J9.nolimit, hgen _ ga, fun s'' e1 e2 e3 => ?_⟩)
        exact seg_again rfl (ih (i + 1) N s'' s'' (by omega) hlt (by omega) ⟨H9, inv_gens J9 e1 e2 e3, e9, n9⟩ (by rw [e1]; exact st9))
      · rw [hxe] at z; exact z.elim
    · rw [hxe] at z; exact z.elim

/-- the second clause's loop -/
theorem seg_inner {c0 : Code} {kk : Result → Sem PySem.Fin} {gd0 : Bool} {lv0 kp0 : List Value} {p0 : Pos} {it1 : Value} {i1a : Addr} {fp1 : List Addr} {tn1 : Nat → Heap → Prop} {J1 : It} {pn1 : List (Addr × Obj)} {F : Shared → Prop} {rest m : Nat}
    (hi1 : it1 = .ref i1a) (hX : Xg.A = A.over c0 []) (hgd : gd0 = false) (hc : Xg.calm = true) (hxe : Xg.xe = fun _ _ => False) (hpa : (a, ob) ∈ pn1) (hgen : ∀ h : Heap, h.get? a = some ob → h.IsGen a gi)
    (hco : Xg.env.scope.isCoroutine = false) (T : Turn Xg.prog Xg.w Xg.K tg1 J1 fp1 i1a tn1) (hf : ∀ (H : Hp) (b : Addr), b ∈ fp1 → H b = none → FpOk Xg pn1 H b)
    (pg : PG Xg tg1 g1) (pe : PE Xg elt te) (go : ∀ i H, i < m → Ph H → J1.go i H) (stop : ∀ H, Ph H → J1.stop m H)
    (step : ∀ i x H H', i < m → Ph H → J1.yld i H x H' → g1 x σw H' fun σ2 H2 => wipe σ2 vs1 = σw ∧ te σ2 H2 fun v H4 => Ph H4 ∧ v = .bl false)
    (hk : ∀ (N : Nat) (s₀ s : Shared), rest ≤ N → GSt Xg pn1 σw Ph fp1 s → Seg (model Xg.prog Xg.w) A (GR0 F) (GY0 a gi) N s₀ c0 (kk (.ok .next)) [] s) :
    ∀ (k i N : Nat) (s₀ s : Shared), m - i = k → i ≤ m → k + rest ≤ N → GSt Xg pn1 σw Ph fp1 s → tn1 i s.heap →
      Seg (model Xg.prog Xg.w) A (GR0 F) (GY0 a gi) N s₀ (.compLoop (.GeneratorExp elt [⟨tg, iter, [], 0⟩, ⟨tg1, iter1, [], 0⟩] scope pos) 1 it1 .none Xg.env)
        ((model Xg.prog Xg.w).den (.compLoop (.GeneratorExp elt [⟨tg, iter, [], 0⟩, ⟨tg1, iter1, [], 0⟩] scope pos) 1 it1 .none Xg.env)) [.ret kk none gd0 lv0 c0 p0 kp0] s := by
  subst hi1 hgd
  have hX' : Xg.A = A.over (.compLoop (.GeneratorExp elt [⟨tg, iter, [], 0⟩, ⟨tg1, iter1, [], 0⟩] scope pos) 1 (.ref i1a) .none Xg.env) [.ret kk none false lv0 c0 p0 kp0] := by
    rw [hX]; exact (over_loop rfl rfl).symm
  have hy : ∀ v, yieldOut Xg.env v = yieldValue v := fun v => by simp only [yieldOut, hco, Bool.false_eq_true, if_false]
  intro k
  induction k with
  | zero =>
    intro i N s₀ s hk' hi hN G st
    obtain ⟨H, I, ph, nfp⟩ := G
    have hin : i = m := by omega
    subst hin
    show Seg _ A _ _ _ s₀ _ ((compTurn (.GeneratorExp elt [⟨tg, iter, [], 0⟩, ⟨tg1, iter1, [], 0⟩] scope pos) 1 (.ref i1a) .none Xg.env).onRaise (fun x => do noteFrame x Xg.env; theTreesLotGoes x)) [.ret kk none false lv0 c0 p0 kp0] s
    rw [turn_in, Sem.onRaise_eq_wrap]
    refine seg_bind_wrap (wpAny_standAt ?_)
    refine seg_bind_wrap ?_
    rw [← hX']
    refine thnF (T.done Xg rfl rfl rfl hc i _ s σw H (fun _ _ => False) I (fun b hb => hf H b hb (nfp b hb)) st (stop H ph)) fun r s6 ⟨hr, I6⟩ => ?_
    subst hr
    exact seg_leaf (.ok .next) (hk N s₀ s6 (by omega) ⟨H, I6, ph, nfp⟩)
  | succ k ih =>
    intro i N s₀ s hk' hi hN G st
    obtain ⟨H, I, ph, nfp⟩ := G
    have hlt : i < m := by omega
    obtain ⟨N, rfl⟩ : ∃ m, N = m + 1 := ⟨N - 1, by omega⟩
    show Seg _ A _ _ _ s₀ _ ((compTurn (.GeneratorExp elt [⟨tg, iter, [], 0⟩, ⟨tg1, iter1, [], 0⟩] scope pos) 1 (.ref i1a) .none Xg.env).onRaise (fun x => do noteFrame x Xg.env; theTreesLotGoes x)) [.ret kk none false lv0 c0 p0 kp0] s
    rw [turn_in, Sem.onRaise_eq_wrap]
    refine seg_bind_wrap (wpAny_standAt ?_)
    refine seg_bind_wrap ?_
    rw [← hX']
    refine thnF (T.item Xg rfl rfl rfl hc i _ s σw H (fun _ _ => False) I (fun b hb => hf H b hb (nfp b hb)) st (go i H hlt ph)) fun r s6 ⟨u, hr, h6⟩ => ?_
    subst hr
    refine seg_bind_wrap ?_
    rw [← hX']
    refine thnF h6 fun _ s7 ⟨x, H7, I7, r7, y7, st7, n7⟩ => ?_
    have q7 := step i x H H7 hlt ph y7
    have I7' := I7.pinned (fun b hb => hf H7 b hb (n7 b hb)) (T.obj _ _ st7)
    refine seg_bind_wrap ?_
    rw [← hX']
    refine wpAny_mono (pg.run _ s7 σw H7 x u _ I7' r7 q7) (fun _ s8 ⟨σ8, H8, I8, hw8, q8⟩ => ?_) fun e s' z => ?_
    · simp only [hy]
      rw [Sem.bind_eq_wrap', Sem.bind_eq_wrap', Sem.wrap_wrap, Sem.wrap_wrap]
      refine seg_wrap ?_
      rw [← hX']
      refine wpAny_mono (pe.run _ s8 σ8 H8 _ I8 q8) (fun y s9 ⟨v, H9, I9, r9, e9, ev⟩ => ?_) fun e s' z => ?_
      · subst ev
        cases r9
        have pin9 : ∀ b ∈ fp1, ∀ o, s7.heap.get? b = some o → s9.heap.get? b = some o ∧ H9 b = none := fun b hb o e =>
          let z := I9.pin (b, o) (List.mem_append_right _ (List.mem_append_right _ (mem_pinsAt hb e)))
          ⟨z.1, z.2.1⟩
        have J9 : Inv Xg pn1 σw H9 s9 := (I9.unpinned (pins := pn1)).weak (wipe_back hw8).1 (wipe_back hw8).2
        have ga : s9.heap.get? a = some ob := (J9.pin (a, ob) (List.mem_append_right _ hpa)).1
        have st9 : tn1 (i + 1) s9.heap := T.keep _ _ _ st7 fun b hb o e => (pin9 b hb o e).1
        have n9 : ∀ b ∈ fp1, H9 b = none := fun b hb => by
          obtain ⟨o, e, _⟩ := T.obj _ _ st7 b hb
          exact (pin9 b hb o e).2
        refine seg_at (seg_yield rfl rfl rfl ⟨rfl, J9.bare, J9.nolimit, hgen _ ga, fun s'' e1 e2 e3 => ?_⟩)
        exact seg_again rfl (ih (i + 1) N s'' s'' (by omega) hlt (by omega) ⟨H9, inv_gens J9 e1 e2 e3, e9, n9⟩ (by rw [e1]; exact st9))
      · rw [hxe] at z; exact z.elim
    · rw [hxe] at z; exact z.elim
end
end GX
set_option Elab.async false
set_option linter.all false
set_option maxRecDepth 100000
set_option maxHeartbeats 4000000
namespace GX
open PySem PySem.Spec PyProof.Rows L2 GenW GxR
open Sem (wp)

section
variable {Xg : Cx} {A : Around} {ob : Obj} {a : Addr} {gi : Nat} {elt tg iter tg1 iter1 : Expr} {scope : Scope} {pos : Pos} {it : Addr} {fp : List Addr} {tn : Nat → Heap → Prop} {J : It} {Ph : Hp → Prop} {σw : L2.St} {vs vs1 : List Nat} {n mx : Nat} {g g1 : TG} {te : TE} {wi1 : TI}

theorem seg_two (hX : Xg.A = A.over (.compLoop (.GeneratorExp elt [⟨tg, iter, [], 0⟩, ⟨tg1, iter1, [], 0⟩] scope pos) 0 (.ref it) .none Xg.env) []) (hc : Xg.calm = true) (hxe : Xg.xe = fun _ _ => False) (hex : Xg.ex = fp) (hpn : Xg.pn = []) (hafp : a ∉ fp) (hgen : ∀ h : Heap, h.get? a = some ob → h.IsGen a gi)
    (hco : Xg.env.scope.isCoroutine = false) (T : Turn Xg.prog Xg.w Xg.K tg J fp it tn) (hv : ∀ i ∈ vs1, i ∈ vs)
    (pg : PG Xg tg g) (pi1 : PI Xg tg1 iter1 wi1) (pg1 : PG Xg tg1 g1) (pe : PE Xg elt te) (hs1 : ∀ x, foldedSetIterable iter1 Xg.env x = pure x)
    (go : ∀ i H, i < n → Ph H → J.go i H) (stop : ∀ H, Ph H → J.stop n H)
    (step : ∀ i x H H', i < n → Ph H → J.yld i H x H' → g x σw H' fun σ2 H2 => wipe σ2 vs = σw ∧ wi1 σ2 H2 fun J1 H3 => Ph H3 ∧ ∃ m, m ≤ mx ∧ (∀ j H, j < m → Ph H → J1.go j H) ∧ (∀ H, Ph H → J1.stop m H) ∧
      ∀ j y H H', j < m → Ph H → J1.yld j H y H' → g1 y (wipe σ2 vs1) H' fun σ3 H4 => wipe σ3 vs1 = wipe σ2 vs1 ∧ te σ3 H4 fun v H5 => Ph H5 ∧ v = .bl false) :
    ∀ (k i N : Nat) (s₀ s : Shared), n - i = k → i ≤ n → k * mx ≤ N → GSt Xg [(a, ob)] σw Ph fp s → tn i s.heap →
      Seg (model Xg.prog Xg.w) A (GR0 (GSt Xg [(a, ob)] σw Ph fp)) (GY0 a gi) N s₀ (.compLoop (.GeneratorExp elt [⟨tg, iter, [], 0⟩, ⟨tg1, iter1, [], 0⟩] scope pos) 0 (.ref it) .none Xg.env)
        ((model Xg.prog Xg.w).den (.compLoop (.GeneratorExp elt [⟨tg, iter, [], 0⟩, ⟨tg1, iter1, [], 0⟩] scope pos) 0 (.ref it) .none Xg.env)) [] s := by
  have hpf : ∀ p ∈ Xg.pn ++ [(a, ob)], p.1 ∉ fp := fun p hp => by
    rw [hpn] at hp
    have : p = (a, ob) := by simpa using hp
    rw [this]; exact hafp
  intro k
  induction k with
  | zero =>
    intro i N s₀ s hk hi hN G st
    obtain ⟨H, I, ph, nfp⟩ := G
    have hin : i = n := by omega
    subst hin
    show Seg _ A _ _ _ s₀ _ ((compTurn (.GeneratorExp elt [⟨tg, iter, [], 0⟩, ⟨tg1, iter1, [], 0⟩] scope pos) 0 (.ref it) .none Xg.env).onRaise (leaving Xg.env)) [] s
    rw [turn_out, Sem.onRaise_eq_wrap]
    refine seg_bind_wrap (wpAny_standAt ?_)
    refine seg_bind_wrap ?_
    rw [← hX]
    refine thnF (T.done Xg rfl rfl rfl hc i _ s σw H (fun _ _ => False) I (stat_ex I hex hpf nfp) st (stop H ph)) fun r s6 ⟨hr, I6⟩ => ?_
    subst hr
    exact seg_end (.ok .next) ⟨rfl, H, I6, ph, nfp⟩
  | succ k ih =>
    intro i N s₀ s hk hi hN G st
    obtain ⟨H, I, ph, nfp⟩ := G
    have hlt : i < n := by omega
    show Seg _ A _ _ _ s₀ _ ((compTurn (.GeneratorExp elt [⟨tg, iter, [], 0⟩, ⟨tg1, iter1, [], 0⟩] scope pos) 0 (.ref it) .none Xg.env).onRaise (leaving Xg.env)) [] s
    rw [turn_out, Sem.onRaise_eq_wrap]
    refine seg_bind_wrap (wpAny_standAt ?_)
    refine seg_bind_wrap ?_
    rw [← hX]
    refine thnF (T.item Xg rfl rfl rfl hc i _ s σw H (fun _ _ => False) I (stat_ex I hex hpf nfp) st (go i H hlt ph)) fun r s6 ⟨u, hr, h6⟩ => ?_
    subst hr
    refine seg_bind_wrap ?_
    rw [← hX]
    refine thnF h6 fun _ s7 ⟨x, H7, I7, r7, y7, st7, n7⟩ => ?_
    have q7 := step i x H H7 hlt ph y7
    have I7' := I7.pinned (stat_ex I7 hex hpf n7) (T.obj _ _ st7)
    refine seg_bind_wrap ?_
    rw [← hX]
    refine wpAny_mono (pg.run _ s7 σw H7 x u _ I7' r7 q7) (fun _ s8 ⟨σ8, H8, I8, hw8, q8⟩ => ?_) fun e s' z => ?_
    · refine seg_bind_wrap ?_
      rw [← hX]
      refine wpAny_mono (pi1.run _ s8 σ8 H8 _ I8 q8) (fun xv s9 h9 => ?_) fun e s' z => ?_
      · refine seg_bind_wrap (wpAny_standAt ?_)
        refine seg_bind_wrap (wpAny_of_eq (hs1 xv) ?_)
        refine seg_bind_wrap (wpAny_holding ?_)
        rw [← hX]
        refine wpAny_mono h9 (fun itv s10 h10 => ?_) fun e s' z => ?_
        · obtain ⟨it1, fp1, tn1, J1, H11, e1, I11, T1, st11, f11, ph11, m, hm, go1, stop1, step1⟩ := h10
          subst e1
          have hk8 : ∀ (j : Nat) v, σw[j]? = some (some v) → (wipe σ8 vs1)[j]? = some (some v) := fun j v e => by
            rw [← hw8] at e
            obtain ⟨e1, e2⟩ := wipe_some e
            rw [wipe_out fun z => e2 (hv j z)]
            exact e1
          have hl8 : σw.length = (wipe σ8 vs1).length := by rw [← hw8, wipe_length, wipe_length]
          refine seg_call fun p => ?_
          have more : ∀ (N' : Nat) (s₀' s' : Shared), k * mx ≤ N' → GSt Xg ([(a, ob)] ++ pinsAt fp s7.heap) (wipe σ8 vs1) Ph fp1 s' → Seg (model Xg.prog Xg.w) A (GR0 (GSt Xg [(a, ob)] σw Ph fp)) (GY0 a gi) N' s₀' (.compLoop (.GeneratorExp elt [⟨tg, iter, [], 0⟩, ⟨tg1, iter1, [], 0⟩] scope pos) 0 (.ref it) .none Xg.env)
              (.pure (.again (.compLoop (.GeneratorExp elt [⟨tg, iter, [], 0⟩, ⟨tg1, iter1, [], 0⟩] scope pos) 0 (.ref it) .none Xg.env))) [] s' := fun N' s₀' s' hN' G' => by
            obtain ⟨H', I', ph', nf'⟩ := G'
            have pin' : ∀ b ∈ fp, ∀ o, s7.heap.get? b = some o → s'.heap.get? b = some o ∧ H' b = none := fun b hb o e =>
              let z := I'.pin (b, o) (List.mem_append_right _ (List.mem_append_right _ (mem_pinsAt hb e)))
              ⟨z.1, z.2.1⟩
            exact seg_again rfl (ih (i + 1) N' s₀' s' (by omega) hlt hN' ⟨H', (I'.unpinned (pins := [(a, ob)])).weak hl8 hk8, ph', fun b hb => by
              obtain ⟨o, e, _⟩ := T.obj _ _ st7 b hb
              exact (pin' b hb o e).2⟩ (T.keep _ _ _ st7 fun b hb o e => (pin' b hb o e).1))
          have hN1 : m + k * mx ≤ N := by rw [Nat.succ_mul] at hN; omega
          have G11 : GSt Xg ([(a, ob)] ++ pinsAt fp s7.heap) (wipe σ8 vs1) Ph fp1 s10 := ⟨H11, I11.weak (wipe_length _ _) (fun j v e => (wipe_some e).1), ph11, fun b hb => (f11 b hb).1⟩
          show Seg _ A _ _ _ s₀ _ ((compStart (.GeneratorExp elt [⟨tg, iter, [], 0⟩, ⟨tg1, iter1, [], 0⟩] scope pos) 1 (.ref it1) .none Xg.env).onRaise (fun x => do noteFrame x Xg.env; standAt theWindowsPlace)) _ s10
          unfold compStart
          rw [Sem.onRaise_eq_wrap]
          show Seg _ A _ _ _ s₀ _ ((ask >>= _).wrap _ _ _ _) _ s10
          refine seg_bind_wrap (wpAny_askSetting ?_)
          split
          · exact seg_again rfl (seg_inner (rest := k * mx) (m := m) rfl hX rfl hc hxe (List.mem_append_left _ (List.mem_singleton.mpr rfl)) hgen hco T1 (fun H b hb hn => ⟨hn, (f11 b hb).2⟩) pg1 pe go1 stop1 step1 (fun N' s₀' s' hN' G' => more N' s₀' s' hN' G') m 0 N s₀ s10 (Nat.sub_zero _) (Nat.zero_le _) hN1 G11 st11)
          · first
              | exact seg_bind_wrap (wpAny_rule (seg_bind_wrap (wpAny_standAt (seg_bind_wrap (T1.self _ 0 s10 _ _ st11 (seg_again rfl (seg_inner (rest := k * mx) (m := m) rfl hX rfl hc hxe (List.mem_append_left _ (List.mem_singleton.mpr rfl)) hgen hco T1 (fun H b hb hn => ⟨hn, (f11 b hb).2⟩) pg1 pe go1 stop1 step1 (fun N' s₀' s' hN' G' => more N' s₀' s' hN' G') m 0 N s₀ s10 (Nat.sub_zero _) (Nat.zero_le _) hN1 G11 st11)))))))
              | (refine seg_bind_wrap (wpAny_rule ?_); show Seg _ A _ _ _ s₀ _ ((standAt iter1.pos >>= _).wrap _ _ _ _) _ s10; exact seg_bind_wrap (wpAny_standAt (seg_bind_wrap (T1.self _ 0 s10 _ _ st11 (seg_again rfl (seg_inner (rest := k * mx) (m := m) rfl hX rfl hc hxe (List.mem_append_left _ (List.mem_singleton.mpr rfl)) hgen hco T1 (fun H b hb hn => ⟨hn, (f11 b hb).2⟩) pg1 pe go1 stop1 step1 (fun N' s₀' s' hN' G' => more N' s₀' s' hN' G') m 0 N s₀ s10 (Nat.sub_zero _) (Nat.zero_le _) hN1 G11 st11))))))
        · rw [hxe] at z; exact z.elim
      · rw [hxe] at z; exact z.elim
    · rw [hxe] at z; exact z.elim

/-- the generator's code begins -/
theorem seg_start {rest : List Comprehension} {F : Shared → Prop} {N : Nat} {s₀ s : Shared} {P : Program} {w : World} {K : PySem.W.Frag} {env : Env} {i : Nat} (T : Turn P w K tg J fp it tn) (st : tn i s.heap)
    (loop : Seg (model P w) A (GR0 F) (GY0 a gi) N s₀ (.compLoop (.GeneratorExp elt (⟨tg, iter, [], 0⟩ :: rest) scope pos) 0 (.ref it) .none env) ((model P w).den (.compLoop (.GeneratorExp elt (⟨tg, iter, [], 0⟩ :: rest) scope pos) 0 (.ref it) .none env)) [] s) :
    Seg (model P w) A (GR0 F) (GY0 a gi) N s₀ (.compStart (.GeneratorExp elt (⟨tg, iter, [], 0⟩ :: rest) scope pos) 0 (.ref it) .none env) ((model P w).den (.compStart (.GeneratorExp elt (⟨tg, iter, [], 0⟩ :: rest) scope pos) 0 (.ref it) .none env)) [] s := by
  show Seg _ A _ _ _ s₀ _ ((compStart (.GeneratorExp elt (⟨tg, iter, [], 0⟩ :: rest) scope pos) 0 (.ref it) .none env).onRaise (leaving env)) [] s
  unfold compStart
  rw [Sem.onRaise_eq_wrap]
  show Seg _ A _ _ _ s₀ _ ((ask >>= _).wrap _ _ _ _) [] s
  refine seg_bind_wrap (wpAny_askSetting ?_)
  split
  · exact seg_again rfl loop
  · first
      | exact seg_bind_wrap (wpAny_rule (seg_bind_wrap (wpAny_standAt (seg_bind_wrap (T.self _ i s _ _ st (seg_again rfl loop))))))
      | (refine seg_bind_wrap (wpAny_rule ?_); show Seg _ A _ _ _ s₀ _ ((standAt iter.pos >>= _).wrap _ _ _ _) [] s; exact seg_bind_wrap (wpAny_standAt (seg_bind_wrap (T.self _ i s _ _ st (seg_again rfl loop)))))
end

theorem bare_setGen {s : Shared} {g : Nat} {x : GenState} (h : AllBare s.gens) (hx : x.bare = true) : AllBare (s.setGen g x).gens := fun y hy => by
  obtain ⟨i, hi, e⟩ := Array.mem_iff_getElem.mp hy
  have hi' : i < s.gens.size := by
    have q : (s.setGen g x).gens.size = s.gens.size := setGen_size s g x
    rw [q] at hi; exact hi
  by_cases z : i = g
  · subst z
    have q : (s.setGen i x).gens[i]? = some x := by
      show (s.gens.setIfInBounds i x)[i]? = some x
      simp [hi']
    have q2 : (s.setGen i x).gens[i]? = some y := by rw [Array.getElem?_eq_getElem hi, e]
    rw [q] at q2; cases q2; exact hx
  · have q : (s.setGen g x).gens[i]? = s.gens[i]? := by
      show (s.gens.setIfInBounds g x)[i]? = _
      rw [Array.getElem?_setIfInBounds_ne (Ne.symm z)]
    have q2 : s.gens[i]? = some y := by rw [← q, Array.getElem?_eq_getElem hi, e]
    exact h y (Array.mem_of_getElem? q2)
theorem setGen_get {s : Shared} {g : Nat} {x : GenState} (h : g < s.gens.size) : (s.setGen g x).gens[g]? = some x := by
  show (s.gens.setIfInBounds g x)[g]? = some x
  simp [h]

/-- any(..) draws the generator to its end -/
theorem any_loop {P : Program} {w : World} {A : Around} {a : Addr} {g : Nat} {Fs : Shared → Prop} {R : Result → Shared → Prop} (hh : A.handled = none) (hd : A.depth < recursionLimit)
    (hend : ∀ (s₁ : Shared) (h' : Heap), Fs s₁ → (∀ b o, s₁.heap.get? b = some o → h'.get? b = some o) → R (.ok (.ret (.bool false))) { s₁.setGen g .finished with heap := h' }) :
    ∀ (m : Nat) (s : Shared), s.heap.IsGen a g → s.heap.NoLimit → AllBare s.gens → (∃ gs, s.gens[g]? = some gs ∧ gs.Goes (model P w) A.in1.in1 (GR0 Fs) (GY0 a g) m (.send .none) (s.setGen g .running)) →
      codeAny (model P w) A (.builtin "any.loop" ⟨[.ref a], []⟩) R s := by
  intro m
  induction m with
  | zero =>
    intro s hg hl hb ⟨gs, hgs, hgo⟩
    refine codeAny_builtin F.entry_any_loop ?_
    rw [Around.under_plainId F.plain_any_loop _]
    show wpAny _ A.in1 (pyNext (.ref a) >>= _) _ _ s
    refine wpAny_bind (wpAny_pyNext_genexpQ (A := A.in1) (P := fun _ _ s₁ => Fs s₁) hh hl hd hg hgs hgo (fun v s₁ gs' hbare hv => ?_) fun s₁ hp h' hk => ?_)
    · obtain ⟨_, b1, _, _, hk⟩ := hv
      exact False.elim (hk s₁ rfl rfl b1)
    · exact wpAny_bind (wpAny_rule (wpAny_pure (hend s₁ h' hp hk)))
  | succ m ih =>
    intro s hg hl hb ⟨gs, hgs, hgo⟩
    have hgl : g < s.gens.size := (Array.getElem?_eq_some_iff.mp hgs).1
    refine codeAny_builtin F.entry_any_loop ?_
    rw [Around.under_plainId F.plain_any_loop _]
    show wpAny _ A.in1 (pyNext (.ref a) >>= _) _ _ s
    refine wpAny_bind (wpAny_gsz (n := g + 1) hgl (wpAny_pyNext_genexpQ (A := A.in1) (P := fun _ _ s₁ => Fs s₁) hh hl hd hg hgs hgo (fun v s₁ gs' hbare hv => ?_) fun s₁ hp h' hk => ?_))
    · intro hsz
      obtain ⟨ev, b1, l1, g1, hk⟩ := hv
      subst ev
      have hsz1 : g < s₁.gens.size := by
        have q : (s₁.setGen g gs').gens.size = s₁.gens.size := setGen_size _ _ _
        have hsz' : g + 1 ≤ (s₁.setGen g gs').gens.size := hsz
        omega
      refine wpAny_bind (wpAny_holding (wpAny_truthy_bool ?_))
      refine wpAny_bind (wpAny_letGo ?_)
      simp only [Bool.false_eq_true, if_false]
      refine wpAny_pure ⟨plainId_quiet F.plain_any_loop _, ih (s₁.setGen g gs') g1 l1 (bare_setGen b1 hbare) ⟨gs', setGen_get hsz1, hk _ rfl rfl (bare_setGen (bare_setGen b1 hbare) rfl)⟩⟩
    · intro _
      exact wpAny_bind (wpAny_rule (wpAny_pure (hend s₁ h' hp hk)))
end GX
set_option Elab.async false
set_option linter.all false
set_option maxRecDepth 100000
set_option maxHeartbeats 4000000
namespace GX
open PySem PySem.Spec PyProof.Rows L2 GenW GxR
open Sem (wp)

theorem allBare_push {g : Array GenState} {x : GenState} (h : AllBare g) (hx : x.bare = true) : AllBare (g.push x) := AllBare.push h hx

/-- the generator has been made -/
def MadeG (X : Cx) (pins : List (Addr × Obj)) (σ : L2.St) (P : Addr) (tg : Expr) (scope : Scope) (ge : Expr) (R : It → Hp → Prop) (u : Value) (s5 : Shared) : Prop :=
  ∃ (a gi : Nat) (ob : Obj) (it : Addr) (fp : List Addr) (tn : Nat → Heap → Prop) (J : It) (H1 H2 : Hp) (s4 : Shared) (code : Value), u = .ref a ∧ R J H1 ∧ Tabbed P H1 H2 ∧ Inv X pins σ H2 s4 ∧ Turn X.prog X.w X.K tg J fp it tn ∧ tn 0 s5.heap ∧
    (∀ b ∈ fp, FpOk X pins H2 b ∧ b < s4.heap.objs.size) ∧ (∃ m, s5.heap.Ns s4.heap.objs.size m) ∧ (∀ b o, s4.heap.get? b = some o → s5.heap.get? b = some o) ∧ s5.heap.get? a = some ob ∧ s4.heap.objs.size < a ∧ (∀ v, ob.data ≠ .cell v) ∧
    (∀ h : Heap, h.get? a = some ob → h.IsGen a gi) ∧ s5.os = s4.os ∧ AllBare s5.gens ∧ s5.gens[gi]? = some (.fresh (.compStart ge 0 (.ref it) .none (genEnv scope (cloFrom X.env.cells scope.names []) s4.heap.objs.size code builtinsNs X.env)))

section
variable {X : Cx} {pins : List (Addr × Obj)} {σ : L2.St} {H : Hp} {s : Shared}
theorem gen_core {c P : Addr} {elt tg iter : Expr} {rest : List Comprehension} {gpos : Pos} {scope : Scope} {wi : TI} {k : Nat} {R : It → Hp → Prop}
    (hr : Room k X.A) (TB : LamX.TabB X.base X.mg c P) (hcode : X.env.code = .ref c) {own : List (Str × Nat)} (ok : BlkOk X.N X.env.scope scope own) (gs : GSc scope) (hi : PI X tg iter wi)
    (hs : ∀ v, genFold iter X.env v = pure v) (I : Inv X pins σ H s) (h : wi σ H fun J H1 => TabG H1 P ∧ R J H1) :
    wpAny (model X.prog X.w) X.A (eval (.GeneratorExp elt (⟨tg, iter, [], 0⟩ :: rest) scope gpos) X.env) (MadeG X pins σ P tg scope (.GeneratorExp elt (⟨tg, iter, [], 0⟩ :: rest) scope gpos) R) X.xe s := by
  have hfree : ∀ y ∈ scope.names, y.2 = .free → ∃ c, X.env.cells.lookup y.1 = some c := fun y hy e => by
    rcases ok.free y hy e with k | k
    · exact I.ok.has _ (.inl k)
    · exact I.ok.has _ (.inr k)
  refine gen_make gs.co (closure_ok hfree) gs.cell gs.dot ok.kind (by have := hr.dp; omega) ?_ hs
  refine thn (hi.run pins s σ H _ I h) fun xv s1 hx => thn hx fun itv s2 h2 => ?_
  obtain ⟨it, fp, tn, J, H1, e, I1, T, st2, f2, ⟨ps, hP, ht⟩, q⟩ := h2
  subst e
  refine ⟨I1.nolimit, ?_⟩
  have hPs : s2.heap.get? P = some { cls := .none, data := .fields ps } := I1.hok P _ hP
  have cd : PySem.W.CodeHd s2.heap c P := TB.code.keeps fun b u e => I1.bk b u e
  have sz : ∀ b ∈ fp, b < s2.heap.objs.size := fun b hb => by
    obtain ⟨o, e, _⟩ := T.obj _ _ st2 b hb
    exact Heap.lt_size e
  have nfP : ∀ b ∈ fp, b ≠ P := fun b hb z => by
    have h1 := (f2 b hb).1
    rw [z, hP] at h1; cases h1
  have cont : ∀ (code : Value) (h3 : Heap) (tk : Nat) (ps' : Array Value), Heap.ExtBut P s2.heap h3 → s2.heap.objs.size ≤ h3.objs.size → h3.get? P = some { cls := .none, data := .fields ps' } → (∃ more, ps' = ps ++ more) → TriplesOk ps'.toList →
      wpAny (model X.prog X.w) X.A (builtinsFor X.env.globals X.env.builtins) (fun bi s₄ =>
        ∀ h', h'.Ns s₄.heap.objs.size (fun y => if y = ".0" then some (.ref it) else none) → Heap.SameBut s₄.heap.objs.size (s₄.heap.push { cls := .type "frame", data := .dict #[] }) h' →
          MadeG X pins σ P tg scope (.GeneratorExp elt (⟨tg, iter, [], 0⟩ :: rest) scope gpos) R (.ref h'.objs.size) { s₄ with
            gens := s₄.gens.push (.fresh (.compStart (.GeneratorExp elt (⟨tg, iter, [], 0⟩ :: rest) scope gpos) 0 (.ref it) .none (genEnv scope (cloFrom X.env.cells scope.names []) s₄.heap.objs.size code bi X.env))),
            toks := s₄.toks + 1 + 1 + 1,
            heap := h'.push { cls := .type "generator", data := .fields #[.int s₄.gens.size 0, .str "<genexpr>" (s₄.toks + 1), .str (X.env.qual ++ "<genexpr>") (s₄.toks + 1 + 1)] } }) X.xe { s2 with heap := h3, toks := tk } := by
    intro code h3 tk ps' hx hsz hP3 hmore ht3
    obtain ⟨bm, ob, e1, e2, e3, e4, e5, e6, e7, e8⟩ := TB.bm
    have keep3 : ∀ b u, b ≠ P → s2.heap.get? b = some u → h3.get? b = some u := fun b u hb e => hx b u hb e
    refine wpAny_builtinsFor (m := X.mg) (by rw [I1.ok.glob]; exact (I1.mod.glob.keeps I1.bk).extBut hx TB.gP) e1 e2 (keep3 _ _ e4 (I1.bk _ _ e5)) e6 e7 e8 ?_
    intro h' hn' hs'
    obtain ⟨more, em⟩ := hmore
    have I4 : Inv X pins σ (upd H1 P (.tbl (ps ++ more))) { s2 with heap := h3, gens := s2.gens, drawn := s2.drawn, toks := tk } :=
      inv_tab (more := more) (h' := h3) (g' := s2.gens) (d' := s2.drawn) (t' := tk) I1 hP (fun b u hb e => keep3 b u hb e) (by rw [← em]; exact hP3) I1.bare
    have hsz' : h'.objs.size = h3.objs.size + 1 := by rw [hs'.1, Heap.size_push]
    have keep' : ∀ b o, h3.get? b = some o → h'.get? b = some o := fun b o e => hs'.extBut b o (Nat.ne_of_lt (Heap.lt_size e)) (Heap.get?_push_of_some _ e)
    refine ⟨h'.objs.size, s2.gens.size, _, it, fp, tn, J, H1, upd H1 P (.tbl (ps ++ more)), { s2 with heap := h3, gens := s2.gens, drawn := s2.drawn, toks := tk }, code, rfl, q, ⟨⟨ps ++ more, upd_same, by rw [← em]; exact ht3⟩, fun b hb => upd_ne hb⟩, I4, T,
      T.keep _ _ _ st2 fun b hb o e => Heap.get?_push_of_some _ (keep' b o (keep3 b o (nfP b hb) e)), fun b hb => ⟨⟨by rw [upd_ne (nfP b hb)]; exact (f2 b hb).1, (f2 b hb).2⟩, Nat.lt_of_lt_of_le (sz b hb) hsz⟩, ⟨_, hn'.push _⟩, fun b o e => Heap.get?_push_of_some _ (keep' b o e),
      Heap.get?_push_size _ rfl, by show h3.objs.size < h'.objs.size; omega, fun v z => (by cases z), fun h e => ⟨_, _, _, e, rfl, rfl, rfl⟩, rfl, allBare_push I1.bare rfl, Array.getElem?_push_size ..⟩
  cases hf : codeAmong gpos ps.toList with
  | none =>
    refine wpAny_genexprCodeX hcode (cd.code hPs ht) (cd.tab hPs) hf fun c' h' tk hx hge hlt hco' _ htab' _ => ?_
    obtain ⟨o1, vs, f1, tf, fl, tg, inF, tx, tt, op, _, _, _, _, _, _, _, _, _, htr, _⟩ := hco'
    exact cont _ h' tk _ hx (Nat.le_trans hge (Nat.le_of_lt hlt)) htab'.2 ⟨_, rfl⟩ htr
  | some cv =>
    refine wpAny_genexprCode_hit hcode (cd.code hPs ht) hf ?_
    exact cont cv s2.heap s2.toks ps (Heap.ExtBut.refl _ _) (Nat.le_refl _) hPs ⟨#[], by simp⟩ ht

/-- the room of a generator's frame under any(..) -/
theorem room_gen {k : Nat} {ge : Expr} {it : Value} {cenv : Env} {A : Around} (hr : Room (k + 3) A) (hge : ∃ elt gens scope pos, ge = .GeneratorExp elt gens scope pos) : Room k (A.in1.in1.over (.compLoop ge 0 it .none cenv) []) := by
  obtain ⟨elt, gens, scope, pos, rfl⟩ := hge
  have h := hr.in1.in1
  exact ⟨h.hd, by have := h.dp; show A.in1.in1.depth + 1 + 3 * k + 5 < _; omega, by have := h.un; show A.in1.in1.units + 3 + 16 * k + 200 < _; omega⟩

/-- any(test for tg in iter), every test False; Ph: the heaps on the way; behind it the def's table may have grown -/
def tAny1 (P : Addr) (wi : TI) (g : TG) (te : TE) (vs : List Nat) : TE := fun σ H Q => wi σ H fun J H1 => TabG H1 P ∧ ∀ H2, Tabbed P H1 H2 → ∃ (n : Nat) (Ph : Hp → Prop), Ph H2 ∧ (∀ i H, i < n → Ph H → J.go i H) ∧ (∀ H, Ph H → J.stop n H) ∧
  (∀ i x H H', i < n → Ph H → J.yld i H x H' → g x (wipe σ vs) H' fun σ2 H3 => wipe σ2 vs = wipe σ vs ∧ te σ2 H3 fun v H4 => Ph H4 ∧ v = .bl false) ∧ ∀ H', Ph H' → Q (.bl false) H'
/-- any(test for tg in iter for tg1 in iter1) -/
def tAny2 (P : Addr) (wi : TI) (g : TG) (wi1 : TI) (g1 : TG) (te : TE) (vs vs1 : List Nat) : TE := fun σ H Q => wi σ H fun J H1 => TabG H1 P ∧ ∀ H2, Tabbed P H1 H2 → ∃ (n mx : Nat) (Ph : Hp → Prop), Ph H2 ∧ (∀ i H, i < n → Ph H → J.go i H) ∧ (∀ H, Ph H → J.stop n H) ∧
  (∀ i x H H', i < n → Ph H → J.yld i H x H' → g x (wipe σ vs) H' fun σ2 H2 => wipe σ2 vs = wipe σ vs ∧ wi1 σ2 H2 fun J1 H3 => Ph H3 ∧ ∃ m, m ≤ mx ∧ (∀ j H, j < m → Ph H → J1.go j H) ∧ (∀ H, Ph H → J1.stop m H) ∧
      ∀ j y H H', j < m → Ph H → J1.yld j H y H' → g1 y (wipe σ2 vs1) H' fun σ3 H4 => wipe σ3 vs1 = wipe σ2 vs1 ∧ te σ3 H4 fun v H5 => Ph H5 ∧ v = .bl false) ∧ ∀ H', Ph H' → Q (.bl false) H'

/-- from the made generator: any(..) gives False -/
theorem any_made {P : Addr} {tg elt iter : Expr} {rest : List Comprehension} {scope : Scope} {gpos : Pos} {own : List (Str × Nat)} {k : Nat} {R : It → Hp → Prop} {u : Value} {s5 : Shared} {Q : VK} (hr : Room (k + 3) X.A) (hc : X.calm = true) (hN : X.N.Nodup) (ok : BlkOk X.N X.env.scope scope own) (gs : GSc scope)
    (h : MadeG X pins σ P tg scope (.GeneratorExp elt (⟨tg, iter, [], 0⟩ :: rest) scope gpos) R u s5)
    (hR : ∀ (J : It) (H1 H2 : Hp), R J H1 → Tabbed P H1 H2 → ∃ (N : Nat) (Ph : Hp → Prop), Ph H2 ∧ (∀ H', Ph H' → Q (.bl false) H') ∧
      ∀ (a gi : Nat) (ob : Obj) (it : Addr) (fp : List Addr) (tn : Nat → Heap → Prop) (s4 : Shared) (code : Value) (A' : Around), A' = X.A.in1.in1 → Turn X.prog X.w X.K tg J fp it tn → a ∉ fp → (∀ h : Heap, h.get? a = some ob → h.IsGen a gi) →
        Room k (A'.over (.compLoop (.GeneratorExp elt (⟨tg, iter, [], 0⟩ :: rest) scope gpos) 0 (.ref it) .none (genEnv scope (cloFrom X.env.cells scope.names []) s4.heap.objs.size code builtinsNs X.env)) []) →
        ∀ (s₀ s : Shared), GSt (gcx X s4 H2 (genEnv scope (cloFrom X.env.cells scope.names []) s4.heap.objs.size code builtinsNs X.env) fp (A'.over (.compLoop (.GeneratorExp elt (⟨tg, iter, [], 0⟩ :: rest) scope gpos) 0 (.ref it) .none (genEnv scope (cloFrom X.env.cells scope.names []) s4.heap.objs.size code builtinsNs X.env)) [])) [(a, ob)] (wipe σ (own.map (·.2))) Ph fp s → tn 0 s.heap →
          Seg (model X.prog X.w) A' (GR0 (GSt (gcx X s4 H2 (genEnv scope (cloFrom X.env.cells scope.names []) s4.heap.objs.size code builtinsNs X.env) fp (A'.over (.compLoop (.GeneratorExp elt (⟨tg, iter, [], 0⟩ :: rest) scope gpos) 0 (.ref it) .none (genEnv scope (cloFrom X.env.cells scope.names []) s4.heap.objs.size code builtinsNs X.env)) [])) [(a, ob)] (wipe σ (own.map (·.2))) Ph fp)) (GY0 a gi) N s₀
            (.compLoop (.GeneratorExp elt (⟨tg, iter, [], 0⟩ :: rest) scope gpos) 0 (.ref it) .none (genEnv scope (cloFrom X.env.cells scope.names []) s4.heap.objs.size code builtinsNs X.env))
            ((model X.prog X.w).den (.compLoop (.GeneratorExp elt (⟨tg, iter, [], 0⟩ :: rest) scope gpos) 0 (.ref it) .none (genEnv scope (cloFrom X.env.cells scope.names []) s4.heap.objs.size code builtinsNs X.env))) [] s) :
    wpAny (model X.prog X.w) X.A (call (.builtin "any") [u]) (EP X pins σ Q) X.xe s5 := by
  obtain ⟨a, gi, ob, it, fp, tn, J, H1, H2, s4, code, rfl, q, htab, I4, T, st5, f4, hns, kp, ga, hal, hoc, hgen, hos, hb, hgs⟩ := h
  obtain ⟨N, Ph, ph2, hQ, hseg⟩ := hR J H1 H2 q htab
  have hA : X.A.handled = none := I4.ok.hd hc
  have hafp : a ∉ fp := fun z => absurd (Nat.lt_trans hal (f4 a z).2) (Nat.lt_irrefl _)
  have hF : (X.A.in1.in1.over (.compLoop (.GeneratorExp elt (⟨tg, iter, [], 0⟩ :: rest) scope gpos) 0 (.ref it) .none (genEnv scope (cloFrom X.env.cells scope.names []) s4.heap.objs.size code builtinsNs X.env)) []).frames = some (genEnv scope (cloFrom X.env.cells scope.names []) s4.heap.objs.size code builtinsNs X.env :: X.stack) := by
    have hf : X.A.frames = some X.stack := I4.ok.frames
    show pushEnvs [genEnv scope (cloFrom X.env.cells scope.names []) s4.heap.objs.size code builtinsNs X.env] X.A.frames = _
    rw [hf]
    rfl
  have I5 := gen_start (s5 := s5) (code := code) (a := a) (ob := ob) (A := X.A.in1.in1.over (.compLoop (.GeneratorExp elt (⟨tg, iter, [], 0⟩ :: rest) scope gpos) 0 (.ref it) .none (genEnv scope (cloFrom X.env.cells scope.names []) s4.heap.objs.size code builtinsNs X.env)) []) I4 ok gs hN f4 hA hF hns kp ga hal hoc hos hb
  have g5 : s5.heap.IsGen a gi := hgen _ ga
  have l5 : s5.heap.NoLimit := I4.nolimit.keeps kp
  have hroom := room_gen (ge := .GeneratorExp elt (⟨tg, iter, [], 0⟩ :: rest) scope gpos) (it := .ref it) (cenv := genEnv scope (cloFrom X.env.cells scope.names []) s4.heap.objs.size code builtinsNs X.env) hr ⟨_, _, _, _, rfl⟩
  refine call_function_tree F.kind_any F.plain_any F.entry_any (F.args_any1 _) ?_
  unfold Builtin.«any»
  refine wpAny_bind (m := oneArg "any" _) (wpAny_pure ?_)
  refine wpAny_bind (wpAny_pyIter_gen g5 ?_)
  refine wpAny_pure ⟨plainId_quiet F.plain_any_loop _, any_loop (Fs := GSt (gcx X s4 H2 (genEnv scope (cloFrom X.env.cells scope.names []) s4.heap.objs.size code builtinsNs X.env) fp (X.A.in1.in1.over (.compLoop (.GeneratorExp elt (⟨tg, iter, [], 0⟩ :: rest) scope gpos) 0 (.ref it) .none (genEnv scope (cloFrom X.env.cells scope.names []) s4.heap.objs.size code builtinsNs X.env)) [])) [(a, ob)] (wipe σ (own.map (·.2))) Ph fp)
    hA hr.depth (fun s₁ h' G hk => ?_) N s5 g5 l5 hb ⟨_, hgs, rfl, ?_⟩⟩
  · obtain ⟨H', I', ph', nf'⟩ := G
    have J1 : Inv X pins σ H' { s₁.setGen gi .finished with heap := h' } := I4.call' (ch := fp) I'.os (I'.base.trans (Un.kept hk)) (I'.hok.kept hk) (bare_setGen I'.bare rfl) fun b hb => ⟨(f4 b hb).1.2.2.2.1, (f4 b hb).1.2.1, (f4 b hb).1.2.2.2.2.1, (f4 b hb).1.2.2.2.2.2⟩
    exact ⟨.bl false, H', J1, rfl, hQ H' ph'⟩
  · have I6 := inv_gens (s' := s5.setGen gi .running) I5 rfl rfl (bare_setGen hb rfl)
    exact seg_start (rest := rest) T st5 (hseg a gi ob it fp tn s4 code _ rfl T hafp hgen hroom _ _ ⟨H2, I6, ph2, fun b hb => (f4 b hb).1.1⟩ st5)

theorem pe_any1 {c P : Addr} {elt tg iter : Expr} {own : List (Str × Nat)} {p pos gpos : Pos} {scope : Scope} {wi : TI} {g : TG} {te : TE} {k : Nat}
    (hr : Room (k + 3) X.A) (hg : Gl X "any") (hm : X.mg "any" = none) (TB : LamX.TabB X.base X.mg c P) (hcode : X.env.code = .ref c) (hc : X.calm = true) (hN : X.N.Nodup) (hi : PI X tg iter wi) (ok : BlkOk X.N X.env.scope scope own) (gs : GSc scope)
    (hpg : ∀ (s : Shared) (H : Hp) (code : Value) (fp : List Addr) (A' : Around), PG (gcx X s H (genEnv scope (cloFrom X.env.cells scope.names []) s.heap.objs.size code builtinsNs X.env) fp A') tg g)
    (hpe : ∀ (s : Shared) (H : Hp) (code : Value) (fp : List Addr) (A' : Around), Room k A' → PE (gcx X s H (genEnv scope (cloFrom X.env.cells scope.names []) s.heap.objs.size code builtinsNs X.env) fp A') elt te)
    (hs : ∀ v, genFold iter X.env v = pure v := by intro _; rfl)
    (he : starEach [.GeneratorExp elt [⟨tg, iter, [], 0⟩] scope gpos] X.env = (false, eval (.GeneratorExp elt [⟨tg, iter, [], 0⟩] scope gpos) X.env) :: starEach [] X.env := by rfl) :
    PE X (.Call (.Name "any" p) [.GeneratorExp elt [⟨tg, iter, [], 0⟩] scope gpos] [] pos) (tAny1 P wi g te (own.map (·.2))) := by
  obtain ⟨vs, hvs⟩ : ∃ vs : List Nat, vs = own.map (·.2) := ⟨_, rfl⟩
  rw [← hvs]
  refine ⟨fun pins s σ H Q I h => ?_⟩
  refine wpAny_Call_Name_kw (ld_blt I hg hm boot_any ?_)
  refine PyProof.Rows.callWith_builtin1 ?_ he (by rfl)
  rw [he]
  show wpAny _ _ (spliced ((false, eval (.GeneratorExp elt [⟨tg, iter, [], 0⟩] scope gpos) X.env) :: backTo pos (starEach [] X.env))) _ _ s
  refine Calls.spliced_cons (thn (gen_core (rest := []) (R := fun J H1 => ∀ H2, Tabbed P H1 H2 → ∃ (n : Nat) (Ph : Hp → Prop), Ph H2 ∧ (∀ i H, i < n → Ph H → J.go i H) ∧ (∀ H, Ph H → J.stop n H) ∧
      (∀ i x H H', i < n → Ph H → J.yld i H x H' → g x (wipe σ vs) H' fun σ2 H3 => wipe σ2 vs = wipe σ vs ∧ te σ2 H3 fun v H4 => Ph H4 ∧ v = .bl false) ∧ ∀ H', Ph H' → Q (.bl false) H') hr TB hcode ok gs hi hs I h) fun u s5 hG => ?_)
  refine Calls.spliced_nil ?_
  refine any_made (k := k) (Q := Q) hr hc hN ok gs hG fun J H1 H2 q htab => ?_
  obtain ⟨n, Ph, p2, go, stop, step, hq⟩ := q H2 htab
  refine ⟨n, Ph, p2, hq, fun a gi ob it fp tn s4 code A' eA T hafp hgen hroom s₀ s G st => ?_⟩
  subst eA
  rw [← hvs] at G ⊢
  exact seg_one (Xg := gcx X s4 H2 (genEnv scope (cloFrom X.env.cells scope.names []) s4.heap.objs.size code builtinsNs X.env) fp _) (vs := vs) rfl hc rfl rfl rfl hafp hgen gs.co T (hpg _ _ _ _ _) (hpe _ _ _ _ _ hroom) go stop step n 0 n s₀ s (Nat.sub_zero _) (Nat.zero_le _) (Nat.le_refl _) G st

theorem pe_any2 {c P : Addr} {elt tg iter tg1 iter1 : Expr} {own : List (Str × Nat)} {vs1 : List Nat} {p pos gpos : Pos} {scope : Scope} {wi wi1 : TI} {g g1 : TG} {te : TE} {k : Nat}
    (hr : Room (k + 3) X.A) (hg : Gl X "any") (hm : X.mg "any" = none) (TB : LamX.TabB X.base X.mg c P) (hcode : X.env.code = .ref c) (hc : X.calm = true) (hN : X.N.Nodup) (hi : PI X tg iter wi) (ok : BlkOk X.N X.env.scope scope own) (gs : GSc scope) (hv : ∀ i ∈ vs1, i ∈ own.map (·.2))
    (hpg : ∀ (s : Shared) (H : Hp) (code : Value) (fp : List Addr) (A' : Around), PG (gcx X s H (genEnv scope (cloFrom X.env.cells scope.names []) s.heap.objs.size code builtinsNs X.env) fp A') tg g)
    (hpi1 : ∀ (s : Shared) (H : Hp) (code : Value) (fp : List Addr) (A' : Around), PI (gcx X s H (genEnv scope (cloFrom X.env.cells scope.names []) s.heap.objs.size code builtinsNs X.env) fp A') tg1 iter1 wi1)
    (hpg1 : ∀ (s : Shared) (H : Hp) (code : Value) (fp : List Addr) (A' : Around), PG (gcx X s H (genEnv scope (cloFrom X.env.cells scope.names []) s.heap.objs.size code builtinsNs X.env) fp A') tg1 g1)
    (hpe : ∀ (s : Shared) (H : Hp) (code : Value) (fp : List Addr) (A' : Around), Room k A' → PE (gcx X s H (genEnv scope (cloFrom X.env.cells scope.names []) s.heap.objs.size code builtinsNs X.env) fp A') elt te)
    (hs : ∀ v, genFold iter X.env v = pure v := by intro _; rfl) (hs1 : ∀ env v, foldedSetIterable iter1 env v = pure v := by intro _ _; rfl)
    (he : starEach [.GeneratorExp elt [⟨tg, iter, [], 0⟩, ⟨tg1, iter1, [], 0⟩] scope gpos] X.env = (false, eval (.GeneratorExp elt [⟨tg, iter, [], 0⟩, ⟨tg1, iter1, [], 0⟩] scope gpos) X.env) :: starEach [] X.env := by rfl) :
    PE X (.Call (.Name "any" p) [.GeneratorExp elt [⟨tg, iter, [], 0⟩, ⟨tg1, iter1, [], 0⟩] scope gpos] [] pos) (tAny2 P wi g wi1 g1 te (own.map (·.2)) vs1) := by
  obtain ⟨vs, hvs⟩ : ∃ vs : List Nat, vs = own.map (·.2) := ⟨_, rfl⟩
  rw [← hvs]
  refine ⟨fun pins s σ H Q I h => ?_⟩
  refine wpAny_Call_Name_kw (ld_blt I hg hm boot_any ?_)
  refine PyProof.Rows.callWith_builtin1 ?_ he (by rfl)
  rw [he]
  show wpAny _ _ (spliced ((false, eval (.GeneratorExp elt [⟨tg, iter, [], 0⟩, ⟨tg1, iter1, [], 0⟩] scope gpos) X.env) :: backTo pos (starEach [] X.env))) _ _ s
  refine Calls.spliced_cons (thn (gen_core (rest := [⟨tg1, iter1, [], 0⟩]) (R := fun J H1 => ∀ H2, Tabbed P H1 H2 → ∃ (n mx : Nat) (Ph : Hp → Prop), Ph H2 ∧ (∀ i H, i < n → Ph H → J.go i H) ∧ (∀ H, Ph H → J.stop n H) ∧
      (∀ i x H H', i < n → Ph H → J.yld i H x H' → g x (wipe σ vs) H' fun σ2 H2 => wipe σ2 vs = wipe σ vs ∧ wi1 σ2 H2 fun J1 H3 => Ph H3 ∧ ∃ m, m ≤ mx ∧ (∀ j H, j < m → Ph H → J1.go j H) ∧ (∀ H, Ph H → J1.stop m H) ∧
        ∀ j y H H', j < m → Ph H → J1.yld j H y H' → g1 y (wipe σ2 vs1) H' fun σ3 H4 => wipe σ3 vs1 = wipe σ2 vs1 ∧ te σ3 H4 fun v H5 => Ph H5 ∧ v = .bl false) ∧ ∀ H', Ph H' → Q (.bl false) H') hr TB hcode ok gs hi hs I h) fun u s5 hG => ?_)
  refine Calls.spliced_nil ?_
  refine any_made (k := k) (Q := Q) hr hc hN ok gs hG fun J H1 H2 q htab => ?_
  obtain ⟨n, mx, Ph, p2, go, stop, step, hq⟩ := q H2 htab
  refine ⟨n * mx, Ph, p2, hq, fun a gi ob it fp tn s4 code A' eA T hafp hgen hroom s₀ s G st => ?_⟩
  subst eA
  rw [← hvs] at G ⊢
  exact seg_two (Xg := gcx X s4 H2 (genEnv scope (cloFrom X.env.cells scope.names []) s4.heap.objs.size code builtinsNs X.env) fp _) (vs := vs) (mx := mx) rfl hc rfl rfl rfl hafp hgen gs.co T (by rw [hvs]; exact hv) (hpg _ _ _ _ _) (hpi1 _ _ _ _ _) (hpg1 _ _ _ _ _) (hpe _ _ _ _ _ hroom) (hs1 _) go stop step n 0 (n * mx) s₀ s (Nat.sub_zero _) (Nat.zero_le _) (Nat.le_refl _) G st
end
end GX
set_option Elab.async false
set_option linter.all false
set_option maxRecDepth 100000
set_option maxHeartbeats 4000000
namespace RX
open PySem PySem.Spec PyProof.Rows L2

set_option maxHeartbeats 1000000 in
theorem meets_enumerate_newB1 {v : Value} {o : Obj} {H : Heap → Prop} (B : Begins v o H) :
    Meets (Builtin.«enumerate.__new__» ⟨[.type "enumerate", v], []⟩) (fun _ R s => H s.heap ∧
      R (.ok (.ret (.ref (s.heap.push o).objs.size))) { s with heap := (s.heap.push o).push { cls := .type "enumerate", data := .fields #[.none, .bool false, .ref s.heap.objs.size, rawInt 0, .none, .none] } }) :=
  .of_wp fun prog w A R s h => by
    obtain ⟨hp, g, d, tk, os⟩ := s; obtain ⟨h1, h⟩ := h
    have hsub := sub_enumerate
    have q1 : ∀ {A' : Around} {E : Value → Shared → Prop} {Q : Value → Shared → Prop}, Q (.ref hp.objs.size) ⟨hp.push o, g, d, tk, os⟩ → wpAny (model prog w) A' (pyIter v) Q E ⟨hp, g, d, tk, os⟩ :=
      fun q => B.iter prog w _ _ ⟨hp, g, d, tk, os⟩ _ h1 q
    wp_walk using q1
    refine wpAny_stack_any fun st => wpAny_pure ?_
    split
    · rename_i c _ _ _ _ _
      cases (c == Value.type "enumerate")
      · wp_walk using q1
        exact ⟨_, rfl, h⟩
      · wp_walk using q1
        exact ⟨_, rfl, h⟩
    · wp_walk using q1
      exact ⟨_, rfl, h⟩
section
variable {prog : Program} {w : World} {A : Around} {E : Value → Shared → Prop} {s : Shared}
theorem enum_begins1 {v : Value} {o : Obj} {H : Heap → Prop} {Q : Value → Shared → Prop} (B : Begins v o H) (h1 : H s.heap)
    (h : ∀ h', IsEnum h' (s.heap.objs.size + 1) s.heap.objs.size 0 .none → h'.get? s.heap.objs.size = some o → h'.objs.size = s.heap.objs.size + 2 →
      (∀ b o, s.heap.get? b = some o → h'.get? b = some o) → Q (.ref (s.heap.objs.size + 1)) { s with heap := h' }) :
    wpAny (model prog w) A (call (.type "enumerate") [v]) Q E s := by
  refine callType_new F.called_enumerate (by decide) (F.typeCall_enumerate_1 _) (F.newCall_enumerate_1 _) (fun obj => F.args_object_init_2 obj _) F.entry_enumerate_new
    (meets_enumerate_newB1 B) ⟨h1, ?_⟩
  have hz : (s.heap.push o).objs.size = s.heap.objs.size + 1 := Heap.size_push ..
  show _ ∧ _
  rw [hz]
  have he : IsEnum ((s.heap.push o).push { cls := .type "enumerate", data := .fields #[.none, .bool false, .ref s.heap.objs.size, rawInt 0, .none, .none] }) (s.heap.objs.size + 1) s.heap.objs.size 0 .none := by
    have := Heap.get?_push_size (s.heap.push o) (o := { cls := .type "enumerate", data := .fields #[.none, .bool false, .ref s.heap.objs.size, rawInt 0, .none, .none] }) rfl
    rw [hz] at this; exact this
  refine ⟨⟨_, he, rfl⟩, h _ he (Heap.get?_push_of_some _ (Heap.get?_push_size _ B.free)) (by rw [Heap.size_push, hz]) fun b o x => Heap.get?_push_of_some _ (Heap.get?_push_of_some _ x)⟩
end

/-! ### enumerate(tuple) -/
/-- the tuple at a, each item in a new pair -/
def IteT (K : PySem.W.Frag) (a : Addr) : It :=
  ⟨fun i H => ∃ (xs : List V) (x : V), SqT K H a xs ∧ xs[i]? = some x, fun i H v H' => ∃ T x, v = .ref T ∧ H T = none ∧ H' = upd H T (.tup [.int (i : Nat), x]) ∧ ∀ xs, SqT K H a xs → xs[i]? = some x, fun i H => ∃ xs : List V, SqT K H a xs ∧ xs.length = i⟩
theorem turn_enumT {P : Program} {w : World} {K : PySem.W.Frag} {elts : List Expr} {kk : Nat} {tpos : Pos} (a e it : Addr) :
    Turn P w K (.Tuple elts kk tpos) (IteT K a) [e, it] e (fun i h => (∃ old, IsEnum h e it ((i : Nat) : Int) old) ∧ h.IsTupleIter it a i ∧ e ≠ it ∧ a ≠ e ∧ a ≠ it) where
  mem := by simp
  obj := fun i h st b hb => by
    obtain ⟨⟨old, he⟩, ⟨o, ho, hc, hd⟩, _⟩ := st
    have e' : b = e ∨ b = it := by simpa using hb
    rcases e' with z | z
    · rw [z]; exact ⟨_, he, fun v q => nomatch q⟩
    · rw [z]; exact ⟨o, ho, fun v q => by rw [hd] at q; cases q⟩
  keep := fun i h h' st k => let ⟨⟨old, he⟩, hi, hne⟩ := st; ⟨⟨old, k e (by simp) _ he⟩, hi.at fun o q => k it (by simp) o q, hne⟩
  item := by
    intro X hP hw hK hc i pins s σ H E I hf st hg
    subst hP hw hK
    obtain ⟨⟨old, he⟩, hit, hne, ha1, ha2⟩ := st
    obtain ⟨xs, x, hq, hx⟩ := hg
    obtain ⟨its, rv, p, hz⟩ := I.tuple hq
    obtain ⟨u, hu, ru⟩ := rv.get hx
    have hel : e < s.heap.objs.size := Heap.lt_size he
    have hil : it < s.heap.objs.size := by obtain ⟨_, q, _⟩ := hit; exact Heap.lt_size q
    have hlt : i < its.toArray.size := by
      have := (List.getElem?_eq_some_iff.mp hu).1
      simpa using this
    refine wpAny_pyNext_enum_itemD (Draws.tuple (prog := X.prog) (w := X.w) (A := X.A.in1) (I.ok.hd hc) it a ha2 its.toArray) he ⟨hit, (show s.heap.IsTuple a its.toArray from p)⟩ hlt hne (by simp [hne, ha1.symm]) fun x' h' tk hP ho hit' hT hsz hk => ?_
    have ex : x' = u := by
      have q : its.toArray[i]? = some x' := hP
      have q2 : its[i]? = some x' := by simpa using q
      rw [hu] at q2
      exact (Option.some.inj q2).symm
    subst ex
    refine ⟨_, rfl, wpAny_letOwnedTupleGo_enum (s := { s with heap := h', toks := tk + 1 }) ho fun h'' he' sb => ?_⟩
    have hT2 : h''.get? s.heap.objs.size = some { cls := .type "tuple", data := .seq #[.int i tk, x'] } := (sb.2 _ (Nat.ne_of_gt hel)).trans hT
    have new : ObjOk X.prog X.w (upd H s.heap.objs.size (.tup [.int (i : Nat), x])) h'' s.heap.objs.size (.tup [.int (i : Nat), x]) :=
      ⟨by show 2 ≤ sizeLine; decide, [.int i tk, x'], .cons ⟨_, rfl⟩ (.cons ru .nil), ⟨_, hT2, rfl, _, rfl⟩⟩
    have I1 : Inv X pins σ (upd H s.heap.objs.size (.tup [.int (i : Nat), x])) { s with heap := h'', toks := tk + 1 } :=
      I.turnedNew (ch := [e, it]) (fun b ob hb q => (sb.2 b (fun z => hb (by simp [z]))).trans (hk b ob (fun z => hb (by simp [z])) (fun z => hb (by simp [z])) q)) hf (Nat.le_refl _) new
    refine ⟨.ref s.heap.objs.size, _, I1, rfl, ⟨_, x, rfl, I.hok.fresh (Nat.le_refl _), rfl, fun ys hy => by rw [I.tuple_inj hy hq]; exact hx⟩, ⟨⟨x', ?_⟩, hit'.1.at fun o q => (sb.2 it (Ne.symm hne)).trans q, hne, ha1, ha2⟩, fun b hb => ?_⟩
    · have e1 : ((i + 1 : Nat) : Int) = (i : Int) + 1 := by omega
      rw [e1]; exact he'
    · have hb' : b < s.heap.objs.size := by
        have e' : b = e ∨ b = it := by simpa using hb
        rcases e' with z | z
        · rw [z]; exact hel
        · rw [z]; exact hil
      rw [upd_ne (Nat.ne_of_lt hb')]
      exact (hf b hb).1
  done := by
    intro X hP hw hK hc i pins s σ H E I hf st hg
    subst hP hw hK
    obtain ⟨⟨old, he⟩, hit, hne, ha1, ha2⟩ := st
    obtain ⟨xs, hq, hx⟩ := hg
    obtain ⟨its, rv, p, hz⟩ := I.tuple hq
    obtain ⟨f0, f1, f2, f3, f4, f5⟩ := hf it (by simp)
    have hl := rv.length
    have en : i = its.toArray.size := by simp; omega
    subst en
    exact wpAny_pyNext_enum_endD (Draws.tuple (prog := X.prog) (w := X.w) (A := X.A.in1) (I.ok.hd hc) it a ha2 its.toArray) he ⟨hit, (show s.heap.IsTuple a its.toArray from p)⟩ fun h' eb => ⟨rfl, I.turned (t' := s.toks) (fun b o hb q => eb b o hb q) f0 f1 f3 f4 f5⟩
  self := fun A i s Q E st h => let ⟨⟨_, he⟩, _⟩ := st; wpAny_pyIter_enum he h
def iEnumT (K : PySem.W.Frag) (ta : TA) : TI := fun σ H R => ta σ H fun vs H1 => ∃ a xs, vs = [.ref a] ∧ SqT K H1 a xs ∧ R (IteT K a) H1
theorem pi_enumT {X : Cx} {e : Expr} {ta : TA} {p pos tpos : Pos} {elts : List Expr} {kk : Nat} (hg : Gl X "enumerate") (hm : X.mg "enumerate" = none) (ha : PA X [e] ta) (hs : starEach [e] X.env = [(false, eval e X.env)] := by rfl) :
    PI X (.Tuple elts kk tpos) (.Call (.Name "enumerate" p) [e] [] pos) (iEnumT X.K ta) := by
  refine ⟨fun pins s σ H R I h => ?_⟩
  refine Call_ (ld_blt I hg hm boot_enumerate (PyProof.Rows.callWith_type1 (thn (ha.run pos pins s σ H _ I h) fun us s1 ⟨vs, H1, I1, r1, q1⟩ => ?_) hs rfl))
  obtain ⟨a, xs, ex, hq, q⟩ := q1
  subst ex
  cases r1 with
  | cons r rr =>
    cases rr
    cases r
    obtain ⟨its, rv, p', hz⟩ := I1.tuple hq
    have hal : a < s1.heap.objs.size := p'.lt
    refine enum_begins1 (begins_tuple a its.toArray) (show s1.heap.IsTuple a its.toArray from p') fun h' he hit hsz hk => wpAny_pyIter_enum he ?_
    have I2 : Inv X pins σ H1 { s1 with heap := h' } := I1.kept (t' := s1.toks) hk
    refine ⟨s1.heap.objs.size + 1, [s1.heap.objs.size + 1, s1.heap.objs.size], _, _, H1, rfl, I2, turn_enumT a (s1.heap.objs.size + 1) s1.heap.objs.size, ⟨⟨.none, he⟩, ⟨_, hit, rfl, rfl⟩, Nat.succ_ne_self _, Nat.ne_of_lt (Nat.lt_succ_of_lt hal), Nat.ne_of_lt hal⟩, fun b hb => ?_, q⟩
    have e' : b = s1.heap.objs.size + 1 ∨ b = s1.heap.objs.size := by simpa using hb
    have hle : s1.heap.objs.size ≤ b := by
      rcases e' with z | z
      · rw [z]; exact Nat.le_add_right _ _
      · rw [z]; exact Nat.le_refl _
    exact I1.fpOk hle (I1.hok.fresh hle)
end RX
set_option Elab.async false
set_option linter.all false
set_option maxRecDepth 100000
set_option maxHeartbeats 4000000
namespace RX
open PySem PySem.Spec PyProof.Rows L2

/-! ### dict(list of pairs (tuple, value)), the tuples all different -/
def rDictT (K : PySem.W.Frag) : List V → Hp → VK → Prop := fun xs H Q => ∃ (a : Addr) (ps : List Addr) (kts : List (Addr × List Key × V)), xs = [.ref a] ∧ SqL K H a (ps.map V.ref) ∧
  Paired (fun p (t : Addr × List Key × V) => H p = some (.tup [.ref t.1, t.2.2]) ∧ H t.1 = some (.tup (t.2.1.map kV))) ps kts ∧ (kts.map (·.2.1)).Nodup ∧
  ∀ p, H p = none → Q (.ref p) (upd H p (.dT (kts.map (·.2))))
section
variable {X : Cx}
theorem pairs_ofT {pins : List (Addr × Obj)} {σ : L2.St} {H : Hp} {s : Shared} (I : Inv X pins σ H s) : ∀ {ps : List Addr} {kts : List (Addr × List Key × V)},
    Paired (fun p (t : Addr × List Key × V) => H p = some (.tup [.ref t.1, t.2.2]) ∧ H t.1 = some (.tup (t.2.1.map kV))) ps kts →
    ∃ prs : List (List Key × Addr × Value), KT H (kts.map (·.2)) prs ∧ prs.length = ps.length ∧ prs.map (·.1) = kts.map (·.2.1) ∧ (∀ x ∈ prs, (tupleKind (mixKind X.prog X.w)).is s.heap x.1 x.2.1) ∧
      ∀ (j : Nat) (q : List Key × Addr × Value), prs[j]? = some q → ∃ b, ps[j]? = some b ∧ IsTup s.heap b #[.ref q.2.1, q.2.2]
  | _, _, .nil => ⟨[], .nil, rfl, rfl, (fun x hx => by simp at hx), fun j q e => by simp at e⟩
  | _, _, .cons (a := p) (b := kv) h t => by
    obtain ⟨prs, r, hl, hk, hm, hp⟩ := pairs_ofT I t
    obtain ⟨z, its, rv, ht⟩ := I.hok p _ h.1
    obtain ⟨u, y, ei, ru, ry⟩ := vals2 rv
    subst ei
    obtain rfl : u = .ref kv.1 := ru
    refine ⟨(kv.2.1, kv.1, y) :: prs, .cons ⟨rfl, h.2, ry⟩ r, by rw [List.length_cons, List.length_cons, hl], by simp [hk], fun x hx => ?_, fun j q e => ?_⟩
    · rcases List.mem_cons.mp hx with e | hx
      · subst e
        exact key_of I.hok h.2
      · exact hm x hx
    · cases j with
      | zero =>
        have e' : (kv.2.1, kv.1, y) = q := Option.some.inj e
        subst e'
        exact ⟨p, rfl, ht⟩
      | succ j =>
        obtain ⟨b, e1, e2⟩ := hp j q (by simpa using e)
        exact ⟨b, by simpa using e1, e2⟩
theorem call_dictT (hcalm : X.calm = true) (hu : X.A.units + 2 < cLine) : CallR X (.type "dict") (rDictT X.K) := by
  intro pins s σ H xs us Q I r q
  obtain ⟨a, ps, kts, ex, hq, hp, hnd, q⟩ := q
  subst ex
  obtain ⟨u, eu, rx⟩ := vals1 r
  subst eu
  cases rx
  obtain ⟨its, rv, pl, hz⟩ := I.list hq
  have ei := refs_at rv
  subst ei
  rw [List.length_map] at hz
  obtain ⟨prs, rel, hl, hkeys, his, hpr⟩ := pairs_ofT I hp
  obtain ⟨o, n, ho, hc, hd, hdat⟩ := pl
  have hnd' : (prs.map (·.1)).Nodup := by rw [hkeys]; exact hnd
  let prs' : List (Value × Value) := prs.map fun x => (.ref x.2.1, x.2.2)
  have hl' : prs'.length = prs.length := List.length_map _
  refine call_dict_pairsH (knd := tupleKind (mixKind X.prog X.w)) (ps := prs) (PairArg.list a (ps.map Value.ref).toArray (fun j => ps.getD j 0) prs') (I.ok.hd hcalm) (show X.A.units + 1 + 1 < cLine from hu) ⟨⟨o, n, ho, hc, hd, hdat⟩, ?_, ?_⟩ ⟨hl'.symm, ?_⟩ ?_ (by rw [hl', hl]; exact hz) fun h' tk hd' k => ?_
  · simp [hl', hl]
  · intro j k v e
    have e2 : (prs[j]?).map (fun x => ((.ref x.2.1 : Value), x.2.2)) = some (k, v) := by
      rw [← List.getElem?_map]; exact e
    obtain ⟨x, hx, ex⟩ := Option.map_eq_some_iff.mp e2
    cases ex
    obtain ⟨b, e3, e4⟩ := hpr j x hx
    have eg : ps.getD j 0 = b := by rw [List.getD_eq_getElem?_getD, e3]; rfl
    refine ⟨?_, .inl ?_⟩
    · show (ps.map Value.ref).toArray[j]? = some (Value.ref (ps.getD j 0))
      rw [eg]; simp [e3]
    · show s.heap.IsTuple (ps.getD j 0) _
      rw [eg]; exact e4
  · intro i key v e
    have e2 : (prs[i]?).map (fun x => ((.ref x.2.1 : Value), x.2.2)) = some (key, v) := by
      rw [← List.getElem?_map]; exact e
    obtain ⟨x, hx, ex⟩ := Option.map_eq_some_iff.mp e2
    cases ex
    exact ⟨x.1, x.2.1, hx, rfl⟩
  · intro h' hk x hx
    have hx' := his x hx
    refine tupleKind_stays.stays (h := s.heap) (fun b o vs n e _ => hk b o (Nat.ne_of_lt (Heap.lt_size e)) (by simp) e) hx'
  · have hm : (s.heap.objs.size == sysModules) = false := beq_eq_false_iff_ne.mpr (Nat.ne_of_gt I.big)
    rw [storedAllH_append_of_fresh [] prs hnd', List.nil_append] at hd'
    have nw : H s.heap.objs.size = none := I.hok.fresh (Nat.le_refl _)
    have k' : ∀ b u, s.heap.get? b = some u → h'.get? b = some u := fun b u e => k b u (by simp) e
    obtain ⟨od, es, ep, h1, h2, h3, h4, h5, h6⟩ := hd'
    have lk : (kts.map (·.2)).length = prs.length := Paired.length rel
    refine ⟨.ref s.heap.objs.size, upd H s.heap.objs.size (.dT (kts.map (·.2))), I.laid (t' := tk) k' (Nat.le_refl _) (show ObjOk X.prog X.w _ _ _ (.dT (kts.map (·.2))) from ⟨by rw [lk, hl]; exact hz, hm, prs, ?_, od, es, ep, h1, h2, h3, h4, h6⟩), rfl, q _ nw⟩
    exact rel.keeps fun b ys e => by rw [upd_ne (ne_of_none e nw)]; exact e
def rLenAny (K : PySem.W.Frag) : List V → Hp → VK → Prop := fun xs H Q => ∃ p : Addr, xs = [.ref p] ∧ ((∃ kvs : List (Key × V), H p = some (.dK kvs) ∧ Q (.int ((kvs.length : Nat) : Int)) H) ∨ ∃ kvs : List (List Key × V), H p = some (.dT kvs) ∧ Q (.int ((kvs.length : Nat) : Int)) H)
theorem call_len_any : CallR X (.builtin "len") (rLenAny X.K) := by
  intro pins s σ H xs us Q I r h
  obtain ⟨p, rfl, ⟨kvs, hp, q⟩ | ⟨kvs, hp, q⟩⟩ := h
  · exact call_lenD pins s σ H _ us Q I r ⟨p, kvs, rfl, hp, q⟩
  · exact call_len_dT pins s σ H _ us Q I r ⟨p, kvs, rfl, hp, q⟩
end

/-! ### one frame of a built-in further in -/
abbrev cin1 (X : Cx) : Cx := { X with A := X.A.in1 }
section
variable {X : Cx} {pins : List (Addr × Obj)} {σ : L2.St} {H : Hp} {s : Shared}
theorem inv_in1 (I : Inv X pins σ H s) : Inv (cin1 X) pins σ H s :=
  ⟨⟨I.ok.mod, I.ok.kind, I.ok.glob, I.ok.blt, I.ok.above, I.ok.inj, I.ok.has, I.ok.cab, I.ok.hd, I.ok.frames, I.ok.stk, I.ok.exf, I.ok.bs, I.ok.bsz, I.ok.noex, I.ok.exfs, I.ok.funs, I.ok.frf⟩, I.os, I.bare, I.base, I.loc, I.cell, I.free, I.freeC, I.pin, I.hok, I.len⟩
theorem inv_out1 (I : Inv (cin1 X) pins σ H s) : Inv X pins σ H s :=
  ⟨⟨I.ok.mod, I.ok.kind, I.ok.glob, I.ok.blt, I.ok.above, I.ok.inj, I.ok.has, I.ok.cab, I.ok.hd, I.ok.frames, I.ok.stk, I.ok.exf, I.ok.bs, I.ok.bsz, I.ok.noex, I.ok.exfs, I.ok.funs, I.ok.frf⟩, I.os, I.bare, I.base, I.loc, I.cell, I.free, I.freeC, I.pin, I.hok, I.len⟩
end

/-! ### sorted(d.items()), ints to ints -/
/-- the dict of the pairs of ints -/
def kvI (ps : List (Int × Int)) : List (Key × V) := ps.map fun p => (Sum.inl p.1, V.int p.2)
def lexLe (a b : Int × Int) : Prop := a.1 < b.1 ∨ (a.1 = b.1 ∧ a.2 ≤ b.2)
def rItemsS : V → Hp → VK → Prop := fun x H Q => ∃ (d : Addr) (ps : List (Int × Int)), x = .ref d ∧ H d = some (.dK (kvI ps)) ∧
  ∀ (H' : Hp) (p : Addr) (ts : List Addr) (qs : List (Int × Int)), (∀ b o, H b = some o → H' b = some o) → H p = none → (∀ t ∈ ts, H t = none) → H' p = some (.lst (ts.map V.ref)) →
    Paired (fun (t : Addr) (q : Int × Int) => H' t = some (.tup [.int q.1, .int q.2])) ts qs → qs.Perm ps → qs.Pairwise lexLe → Q (.ref p) H'
def tSortedItems (te : TE) : TE := fun σ H Q => te σ H fun x H1 => rItemsS x H1 Q
/-- the pair that stands at a value -/
def pairAtV (H : Hp) : V → Int × Int
  | .ref t => match H t with
    | some (.tup [.int a, .int b]) => (a, b)
    | _ => (0, 0)
  | _ => (0, 0)
theorem items_laid2 {X : Cx} {pins : List (Addr × Obj)} {σ : L2.St} {H : Hp} {s : Shared} {h' : Heap} {tk : Nat} {kvs : List (Key × V)} {vs : List (Key × Value)} {es : Array DictEntry} {as : List Addr} (I : Inv X pins σ H s) (hz : kvs.length ≤ sizeLine) (kv : KV kvs vs)
    (hpr : Pairs (mixKind X.prog X.w) es.toList vs)
    (hk : ∀ b o, s.heap.get? b = some o → h'.get? b = some o) (hl : as.length = es.size) (hlt : s.heap.objs.size < h'.objs.size) (hG : DT.Made es s.heap.objs.size h' as) :
    ∃ H' : Hp, (∀ b o, H b = some o → H' b = some o) ∧ H h'.objs.size = none ∧ (∀ t ∈ as, H t = none) ∧ h'.objs.size ∉ as ∧ H' h'.objs.size = some (.lst (as.map V.ref)) ∧ Paired (fun (t : Addr) (q : Key × V) => H' t = some (.tup [kV q.1, q.2])) as kvs ∧
      Inv X pins σ H' { s with heap := h'.push { cls := .type "list", data := .seq (as.map Value.ref).toArray }, toks := tk } := by
  have lk : kvs.length = vs.length := Paired.length kv
  have le : es.size = vs.length := by rw [← hpr.length]; simp
  have hSn : h'.objs.size ∉ as := fun z => Nat.lt_irrefl _ (hG.there z)
  have nd : as.Nodup := List.Pairwise.imp (fun {a b} (h : a < b) => Nat.ne_of_lt h) hG.rise
  have new : ∀ t ∈ as, H t = none := fun t ht => I.hok.fresh (Nat.le_of_lt (hG.above t ht))
  have newS : H h'.objs.size = none := I.hok.fresh (Nat.le_of_lt hlt)
  have atP := LiI.putT_at as kvs (upd H h'.objs.size (.lst (as.map V.ref))) (by omega) nd
  have off : ∀ b, b ∉ as → b ≠ h'.objs.size → LiI.putT (upd H h'.objs.size (.lst (as.map V.ref))) as kvs b = H b := fun b h1 h2 => by rw [LiI.putT_off as kvs _ h1, upd_ne h2]
  have low : ∀ b o, s.heap.get? b = some o → b ∉ as ∧ b ≠ h'.objs.size := fun b o e => ⟨fun z => absurd (Heap.lt_size e) (Nat.not_lt.mpr (Nat.le_of_lt (hG.above b z))), Nat.ne_of_lt (Nat.lt_trans (Heap.lt_size e) hlt)⟩
  have kp : ∀ b u, H b = some u → (LiI.putT (upd H h'.objs.size (.lst (as.map V.ref))) as kvs) b = some u := fun b u e => by
    rw [off b (fun z => by rw [new b z] at e; cases e) (fun z => by rw [z, newS] at e; cases e)]
    exact e
  have eS : LiI.putT (upd H h'.objs.size (.lst (as.map V.ref))) as kvs h'.objs.size = some (.lst (as.map V.ref)) := by rw [LiI.putT_off as kvs _ hSn, upd_same]
  have hk2 : ∀ b o, s.heap.get? b = some o → (h'.push { cls := .type "list", data := .seq (as.map Value.ref).toArray }).get? b = some o := fun b o e => Heap.get?_push_of_some _ (hk b o e)
  refine ⟨LiI.putT (upd H h'.objs.size (.lst (as.map V.ref))) as kvs, kp, newS, new, hSn, eS, atP, ?_⟩
  refine I.call' (ch := []) rfl ⟨fun b o q _ _ _ => hk2 b o q, fun b o q _ _ _ => ⟨o.slots, hk2 b o q⟩, fun b o q n _ => ?_, fun b o q _ => ⟨o, hk2 b o q⟩, fun b xs q => kp b _ q, fun b o u q => kp b _ q, fun b ps q => ⟨#[], by rw [kp b _ q]; simp⟩⟩ (fun b u q => ?_) I.bare fun b z => by simp at z
  · obtain ⟨z1, z2⟩ := low b o q
    rw [off b z1 z2]
    exact n
  · by_cases hb : b ∈ as
    · obtain ⟨j, pk, e1, e2, e3⟩ := LiI.paired_ix atP hb
      rw [e3] at q
      cases q
      obtain ⟨en, f1, f3⟩ := hG.pairs j b e1
      obtain ⟨qv, g1, g2, g3⟩ := LiI.paired_get kv e2
      obtain ⟨f2, f4⟩ := hpr.get? (i := j) (e := en) (by simpa using f1) g1
      have rk : RelV (kV pk.1) en.key := by
        rw [g2]
        exact relV_key (show keyIs qv.1 en.key = true from f2)
      exact ⟨by show 2 ≤ sizeLine; decide, [en.key, en.val], .cons rk (.cons (by rw [f4]; exact g3) .nil), ⟨_, Heap.get?_push_of_some _ f3, rfl, _, rfl⟩⟩
    · by_cases hb2 : b = h'.objs.size
      · rw [hb2] at q ⊢
        rw [eS] at q
        cases q
        refine ⟨by rw [List.length_map]; omega, as.map Value.ref, 0, LiI.vals_refs as, ?_⟩
        exact Heap.get?_push_size _ rfl
      · rw [off b hb hb2] at q
        exact (I.hok b u q).stay (fun d v _ y => hk2 d v y) (fun d y => kp d _ y) fun d xs y => kp d _ y
section
variable {X : Cx} {e : Expr} {te : TE} {p apos cpos pos : Pos}
/-- sorted(e.items()), keys and values ints -/
theorem pe_sortedItems (hc : X.calm = true) (hg : Gl X "sorted") (hm : X.mg "sorted" = none) (he : PE X e te) (hv : bootBuiltins "sorted" = some (.builtin "sorted") := by decide +kernel) (hbase : attributeBase e "items" X.env (eval e X.env) = eval e X.env := by rfl) (hline : (apos.endLine == cpos.line) = true := by rfl)
    (hs : starEach [.Call (.Attribute e "items" apos) [] [] cpos] X.env = (false, eval (.Call (.Attribute e "items" apos) [] [] cpos) X.env) :: starEach [] X.env := by rfl) :
    PE X (.Call (.Name "sorted" p) [.Call (.Attribute e "items" apos) [] [] cpos] [] pos) (tSortedItems te) := by
  refine ⟨fun pins s σ H Q I hq => ?_⟩
  refine wpAny_Call_Name_kw (ld_blt I hg hm hv ?_)
  refine PyProof.Rows.callWith_builtin1 ?_ hs (by rfl)
  rw [hs]
  show wpAny _ _ (spliced ((false, eval (.Call (.Attribute e "items" apos) [] [] cpos) X.env) :: backTo pos (starEach [] X.env))) _ _ s
  refine Calls.spliced_cons ?_
  refine wpAny_Call_method (T := "dict") (id := "dict.items") hbase rfl hline F.plainAttrs_dict F.slot_dict_items F.type_dict_items (thn (he.run pins s σ H _ I hq) fun u s1 ⟨x, H1, I1, rx, d, ps, ex, hd, q⟩ => ?_)
  subst ex
  obtain rfl : u = Value.ref d := rx
  obtain ⟨hz, hs0, vs, kv, hdo⟩ := I1.hok d _ hd
  obtain ⟨ep, hat⟩ := hdo.dictAt
  obtain ⟨od, es, hod, hcd, hdd, hko, hpr, hnd⟩ := id hat
  have lk : (kvI ps).length = vs.length := Paired.length kv
  have le : es.size = vs.length := by rw [← hpr.length]; simp
  have I2 : Inv X pins σ H1 { s1 with heap := s1.heap.push { cls := .type "dict_items", data := .fields #[.ref d] } } := I1.kept (t' := s1.toks) fun b ob q => Heap.get?_push_of_some _ q
  refine ⟨hdo.typeIs, hdo.mapOf.noDict, ?_⟩
  show wpAny _ _ (callWith cpos (.builtin "dict.items") [.ref d] [] []) _ X.xe s1
  refine method_meetsIn F.slot_dict_items F.entry_dict_items rfl (PySem.evalArgs_none ⟨rfl, hdo.typeIs, F.args_dict_items_1 _, _, meets_dict_items (mixKind X.prog X.w) d hs0, ⟨vs, hdo⟩, ?_⟩)
  refine Calls.spliced_nil ?_
  refine DT.sortedI (es := es) (ep := ep) (I1.ok.hd hc) ⟨_, Heap.get?_push_size _ rfl, rfl, rfl⟩ ⟨od, Heap.get?_push_of_some _ hod, hcd, hdd⟩ (by omega) fun h' tk as hk hlt hl hG => ?_
  obtain ⟨H', k1, k2, k3, k4, k5, k6, J⟩ := items_laid2 (tk := tk) I2 hz kv hpr hk hl hlt hG
  have hps : ∀ (l : List Addr) (m : List (Int × Int)), Paired (fun (t : Addr) (q : Key × V) => H' t = some (.tup [kV q.1, q.2])) l (kvI m) → Paired (fun (t : Addr) (q : Int × Int) => H' t = some (.tup [.int q.1, .int q.2])) l m := by
    intro l m
    induction m generalizing l with
    | nil => intro h; cases h; exact .nil
    | cons a m ih =>
      intro h
      cases h with
      | cons h1 t1 => exact .cons h1 (ih _ t1)
  have k6' := hps _ _ k6
  have pv : ∀ (t : Addr) (q : Int × Int), H' t = some (.tup [.int q.1, .int q.2]) → pairAtV H' (.ref t) = q := by
    intro t q e
    simp only [pairAtV, e]
  have hmap : (as.map V.ref).map (pairAtV H') = ps := by
    have : ∀ (l : List Addr) (m : List (Int × Int)), Paired (fun (t : Addr) (q : Int × Int) => H' t = some (.tup [.int q.1, .int q.2])) l m → (l.map V.ref).map (pairAtV H') = m := by
      intro l m h
      induction h with
      | nil => rfl
      | @cons t q l m h1 _ ih => simp only [List.map_cons, ih, pv t q h1]
    exact this _ _ k6'
  have hin : ∀ y ∈ as.map V.ref, ∃ t, y = V.ref t ∧ H' t = some (.tup [.int (pairAtV H' y).1, .int (pairAtV H' y).2]) := by
    intro y hy
    obtain ⟨t, ht, rfl⟩ := List.mem_map.mp hy
    obtain ⟨j, q', e1, e2, e3⟩ := LiI.paired_ix k6' ht
    exact ⟨t, rfl, by rw [pv t q' e3]; exact e3⟩
  refine thn (mt_sortPO (X := cin1 X) pins _ σ H' (.ref h'.objs.size) [] (.ref h'.objs.size) [] (fun v H2 => Q (.ref h'.objs.size) H2) (inv_in1 J) rfl .nil ⟨_, as.map V.ref, pairAtV H', rfl, rfl, k5, hin, fun zs h1 h2 => ?_⟩) fun u2 s2 ⟨x2, H2, I3, r2, q2⟩ => ⟨.ref h'.objs.size, H2, inv_out1 I3, rfl, q2⟩
  have hzs : ∃ ts : List Addr, zs = ts.map V.ref ∧ ∀ t ∈ ts, t ∈ as := by
    have : ∀ l : List V, (∀ z ∈ l, z ∈ as.map V.ref) → ∃ ts : List Addr, l = ts.map V.ref ∧ ∀ t ∈ ts, t ∈ as := by
      intro l
      induction l with
      | nil => exact fun _ => ⟨[], rfl, fun t h => nomatch h⟩
      | cons z l ih =>
        intro h
        obtain ⟨t, ht, e⟩ := List.mem_map.mp (h z List.mem_cons_self)
        obtain ⟨ts, e2, h2⟩ := ih fun z' hz' => h z' (List.mem_cons_of_mem _ hz')
        refine ⟨t :: ts, by rw [e2, ← e]; rfl, fun t' ht' => ?_⟩
        rcases List.mem_cons.mp ht' with rfl | ht'
        · exact ht
        · exact h2 t' ht'
    exact this zs fun z hz => h2.perm.mem_iff.mp hz
  obtain ⟨ts, ets, hts⟩ := hzs
  have hpt : ∀ l : List Addr, (∀ t ∈ l, t ∈ as) → Paired (fun (t : Addr) (q : Int × Int) => upd H' h'.objs.size (.lst zs) t = some (.tup [.int q.1, .int q.2])) l ((l.map V.ref).map (pairAtV H')) := by
    intro l
    induction l with
    | nil => exact fun _ => .nil
    | cons t l ih =>
      intro h
      have ht := h t List.mem_cons_self
      obtain ⟨t', e, h3⟩ := hin (.ref t) (List.mem_map.mpr ⟨t, ht, rfl⟩)
      cases e
      refine .cons ?_ (ih fun t' ht' => h t' (List.mem_cons_of_mem _ ht'))
      rw [upd_ne (fun z => k4 (by rw [← z]; exact ht))]
      exact h3
  have hnS : ∀ b o, H1 b = some o → b ≠ h'.objs.size := fun b o e z => by rw [z, k2] at e; cases e
  refine q _ _ ts (zs.map (pairAtV H')) (fun b o e => by rw [upd_ne (hnS b o e)]; exact k1 b o e) k2 (fun t ht => k3 t (hts t ht)) (by rw [upd_same, ets]) (by rw [ets]; have := hpt ts hts; rw [ets] at this; exact this) ?_ ?_
  · have := h2.perm.map (pairAtV H')
    rw [hmap] at this
    exact this
  · refine List.pairwise_map.mpr (h1.imp fun {x y} h => ?_)
    have h : SrtO.lexB (pairAtV H' y) (pairAtV H' x) = false := h
    have h' : ¬ ((pairAtV H' y).1 < (pairAtV H' x).1 ∨ ((pairAtV H' y).1 = (pairAtV H' x).1 ∧ (pairAtV H' y).2 < (pairAtV H' x).2)) := fun z => by
      rw [SrtO.lexB_iff.mpr z] at h
      cases h
    unfold lexLe
    omega
end
end RX
set_option Elab.async false
set_option linter.all false
set_option maxRecDepth 100000
set_option maxHeartbeats 4000000
/-! Crossloom: the text by places, facts of the top, calls in short, heaps. -/
namespace CL
open PySem PySem.Spec PyProof.Rows L2
def top (i : Nat) : Stmt := PySem.Challenge.pw_crossloom_k64_whole_pairings_at_any_size.main.body.getD i (.Pass ⟨0, 0, 0, 0⟩)
/-- the built-ins are themselves -/
structure Bts (mg : Str → Option Value) : Prop where
  len : mg "len" = none
  range : mg "range" = none
  tuple : mg "tuple" = none
  list : mg "list" = none
  sorted : mg "sorted" = none
  dict : mg "dict" = none
  enumerate : mg "enumerate" = none
  zip : mg "zip" = none
  any : mg "any" = none
  int : mg "int" = none
  abs : mg "abs" = none
/-- a def, by its name -/
structure FnF (P : Program) (w : World) (K : PySem.W.Frag) (mg : Str → Option Value) (base : Heap) (x : Str) (k : Nat) (ps : List Str) (sp : Sp) : Prop where
  ex : ∃ (f : Addr) (fd : FuncData), mg x = some (.ref f) ∧ PySem.W.keepIn K (.ref f) = true ∧ Binds K fd ps [] ∧ FnOk P w K mg base CX0 k f fd ps sp
/-- a method of the class at C -/
structure MtF (P : Program) (w : World) (K : PySem.W.Frag) (mg : Str → Option Value) (base : Heap) (C : Addr) (m : Str) (k : Nat) (ps : List Str) (sp : Sp) : Prop where
  cl : Cls K C
  ex : ∃ (f : Addr) (fd : FuncData), Meth K C m f ∧ Binds K fd ps [] ∧ FnOk P w K mg base CX0 k f fd ps sp
/-- a class that can be made -/
structure MkF (P : Program) (w : World) (K : PySem.W.Frag) (mg : Str → Option Value) (base : Heap) (x : Str) (C : Addr) (k : Nat) (ps : List Str) (sp : Sp) : Prop where
  at_ : mg x = some (.ref C)
  ex : ∃ (f : Addr) (fd : FuncData), Mk K C f ∧ Binds K fd ps [] ∧ FnOk P w K mg base CX0 k f fd ps sp
section
variable {X : Cx} {k : Nat} {C : Addr} {ps : List Str} {sp : Sp} {x m : Str} {p pos apos : Pos} {e o : Expr} {es : List Expr} {ta : TE} {t : TA}
theorem pf_call (F : FnF X.prog X.w X.K X.mg X.base x k ps sp) (hr : Room k X.A) (hg : Gl X x) (ha : PA X (e :: es) t) (hdb : (x == ("__debug__" : Str)) = false := by decide)
    (he : starEach (e :: es) X.env = (false, eval e X.env) :: starEach es X.env := by rfl) (hpl : (backTo pos (starEach es X.env)).any (·.1) = false := by rfl) :
    PE X (.Call (.Name x p) (e :: es) [] pos) (tCall sp [] E0 t) := by
  obtain ⟨f, fd, h1, h2, h3, h4⟩ := F.ex
  exact pe_call h4 hr hg h1 h2 h3 .nil pass0 ha hdb he hpl
theorem pm_call {pl : Sem Bool} (M : MtF X.prog X.w X.K X.mg X.base C m k ps sp) (hr : Room k X.A) (ho : PE X o ta) (ha : PA X (e :: es) t)
    (hst : starEach (e :: es) X.env = (false, eval e X.env) :: starEach es X.env := by rfl) (hpl : (backTo pos (starEach es X.env)).any (·.1) = false := by rfl)
    (ht : eval (.Call (.Attribute o m apos) (e :: es) [] pos) X.env = (do
      let ov ← eval o X.env
      standAt apos.atName
      let (f, first) ← holding [ov] (getMethod ov m pl)
      callWith pos f first (backTo pos (starEach (e :: es) X.env)) (backToKw pos (keywordEach [] X.env))) := by rfl) :
    PE X (.Call (.Attribute o m apos) (e :: es) [] pos) (tMeth C m sp [] E0 ta t) := by
  obtain ⟨f, fd, h1, h2, h3⟩ := M.ex
  exact pe_meth ho M.cl h1 h3 hr h2 .nil pass0 ha hst hpl ht
theorem pm_call0 {pl : Sem Bool} (M : MtF X.prog X.w X.K X.mg X.base C m k ps sp) (hr : Room k X.A) (ho : PE X o ta)
    (ht : eval (.Call (.Attribute o m apos) [] [] pos) X.env = (do
      let ov ← eval o X.env
      standAt apos.atName
      let (f, first) ← holding [ov] (getMethod ov m pl)
      callWith pos f first (backTo pos (starEach [] X.env)) (backToKw pos (keywordEach [] X.env))) := by rfl) :
    PE X (.Call (.Attribute o m apos) [] [] pos) (tMeth C m sp [] E0 ta tNil) := by
  obtain ⟨f, fd, h1, h2, h3⟩ := M.ex
  exact pe_meth0 ho M.cl h1 h3 hr h2 .nil pass0 ht
theorem pk_make (M : MkF X.prog X.w X.K X.mg X.base x C k ps sp) (hr : Room (k + 1) X.A) (hg : Gl X x) (ha : PA X (e :: es) t) (hdb : (x == ("__debug__" : Str)) = false := by decide)
    (he : starEach (e :: es) X.env = (false, eval e X.env) :: starEach es X.env := by rfl) (hpl : (backTo pos (starEach es X.env)).any (·.1) = false := by rfl) :
    PE X (.Call (.Name x p) (e :: es) [] pos) (tMake C sp [] E0 t) := by
  obtain ⟨f, fd, h1, h2, h3⟩ := M.ex
  exact pe_make h1 h3 hr hg M.at_ h2 .nil pass0 ha hdb he hpl
end
theorem hu2_of {A : Around} {k : Nat} (hr : Room k A) : A.units + 2 < cLine := Nat.lt_of_le_of_lt (Nat.add_le_add_left (by decide : 2 ≤ 64) _) hr.units
/-- a generator's scope -/
def gscB (sc : Scope) : Bool := !sc.isCoroutine && sc.names.all (fun y => decide (y.2 ≠ .cell)) && decide (sc.names.lookup (".0" : Str) = some NameKind.local)
theorem gsc_by {sc : Scope} (h : gscB sc = true) : GX.GSc sc := by
  unfold gscB at h
  rw [Bool.and_eq_true, Bool.and_eq_true] at h
  obtain ⟨⟨h1, h2⟩, h3⟩ := h
  exact ⟨by simpa using h1, fun y hy => of_decide_eq_true (List.all_eq_true.mp h2 y hy), of_decide_eq_true h3⟩
section
variable {P : Program} {w : World} {K : PySem.W.Frag} {mg : Str → Option Value} {base : Heap}
/-- Fun.ok where the code object is known -/
theorem okC {x qual : Str} {st : Stmt} {f c : Addr} {fd : FuncData} {N ps : List Str} {k : Nat} {sp : Sp} (F : Fun K x qual st f fd) (hfc : fd.code = .ref c) (S : FnScope N ps (defScope st)) (len : ∀ vs H Q E, sp vs H Q E → vs.length = ps.length)
    (hbody : ∀ (A : Around) (outer : List Env) (s : Shared) (H : Hp) (vs : List V) (Q : VK) (E : XK), Room k (A.deeper (envOfC qual (defScope st) s.heap.objs.size f (.ref c))) → sp vs H Q E →
      ∃ t, PSs (cxOf CX0 P w K mg base N qual (defScope st) f (.ref c) A outer s H E).nox (defBody st) t ∧ t { nx := fun _ H' => Q .non H', rt := Q } (start N vs) H) : FnOk P w K mg base CX0 (k + 1) f fd ps sp := by
  obtain ⟨oc, od, kV, doc, pm, an, cdv, ct, osl, rfl, lk, hcd⟩ := F.ex
  have e : cdv = .ref c := hfc
  subst e
  refine fn_of lk hcd S len fun A outer s H vs Q E hr hsp => ?_
  obtain ⟨t, h, q⟩ := hbody A outer s H vs Q E hr hsp
  exact ⟨t, h.nox, q⟩
end
/-! ### heaps -/
def NT (o : HO) : Prop := ∀ ps, o ≠ .tbl ps
theorem nt_lst {xs} : NT (.lst xs) := fun _ z => by cases z
theorem nt_tup {xs} : NT (.tup xs) := fun _ z => by cases z
theorem nt_dK {xs} : NT (.dK xs) := fun _ z => by cases z
theorem nt_ins {a b c} : NT (.ins a b c) := fun _ z => by cases z
theorem nt_own {a} : NT (.own a) := fun _ z => by cases z
theorem nt_frz {a b} : NT (.frz a b) := fun _ z => by cases z
/-- all but tables and what stands at W is kept -/
structure Ext (W : List Addr) (H H' : Hp) : Prop where
  at_ : ∀ a o, H a = some o → NT o → a ∉ W → H' a = some o
  tab : ∀ P, GxR.TabG H P → GxR.TabG H' P
  dom : ∀ a, H' a = none → H a = none
section
variable {W : List Addr} {H H1 H2 H3 : Hp} {a p : Addr} {o : HO}
theorem Ext.refl : Ext W H H := ⟨fun _ _ e _ _ => e, fun _ t => t, fun _ e => e⟩
theorem Ext.trans (x : Ext W H1 H2) (y : Ext W H2 H3) : Ext W H1 H3 := ⟨fun a o e n h => y.at_ a o (x.at_ a o e n h) n h, fun P t => y.tab P (x.tab P t), fun a e => x.dom a (y.dom a e)⟩
theorem Ext.wide {V : List Addr} (x : Ext W H1 H2) (h : ∀ a ∈ W, a ∈ V) : Ext V H1 H2 := ⟨fun a o e n z => x.at_ a o e n fun q => z (h a q), x.tab, x.dom⟩
theorem Ext.wide0 (x : Ext [] H1 H2) : Ext W H1 H2 := x.wide fun a h => nomatch h
theorem Ext.tup {xs} (x : Ext [] H1 H2) (e : H1 a = some (.tup xs)) : H2 a = some (.tup xs) := x.at_ a _ e nt_tup (by simp)
theorem Ext.lst {xs} (x : Ext [] H1 H2) (e : H1 a = some (.lst xs)) : H2 a = some (.lst xs) := x.at_ a _ e nt_lst (by simp)
theorem Ext.dK {xs} (x : Ext [] H1 H2) (e : H1 a = some (.dK xs)) : H2 a = some (.dK xs) := x.at_ a _ e nt_dK (by simp)
theorem Ext.ins {b c d} (x : Ext [] H1 H2) (e : H1 a = some (.ins b c d)) : H2 a = some (.ins b c d) := x.at_ a _ e nt_ins (by simp)
theorem nt_ne {ps : Array Value} (h : NT o) (e : H a = some o) : H a ≠ some (.tbl ps) := fun z => by rw [e] at z; exact h ps (Option.some.inj z)
/-- an object that is new to H is written -/
theorem Ext.upd (x : Ext W H1 H2) (n : H1 a = none ∨ a ∈ W) (ht : ∀ ps, H2 a ≠ some (.tbl ps)) : Ext W H1 (L2.upd H2 a o) := ⟨fun b u e nt h => by
    rw [upd_ne (fun z => by subst z; rcases n with n | n; (rw [n] at e; cases e); exact h n)]
    exact x.at_ b u e nt h, fun P t => by
    obtain ⟨ps, e, t2⟩ := x.tab P t
    exact ⟨ps, by rw [upd_ne (fun z => ht ps (by rw [← z]; exact e))]; exact e, t2⟩, fun b e => by
    by_cases h : b = a
    · subst h; rw [upd_same] at e; cases e
    · rw [upd_ne h] at e; exact x.dom b e⟩
theorem Ext.new (x : Ext W H1 H2) (n : H2 a = none) : Ext W H1 (L2.upd H2 a o) := x.upd (.inl (x.dom a n)) fun ps e => by rw [n] at e; cases e
theorem Ext.wr {u : HO} (x : Ext W H1 H2) (n : H1 a = none ∨ a ∈ W) (e : H2 a = some u) (nt : NT u) : Ext W H1 (L2.upd H2 a o) := x.upd n fun ps => nt_ne nt e
theorem Ext.add (n : H a = none) : Ext W H (L2.upd H a o) := Ext.refl.new n
theorem Ext.of_same (x : Same H1 H2) : Ext W H1 H2 := ⟨fun a o e _ _ => x a o e, fun P ⟨ps, e, t⟩ => ⟨ps, x P _ e, t⟩, fun a e => by
    cases q : H1 a with
    | none => rfl
    | some o => rw [x a o q] at e; cases e⟩
theorem Ext.of_tabbed {P : Addr} (t0 : GxR.TabG H1 P) (t : GxR.Tabbed P H1 H2) : Ext W H1 H2 := ⟨fun a o e nt _ => by
    by_cases h : a = P
    · subst h
      obtain ⟨ps, e2, _⟩ := t0
      rw [e] at e2
      exact absurd (Option.some.inj e2) (nt ps)
    · rw [t.2 a h]; exact e, fun Q tq => by
    by_cases h : Q = P
    · subst h; exact t.1
    · obtain ⟨ps, e, t2⟩ := tq
      exact ⟨ps, by rw [t.2 Q h]; exact e, t2⟩, fun a e => by
    by_cases h : a = P
    · subst h; obtain ⟨ps, e2, _⟩ := t.1; rw [e2] at e; cases e
    · rw [← t.2 a h]; exact e⟩
theorem Ext.ne {u : HO} (x : Ext [] H1 H2) (e : H1 a = some u) (n : H2 p = none) : a ≠ p := fun z => by
  subst z
  rw [x.dom _ n] at e; cases e
end
end CL
namespace CL
open PySem PySem.Spec PyProof.Rows L2
/-- the scope of the comprehension in bad = [..] of _law_carried, as the frame runs it -/
def scCarr : Scope := match (defBody (top 34)).getD 4 (.Pass ⟨0, 0, 0, 0⟩) with
  | .Assign _ (.ListComp _ _ sc _) _ => relabel sc (envOfC "_law_carried" (defScope (top 34)) 0 0 .none)
  | _ => { kind := .function, names := [], isGenerator := false, isCoroutine := false }
end CL
set_option Elab.async false
set_option linter.all false
set_option maxRecDepth 100000
set_option maxHeartbeats 4000000
/-! Rules with the fragment K written out (comprehensions want them), loops by their items. -/
namespace CL
open PySem PySem.Spec PyProof.Rows L2
section
variable {X : Cx}
/-! ### rules -/
def rLenL : List V → Hp → VK → Prop := fun xs H Q => ∃ p ys, xs = [.ref p] ∧ H p = some (.lst ys) ∧ Q (.int ((ys.length : Nat) : Int)) H
def rLenTu : List V → Hp → VK → Prop := fun xs H Q => ∃ p ys, xs = [.ref p] ∧ H p = some (.tup ys) ∧ Q (.int ((ys.length : Nat) : Int)) H
theorem lenL : CallR X (.builtin "len") rLenL := by
  intro pins s σ H xs us Q I r h
  obtain ⟨p, ys, rfl, hq, q⟩ := h
  exact call_len_seq pins s σ H _ us Q I r ⟨p, ys, rfl, .inl (.of hq), q⟩
theorem lenT : CallR X (.builtin "len") rLenTu := by
  intro pins s σ H xs us Q I r h
  obtain ⟨p, ys, rfl, hq, q⟩ := h
  exact call_len_seq pins s σ H _ us Q I r ⟨p, ys, rfl, .inr (.of hq), q⟩
def rIxLi : R2 := fun x y H Q => ∃ p xs i v, x = .ref p ∧ y = .int i ∧ H p = some (.lst xs) ∧ atI xs i = some v ∧ Q v H
def rIxTu : R2 := fun x y H Q => ∃ p xs i v, x = .ref p ∧ y = .int i ∧ H p = some (.tup xs) ∧ atI xs i = some v ∧ Q v H
theorem ixL : IxR X rIxLi := by
  intro value slice pins s σ H x y v u Q I rx ry h hs
  obtain ⟨p, xs, i, z, rfl, rfl, hq, he, q⟩ := h
  exact ix_list _ _ pins s σ H _ _ v u Q I rx ry ⟨p, xs, i, z, rfl, rfl, .of hq, he, q⟩ hs
theorem ixT : IxR X rIxTu := by
  intro value slice pins s σ H x y v u Q I rx ry h hs
  obtain ⟨p, xs, i, z, rfl, rfl, hq, he, q⟩ := h
  exact ix_tup _ _ pins s σ H _ _ v u Q I rx ry ⟨p, xs, i, z, rfl, rfl, .of hq, he, q⟩ hs
def rInS (neg : Bool) : R2 := fun x y H Q => ∃ p xs, y = .ref p ∧ (H p = some (.lst xs) ∨ H p = some (.tup xs)) ∧ flatV x = true ∧ xs.all flatV = true ∧ Q (.bl (if neg then !inV x xs else inV x xs)) H
theorem rin_of {K : PySem.W.Frag} {neg : Bool} {x y : V} {H : Hp} {Q : VK} (h : rInS neg x y H Q) : rIn K neg x y H Q := by
  obtain ⟨p, xs, rfl, hq, h1, h2, q⟩ := h
  exact ⟨p, xs, rfl, hq.elim (fun e => .inl (.of e)) (fun e => .inr (.of e)), h1, h2, q⟩
theorem inS : OpR X (compareOp .In) (rInS false) := fun pins s σ H x y v u Q I rx ry h => op_in_seq pins s σ H x y v u Q I rx ry (rin_of h)
theorem notInS : OpR X (compareOp .NotIn) (rInS true) := fun pins s σ H x y v u Q I rx ry h => op_notIn_seq pins s σ H x y v u Q I rx ry (rin_of h)
variable {a o e : Expr} {es : List Expr} {ta to te : TE} {t : TA} {p pos apos cpos : Pos}
def tTupL (ta : TE) : TE := fun σ H Q => ta σ H fun x H1 => ∃ p xs, x = .ref p ∧ H1 p = some (.lst xs) ∧ ∀ q, H1 q = none → Q (.ref q) (upd H1 q (.tup xs))
def tTupT (ta : TE) : TE := fun σ H Q => ta σ H fun x H1 => ∃ p xs, x = .ref p ∧ H1 p = some (.tup xs) ∧ Q (.ref p) H1
theorem PE.imp {e : Expr} {t u : TE} (h : PE X e t) (i : ∀ σ H Q, u σ H Q → t σ H Q) : PE X e u := ⟨fun pins s σ H Q I q => h.run pins s σ H Q I (i σ H Q q)⟩
/-- a reading is monotone where a rule's own monotony says so -/
theorem tupL (hg : Gl X "tuple") (hm : X.mg "tuple" = none) (ha : PE X a ta) (na : starEach [a] X.env = (false, eval a X.env) :: starEach [] X.env := by rfl) : PE X (.Call (.Name "tuple" p) [a] [] pos) (tTupL ta) := by
  refine ⟨fun pins s σ H Q I h => ?_⟩
  exact Call_ (ld_blt I hg hm boot_tuple (PyProof.Rows.callWith_type1 (one_arg ha I h (fun v s2 x H2 I2 r q => rl_tuple pins s2 σ H2 x v Q I2 r (by
    obtain ⟨p, xs, e1, e2, q⟩ := q
    exact .inl ⟨p, xs, e1, .of e2, q⟩)) na) na))
theorem tupT (hg : Gl X "tuple") (hm : X.mg "tuple" = none) (ha : PE X a ta) (na : starEach [a] X.env = (false, eval a X.env) :: starEach [] X.env := by rfl) : PE X (.Call (.Name "tuple" p) [a] [] pos) (tTupT ta) := by
  refine ⟨fun pins s σ H Q I h => ?_⟩
  exact Call_ (ld_blt I hg hm boot_tuple (PyProof.Rows.callWith_type1 (one_arg ha I h (fun v s2 x H2 I2 r q => rl_tuple pins s2 σ H2 x v Q I2 r (by
    obtain ⟨p, xs, e1, e2, q⟩ := q
    exact .inr ⟨p, xs, e1, .of e2, q⟩)) na) na))
theorem bmK {T id : String} {name : Str} {r : V → List V → Hp → VK → Prop} (K : PySem.W.Frag) (hK : X.K = K) (pa : PlainAttrs T) (slot : Slot T name id) (hty : typeOf (.builtin id) = pure (.type "method_descriptor")) (hm : MtR X id r) (ho : PE X o to) (ha : PA X (e :: es) t)
    (hbase : attributeBase o name X.env (eval o X.env) = eval o X.env := by rfl)
    (hfew : ((backTo cpos (starEach (e :: es) X.env)).all (fun x => !x.1) && (backToKw cpos (keywordEach [] X.env)).all (fun x => x.1.isSome)
      && decide ((e :: es).length + ([] : List Keyword).length + (if ([] : List Keyword).isEmpty then 0 else 1) < 30)) = true := by rfl)
    (hline : (apos.endLine == cpos.line) = true := by rfl) (hs : starEach (e :: es) X.env = (false, eval e X.env) :: starEach es X.env := by rfl) (hplain : (backTo cpos (starEach es X.env)).any (·.1) = false := by rfl) :
    PE X (.Call (.Attribute o name apos) (e :: es) [] cpos) (tBM K T r to t) := by
  subst hK
  exact pe_bm pa slot hty hm ho ha hbase hfew hline hs hplain
/-- a class with the attributes fs -/
structure ClF (K : PySem.W.Frag) (C : Addr) (fs : List Str) : Prop where
  cl : Cls K C
  na : ∀ f ∈ fs, NoAttr K C f
def tFldC (C : Addr) (ta : TE) (f : Str) : TE := fun σ H Q => ta σ H fun x H1 => ∃ a dx fs v, x = .ref a ∧ H1 a = some (.ins C dx fs) ∧ fs.lookup f = some v ∧ Q v H1
theorem fldC {C : Addr} {f : Str} {fs : List Str} (T : ClF X.K C fs) (hf : f ∈ fs) (he : PE X e ta) (hb : attributeBase e f X.env (eval e X.env) = eval e X.env) : PE X (.Attribute e f pos) (tFldC C ta f) := by
  refine ⟨fun pins s σ H Q I h => ?_⟩
  refine attr_of hb (thn (he.run pins s σ H _ I h) fun u s1 ⟨x, H1, I1, rx, a, dx, fs, v, ex, ea, l, q⟩ => ?_)
  have c := T.cl
  have n := T.na f hf
  subst ex
  obtain rfl : u = Value.ref a := rx
  exact getattr_ok I1 ea c n l fun u' s2 I2 ru => ⟨v, H1, I2, ru, q⟩
def sFldC (C : Addr) (ta tv : TE) (f : Str) : TS := fun D σ H => tv σ H fun y H1 => ta σ H1 fun x H2 => ∃ a dx fs, x = .ref a ∧ H2 a = some (.ins C dx fs) ∧ fs.length < 1000 ∧
  D.nx σ (upd H2 a (.ins C dx (putF f y fs)))
theorem PS.imp {st : Stmt} {t u : TS} (h : PS X st t) (i : ∀ D σ H, u D σ H → t D σ H) : PS X st u := ⟨fun pins s σ H D I q => h.run pins s σ H D I (i D σ H q)⟩
theorem sfldC {C : Addr} {f : Str} {fs : List Str} {value : Expr} {tv : TE} {pos pos' : Pos} (T : ClF X.K C fs) (hf : f ∈ fs) (ha : PE X o ta) (hv : PE X value tv) (hs : swapsWith value (some (.Attribute o f pos')) pos.line X.env = pure false) : PS X (.Assign [.Attribute o f pos'] value pos) (sFldC C ta tv f) := by
  have c := T.cl
  have n := T.na f hf
  refine ⟨fun pins s σ H D I h => ?_⟩
  refine plainObj_wpAny_Assign_Attribute (thn (hv.run pins s σ H _ I h) fun u s1 ⟨y, H1, I1, ry, q⟩ => thn (ha.run pins s1 σ H1 _ I1 q) fun ov s2 ⟨x, H2, I2, rx, a, dx, fs, ex, ea, l, q2⟩ => ?_) hs
  subst ex
  obtain rfl : ov = Value.ref a := rx
  exact setattr_ok I2 ea c n l ry fun s3 I3 => ⟨σ, _, I3, q2⟩
theorem piT_K {tg l : Expr} {tl : TE} (K : PySem.W.Frag) (hK : X.K = K) (hl : PE X l tl) : PI X tg l (iTup K tl) := by subst hK; exact pi_tup hl
theorem piL_K {tg l : Expr} {tl : TE} (K : PySem.W.Frag) (hK : X.K = K) (hl : PE X l tl) : PI X tg l (iList K tl) := by subst hK; exact pi_list hl
theorem pg_tupK {es : List Expr} {k : Nat} {t : TGs} {n : Nat} (K : PySem.W.Frag) (hK : X.K = K) (hc : X.calm = true) (h : PGs X es t)
    (hn : (assignEach es X.env).length = n := by rfl) (hst : (assignEach es X.env).findIdx? (·.1) = none := by rfl) : PG X (.Tuple es k pos) (gTup K n t) := by subst hK; exact pg_tup hc h hn hst
theorem eqD_K (K : PySem.W.Frag) (hK : X.K = K) (hu : X.A.units + 64 < cLine) : OpR X (compareOp .Eq) (rEqD K) := by subst hK; exact op_eqD hu
theorem neD_K (K : PySem.W.Frag) (hK : X.K = K) (hu : X.A.units + 64 < cLine) : OpR X (compareOp .NotEq) (rNeD K) := by subst hK; exact op_neD hu
theorem sortedI_K (K : PySem.W.Frag) (hK : X.K = K) : CallR X (.builtin "sorted") (rSortedI K) := by subst hK; exact cr_sortedI
end
end CL
set_option Elab.async false
set_option linter.all false
set_option maxRecDepth 100000
set_option maxHeartbeats 4000000
/-! Loops by their items. -/
namespace CL
open PySem PySem.Spec PyProof.Rows L2 RX
/-- the heap without what stands at D -/
def hide (H : Hp) (D : Addr) : Hp := fun b => if b = D then none else H b
section
variable {W : List Addr} {H H1 H2 H3 : Hp} {a D : Addr} {o : HO}
theorem hide_ne (h : a ≠ D) : hide H D a = H a := if_neg h
theorem hide_same : hide H D D = none := if_pos rfl
theorem hide_upd : hide (upd H D o) D = hide H D := by
  funext b
  by_cases h : b = D
  · subst h; rw [hide_same, hide_same]
  · rw [hide_ne h, hide_ne h, upd_ne h]
theorem of_hide {u : HO} (e : hide H D a = some u) : H a = some u := by
  by_cases h : a = D
  · subst h; rw [hide_same] at e; cases e
  · rw [hide_ne h] at e; exact e
theorem ext_hide : Ext W (hide H D) H := ⟨fun a o e _ _ => of_hide e, fun P ⟨ps, e, t⟩ => ⟨ps, of_hide e, t⟩, fun a e => by
    by_cases h : a = D
    · subst h; exact hide_same
    · rw [hide_ne h]; exact e⟩
theorem Ext.hide (x : Ext W H1 H2) (n : H1 D = none) : Ext W H1 (CL.hide H2 D) := ⟨fun a o e nt h => by
    rw [hide_ne (fun z => by subst z; rw [n] at e; cases e)]
    exact x.at_ a o e nt h, fun P t => by
    obtain ⟨ps, e, t2⟩ := x.tab P t
    obtain ⟨qs, e3, _⟩ := t
    exact ⟨ps, by rw [hide_ne (fun z => by subst z; rw [n] at e3; cases e3)]; exact e, t2⟩, fun a e => by
    by_cases h : a = D
    · subst h; exact n
    · rw [hide_ne h] at e; exact x.dom a e⟩
theorem Ext.hide2 (x : Ext W H1 H2) (n : H1 D ≠ none) : Ext W (CL.hide H1 D) (CL.hide H2 D) := (ext_hide.trans x).hide hide_same
end
/-- J gives n items, on every heap behind Hs; Y: the i-th item, the heap before and behind -/
structure Src (J : It) (n : Nat) (W : List Addr) (Hs : Hp) (Y : Nat → V → Hp → Hp → Prop) : Prop where
  go : ∀ i H, Ext W Hs H → i < n → J.go i H
  stop : ∀ H, Ext W Hs H → J.stop n H
  yld : ∀ i H v H', Ext W Hs H → i < n → J.yld i H v H' → Y i v H H'
/-- the item is f i, the heap stays -/
def YV (f : Nat → V) : Nat → V → Hp → Hp → Prop := fun i v H H' => v = f i ∧ H' = H
/-- the item is a new pair -/
def YP (f g : Nat → V) : Nat → V → Hp → Hp → Prop := fun i v H H' => ∃ T, v = .ref T ∧ H T = none ∧ H' = upd H T (.tup [f i, g i])
section
variable {K : PySem.W.Frag} {W : List Addr} {H : Hp} {a b : Addr} {xs ys : List V}
theorem src_tup (e : H a = some (.tup xs)) (hw : a ∉ W) : Src (Itt K a) xs.length W H (YV fun i => xs.getD i .non) :=
  ⟨fun i H1 x h => ⟨xs, xs[i], .of (x.at_ a _ e nt_tup hw), by simp [h]⟩, fun H1 x => ⟨xs, .of (x.at_ a _ e nt_tup hw), Nat.le_refl _⟩, fun i H1 v H2 x h ⟨e1, e2⟩ => by
    have q := e2 xs (.of (x.at_ a _ e nt_tup hw))
    exact ⟨by simp [List.getD_eq_getElem?_getD, q], e1⟩⟩
theorem src_lst (e : H a = some (.lst xs)) (hw : a ∉ W) : Src (Itl K a) xs.length W H (YV fun i => xs.getD i .non) :=
  ⟨fun i H1 x h => ⟨xs, xs[i], .of (x.at_ a _ e nt_lst hw), by simp [h]⟩, fun H1 x => ⟨xs, .of (x.at_ a _ e nt_lst hw), Nat.le_refl _⟩, fun i H1 v H2 x h ⟨e1, e2⟩ => by
    have q := e2 xs (.of (x.at_ a _ e nt_lst hw))
    exact ⟨by simp [List.getD_eq_getElem?_getD, q], e1⟩⟩
theorem src_rng {lo : Int} {n : Nat} : Src (Itr lo n) n W H (YV fun i => .int (lo + (i : Nat))) :=
  ⟨fun i H1 x h => h, fun H1 x => Nat.le_refl _, fun i H1 v H2 x h ⟨e1, e2⟩ => ⟨e2, e1⟩⟩
theorem src_enumT (e : H a = some (.tup xs)) (hw : a ∉ W) : Src (IteT K a) xs.length W H (YP (fun i => .int (i : Nat)) fun i => xs.getD i .non) :=
  ⟨fun i H1 x h => ⟨xs, xs[i], .of (x.at_ a _ e nt_tup hw), by simp [h]⟩, fun H1 x => ⟨xs, .of (x.at_ a _ e nt_tup hw), rfl⟩, fun i H1 v H2 x h ⟨T, y, e1, e2, e3, e4⟩ => by
    have q := e4 xs (.of (x.at_ a _ e nt_tup hw))
    exact ⟨T, e1, e2, by rw [e3]; simp [List.getD_eq_getElem?_getD, q]⟩⟩
theorem src_enum (e : H a = some (.lst xs)) (hw : a ∉ W) : Src (Ite K a) xs.length W H (YP (fun i => .int (i : Nat)) fun i => xs.getD i .non) :=
  ⟨fun i H1 x h => ⟨xs, xs[i], .of (x.at_ a _ e nt_lst hw), by simp [h]⟩, fun H1 x => ⟨xs, .of (x.at_ a _ e nt_lst hw), Nat.le_refl _⟩, fun i H1 v H2 x h ⟨T, y, e1, e2, e3, e4⟩ => by
    have q := e4 xs (.of (x.at_ a _ e nt_lst hw))
    exact ⟨T, e1, e2, by rw [e3]; simp [List.getD_eq_getElem?_getD, q]⟩⟩
theorem src_zip (e : H a = some (.lst xs)) (e' : H b = some (.lst ys)) (hw : a ∉ W) (hw' : b ∉ W) (hl : xs.length = ys.length) : Src (Itz K a b) xs.length W H (YP (fun i => xs.getD i .non) fun i => ys.getD i .non) :=
  ⟨fun i H1 x h => ⟨xs, ys, xs[i], ys[i]'(by omega), .of (x.at_ a _ e nt_lst hw), .of (x.at_ b _ e' nt_lst hw'), by simp [h], by simp [show i < ys.length by omega]⟩,
    fun H1 x => ⟨xs, ys, .of (x.at_ a _ e nt_lst hw), .of (x.at_ b _ e' nt_lst hw'), .inl (Nat.le_refl _)⟩, fun i H1 v H2 x h ⟨T, y, z, e1, e2, e3, e4, e5⟩ => by
    have q := e4 xs (.of (x.at_ a _ e nt_lst hw))
    have q' := e5 ys (.of (x.at_ b _ e' nt_lst hw'))
    exact ⟨T, e1, e2, by rw [e3]; simp [List.getD_eq_getElem?_getD, q, q']⟩⟩
theorem Src.mono {J : It} {n : Nat} {Y : Nat → V → Hp → Hp → Prop} {H' : Hp} (S : Src J n W H Y) (x : Ext W H H') : Src J n W H' Y :=
  ⟨fun i H1 y => S.go i H1 (x.trans y), fun H1 y => S.stop H1 (x.trans y), fun i H1 v H2 y => S.yld i H1 v H2 (x.trans y)⟩
end
/-- [te for tg in J if tt]: p tells which items stay, R what is made of each -/
theorem lc_any {J : It} {n : Nat} {Y : Nat → V → Hp → Hp → Prop} {g : TG} {tt : TT} {te : TE} {vs : List Nat} {σ : L2.St} {H1 : Hp} {Qd : Hp → Prop} {D : Addr} (hD : H1 D = none) (S : Src J n [] H1 Y) (p : Nat → Bool) (R : Nat → V → Hp → Prop) (hn : n ≤ 100000)
    (mono : ∀ i y Ha Hb, R i y Ha → Ext [] Ha Hb → R i y Hb)
    (hs : ∀ (i : Nat) (v : V) (H H' : Hp) (Kt : V → Hp → Prop) (Kf : Hp → Prop), i < n → Ext [] H1 H → Y i v H H' → (∀ y H4, p i = true → Ext [] H H4 → (∀ D zs, H D = some (.lst zs) → R i y (hide H4 D)) → Kt y H4) → (∀ H3, p i = false → Ext [] H H3 → Kf H3) →
      g v (wipe σ vs) H' fun σ2 H2 => wipe σ2 vs = wipe σ vs ∧ tt σ2 H2 fun b H3 => if b = true then te σ2 H3 Kt else Kf H3)
    (hd : ∀ H' ys, Ext [] H1 (hide H' D) → Ext [] H1 H' → H' D = some (.lst ys) → Paired (fun i y => R i y (hide H' D)) ((List.range n).filter p) ys → Qd H') :
    ∃ W : Nat → Nat → Hp → Prop, (∃ m, W 0 m (upd H1 D (.lst []))) ∧ ∀ i m H, W i m H →
      (J.stop i H ∧ Qd H) ∨ (J.go i H ∧ ∃ Nx : Hp → Prop, (∀ H', Nx H' → ∃ m', m' < m ∧ W (i + 1) m' H') ∧ ∀ x H', J.yld i H x H' → g x (wipe σ vs) H' fun σ2 H2 => wipe σ2 vs = wipe σ vs ∧ tt σ2 H2 fun b H3 =>
        if b = true then te σ2 H3 fun y H4 => ∃ acc, H4 D = some (.lst acc) ∧ acc.length < sizeLine ∧ Nx (upd H4 D (.lst (acc ++ [y]))) else Nx H3) := by
  let Pv : Nat → Hp → Prop := fun i H => ∃ ys, H D = some (.lst ys) ∧ Ext [] H1 (hide H D) ∧ Paired (fun j y => R j y (hide H D)) ((List.range i).filter p) ys
  refine ⟨fun i m H => m = n - i ∧ i ≤ n ∧ Pv i H, ⟨n, by simp, Nat.zero_le _, [], upd_same, ?_, ?_⟩, ?_⟩
  · rw [hide_upd]; exact Ext.refl.hide hD
  · exact .nil
  · rintro i m H ⟨rfl, hi, ys, e1, e2, e3⟩
    have eH : Ext [] H1 H := e2.trans ext_hide
    have hnD : H D ≠ none := by rw [e1]; simp
    have hlen : ys.length ≤ i := by
      rw [← Paired.length e3]
      refine Nat.le_trans (List.length_filter_le _ _) ?_
      simp
    by_cases hlt : i < n
    · refine .inr ⟨S.go i H eH hlt, Pv (i + 1), fun H' q => ⟨n - (i + 1), by omega, rfl, hlt, q⟩, fun x H' y => ?_⟩
      refine hs i x H H' _ _ hlt eH (S.yld i H x H' eH hlt y) (fun y' H4 hp x4 r => ?_) fun H3 hp x3 => ?_
      · have f1 : H4 D = some (.lst ys) := x4.lst e1
        refine ⟨ys, f1, by rw [sizeLine_eq]; omega, ys ++ [y'], upd_same, ?_, ?_⟩
        · rw [hide_upd]; exact (eH.trans x4).hide hD
        · rw [hide_upd, List.range_succ, List.filter_append]
          have ef : List.filter p [i] = [i] := by simp [hp]
          rw [ef]
          exact Paired.snoc (Paired.mapP e3 fun j z q => mono _ _ _ _ q (x4.hide2 hnD)) (r D ys e1)
      · refine ⟨ys, x3.lst e1, (eH.trans x3).hide hD, ?_⟩
        rw [List.range_succ, List.filter_append]
        have ef : List.filter p [i] = [] := by simp [hp]
        rw [ef, List.append_nil]
        exact Paired.mapP e3 fun j z q => mono _ _ _ _ q (x3.hide2 hnD)
    · have en : i = n := by omega
      subst en
      exact .inl ⟨S.stop H eH, hd H ys e2 eH e1 e3⟩
theorem paired_map {F : Nat → V} : ∀ {l : List Nat} {ys : List V}, Paired (fun i y => y = F i) l ys → ys = l.map F
  | [], _, .nil => rfl
  | _ :: _, _, .cons h t => by rw [List.map_cons, ← paired_map t, h]
theorem filter_true (n : Nat) : (List.range n).filter (fun _ => true) = List.range n := List.filter_eq_self.mpr fun _ _ => rfl
/-- .. where each item's value is known -/
theorem lc_val {J : It} {n : Nat} {Y : Nat → V → Hp → Hp → Prop} {g : TG} {tt : TT} {te : TE} {vs : List Nat} {σ : L2.St} {H1 : Hp} {Qd : Hp → Prop} {D : Addr} (hD : H1 D = none) (S : Src J n [] H1 Y) (p : Nat → Bool) (F : Nat → V) (hn : n ≤ 100000)
    (hs : ∀ (i : Nat) (v : V) (H H' : Hp) (Kt : V → Hp → Prop) (Kf : Hp → Prop), i < n → Ext [] H1 H → Y i v H H' → (∀ H4, p i = true → Ext [] H H4 → Kt (F i) H4) → (∀ H3, p i = false → Ext [] H H3 → Kf H3) →
      g v (wipe σ vs) H' fun σ2 H2 => wipe σ2 vs = wipe σ vs ∧ tt σ2 H2 fun b H3 => if b = true then te σ2 H3 Kt else Kf H3)
    (hd : ∀ H', Ext [] H1 (hide H' D) → Ext [] H1 H' → H' D = some (.lst (((List.range n).filter p).map F)) → Qd H') :
    ∃ W : Nat → Nat → Hp → Prop, (∃ m, W 0 m (upd H1 D (.lst []))) ∧ ∀ i m H, W i m H →
      (J.stop i H ∧ Qd H) ∨ (J.go i H ∧ ∃ Nx : Hp → Prop, (∀ H', Nx H' → ∃ m', m' < m ∧ W (i + 1) m' H') ∧ ∀ x H', J.yld i H x H' → g x (wipe σ vs) H' fun σ2 H2 => wipe σ2 vs = wipe σ vs ∧ tt σ2 H2 fun b H3 =>
        if b = true then te σ2 H3 fun y H4 => ∃ acc, H4 D = some (.lst acc) ∧ acc.length < sizeLine ∧ Nx (upd H4 D (.lst (acc ++ [y]))) else Nx H3) :=
  lc_any hD S p (fun i y _ => y = F i) hn (fun _ _ _ _ e _ => e) (fun i v H H' Kt Kf hi x y kt kf => hs i v H H' Kt Kf hi x y (fun H4 hp x4 => kt _ _ hp x4 fun _ _ _ => rfl) kf)
    fun H' ys h2 h3 h4 h5 => hd H' h2 h3 (by rw [h4, paired_map h5])
/-- .. and no item is left out -/
theorem lc_all {J : It} {n : Nat} {Y : Nat → V → Hp → Hp → Prop} {g : TG} {te : TE} {vs : List Nat} {σ : L2.St} {H1 : Hp} {Qd : Hp → Prop} {D : Addr} (hD : H1 D = none) (S : Src J n [] H1 Y) (F : Nat → V) (hn : n ≤ 100000)
    (hs : ∀ (i : Nat) (v : V) (H H' : Hp) (Kt : V → Hp → Prop), i < n → Ext [] H1 H → Y i v H H' → (∀ H4, Ext [] H H4 → Kt (F i) H4) →
      g v (wipe σ vs) H' fun σ2 H2 => wipe σ2 vs = wipe σ vs ∧ te σ2 H2 Kt)
    (mg : ∀ v σ H Q Q', (∀ σ H, Q σ H → Q' σ H) → g v σ H Q → g v σ H Q')
    (hd : ∀ H', Ext [] H1 (hide H' D) → Ext [] H1 H' → H' D = some (.lst ((List.range n).map F)) → Qd H') :
    ∃ W : Nat → Nat → Hp → Prop, (∃ m, W 0 m (upd H1 D (.lst []))) ∧ ∀ i m H, W i m H →
      (J.stop i H ∧ Qd H) ∨ (J.go i H ∧ ∃ Nx : Hp → Prop, (∀ H', Nx H' → ∃ m', m' < m ∧ W (i + 1) m' H') ∧ ∀ x H', J.yld i H x H' → g x (wipe σ vs) H' fun σ2 H2 => wipe σ2 vs = wipe σ vs ∧ tYes σ2 H2 fun b H3 =>
        if b = true then te σ2 H3 fun y H4 => ∃ acc, H4 D = some (.lst acc) ∧ acc.length < sizeLine ∧ Nx (upd H4 D (.lst (acc ++ [y]))) else Nx H3) :=
  lc_val hD S (fun _ => true) F hn (fun i v H H' Kt Kf hi x y kt kf => mg _ _ _ _ _ (fun σ2 H2 ⟨e, q⟩ => ⟨e, iteT (B := Kf H2) q⟩) (hs i v H H' Kt hi x y fun H4 x4 => kt H4 rfl x4)) fun H' h2 h3 h4 => hd H' h2 h3 (by rw [h4, filter_true])
theorem yesT {σ : L2.St} {H : Hp} {A B : Hp → Prop} (h : A H) : tYes σ H fun b H3 => if b = true then A H3 else B H3 := by
  show if true = true then A H else B H
  rw [if_pos rfl]; exact h
theorem ifB {b : Bool} {A B : Prop} (h1 : b = true → A) (h2 : b = false → B) : if b = true then A else B := by
  cases b with
  | true => rw [if_pos rfl]; exact h1 rfl
  | false => rw [if_neg (by simp)]; exact h2 rfl
theorem ifT {b : Bool} {A B : Prop} (e : b = true) (h : A) : if b = true then A else B := by rw [if_pos e]; exact h
theorem ifF {b : Bool} {A B : Prop} (e : b = false) (h : B) : if b = true then A else B := by rw [if_neg (by rw [e]; simp)]; exact h
/-- for tg in J: body -/
theorem for_any {J : It} {n : Nat} {W : List Addr} {Hs : Hp} {Y : Nat → V → Hp → Hp → Prop} {g : TG} {tb : TS} {D : Ends} {σ : L2.St} {H : Hp} (S : Src J n W Hs Y) (Pv : Nat → L2.St → Hp → Prop) (h0 : Pv 0 σ H) (hx : ∀ i σ H, Pv i σ H → Ext W Hs H)
    (hs : ∀ i v σ H H', i < n → Pv i σ H → Y i v H H' → g v σ H' fun σ2 H2 => tb { D with nx := Pv (i + 1), ct := Pv (i + 1), bk := D.nx } σ2 H2) (hd : ∀ σ H, Pv n σ H → D.nx σ H) :
    ∃ W : Nat → Nat → L2.St → Hp → Prop, (∃ m, W 0 m σ H) ∧ ∀ i m σ H, W i m σ H →
      (J.stop i H ∧ D.nx σ H) ∨ (J.go i H ∧ ∃ N : L2.St → Hp → Prop, (∀ σ' H', N σ' H' → ∃ m', m' < m ∧ W (i + 1) m' σ' H') ∧ ∀ x H', J.yld i H x H' → g x σ H' fun σ2 H2 => tb { D with nx := N, ct := N, bk := D.nx } σ2 H2) := by
  refine ⟨fun i m σ H => m = n - i ∧ i ≤ n ∧ Pv i σ H, ⟨n, by simp, Nat.zero_le _, h0⟩, ?_⟩
  rintro i m σ H ⟨rfl, hi, p⟩
  by_cases hlt : i < n
  · exact .inr ⟨S.go i H (hx _ _ _ p) hlt, Pv (i + 1), fun σ' H' p' => ⟨n - (i + 1), by omega, rfl, hlt, p'⟩, fun x H' y => hs i x σ H H' hlt p (S.yld i H x H' (hx _ _ _ p) hlt y)⟩
  · have en : i = n := by omega
    subst en
    exact .inl ⟨S.stop H (hx _ _ _ p), hd σ H p⟩
end CL
set_option Elab.async false
set_option linter.all false
set_option maxRecDepth 100000
set_option maxHeartbeats 4000000
namespace CL
open PySem PySem.Spec PyProof.Rows L2 RX
/-- a number -/
def vi (n : Nat) : V := .int (n : Int)
def vo : Option Nat → V
  | none => .non
  | some n => .int (n : Int)
theorem at_vi {l : List Nat} {i : Nat} {z : Int} (h : i < l.length) (e : z = (i : Int)) : atI (l.map vi) z = some (vi (gt l i)) := at_of e (by rw [List.getElem?_map, some_gt h]; rfl)
theorem sz0 : ([] : List V).length ≤ sizeLine := by show 0 ≤ sizeLine; decide
theorem sz1 {x : V} : [x].length ≤ sizeLine := by show 1 ≤ sizeLine; decide
theorem sz2 {x y : V} : [x, y].length ≤ sizeLine := by show 2 ≤ sizeLine; decide
theorem sz3 {x y z : V} : [x, y, z].length ≤ sizeLine := by show 3 ≤ sizeLine; decide
theorem sl_of {n : Nat} (h : n ≤ 100000) : n ≤ sizeLine := by rw [sizeLine_eq]; omega
theorem sl_lt {n : Nat} (h : n ≤ 100000) : n < sizeLine := by rw [sizeLine_eq]; omega
theorem cmul1 {i j : Int} (h : -100000 ≤ i ∧ i ≤ 100000) : CMul i j := .inl ⟨by omega, by omega⟩
theorem cmul2 {i j : Int} (h : -100000 ≤ j ∧ j ≤ 100000) : CMul i j := .inr ⟨by omega, by omega⟩
/-- the i-th item of a list of options -/
def go (l : List (Option Nat)) (i : Nat) : Option Nat := l.getD i none
theorem go_of {l : List (Option Nat)} {i : Nat} {x : Option Nat} (h : l[i]? = some x) : go l i = x := by
  unfold go; rw [List.getD_eq_getElem?_getD, h]; rfl
theorem some_go {l : List (Option Nat)} {i : Nat} (h : i < l.length) : l[i]? = some (go l i) := by
  unfold go; rw [List.getD_eq_getElem?_getD, List.getElem?_eq_getElem h]; rfl
theorem at_vo {l : List (Option Nat)} {i : Nat} {z : Int} (h : i < l.length) (e : z = (i : Int)) : atI (l.map vo) z = some (vo (go l i)) := at_of e (by rw [List.getElem?_map, some_go h]; rfl)
theorem getD_vi {l : List Nat} {i : Nat} (h : i < l.length) : (l.map vi).getD i .non = vi (gt l i) := by
  rw [List.getD_eq_getElem?_getD, List.getElem?_map, some_gt h]; rfl
theorem getD_vo {l : List (Option Nat)} {i : Nat} (h : i < l.length) : (l.map vo).getD i .non = vo (go l i) := by
  rw [List.getD_eq_getElem?_getD, List.getElem?_map, some_go h]; rfl
/-- a tabulated list -/
def tab (n : Nat) (F : Nat → V) : List V := (List.range n).map F
theorem tab_len {n : Nat} {F : Nat → V} : (tab n F).length = n := by unfold tab; simp
theorem tab_get {n i : Nat} {F : Nat → V} (h : i < n) : (tab n F)[i]? = some (F i) := by
  unfold tab; rw [List.getElem?_map, List.getElem?_range h]; rfl
theorem tab_at {n i : Nat} {F : Nat → V} {z : Int} (h : i < n) (e : z = (i : Int)) : atI (tab n F) z = some (F i) := at_of e (tab_get h)
theorem tab_getD {n i : Nat} {F : Nat → V} {d : V} (h : i < n) : (tab n F).getD i d = F i := by
  rw [List.getD_eq_getElem?_getD, tab_get h]; rfl
theorem tab_set {n i : Nat} {F : Nat → V} {v : V} : (tab n F).set i v = tab n (fset F i v) := by
  refine List.ext_getElem? fun j => ?_
  by_cases hj : j < n
  · rw [tab_get hj, List.getElem?_set]
    by_cases e : i = j
    · subst e
      rw [if_pos rfl, tab_len, if_pos hj, fset_same]
    · rw [if_neg e, tab_get hj, fset_ne (fun z => e z.symm)]
  · rw [List.getElem?_eq_none (by rw [List.length_set, tab_len]; omega), List.getElem?_eq_none (by rw [tab_len]; omega)]
theorem tab_congr {n : Nat} {F G : Nat → V} (h : ∀ i, i < n → F i = G i) : tab n F = tab n G := by
  unfold tab
  exact List.map_congr_left fun i hi => h i (List.mem_range.mp hi)
theorem tab_vi {l : List Nat} : l.map vi = tab l.length (fun i => vi (gt l i)) := by
  refine List.ext_getElem? fun j => ?_
  by_cases hj : j < l.length
  · rw [tab_get hj, List.getElem?_map, some_gt hj]; rfl
  · rw [List.getElem?_eq_none (by simp; omega), List.getElem?_eq_none (by rw [tab_len]; omega)]
theorem tab_map {n : Nat} {f : Nat → Nat} : ((List.range n).map f).map vi = tab n (fun i => vi (f i)) := by
  unfold tab; rw [List.map_map]; rfl
theorem ixN_of {n i : Nat} {z : Int} (h : i < n) (e : z = (i : Int)) : ixN n z = some i := by
  subst e
  unfold ixN
  rw [if_pos (by omega), if_pos (by omega)]
  simp
theorem src_tupN {K : PySem.W.Frag} {W : List Addr} {H : Hp} {a : Addr} {l : List Nat} (e : H a = some (.tup (l.map vi))) (hw : a ∉ W) : Src (Itt K a) l.length W H (YV fun i => vi (gt l i)) := by
  have S := src_tup (K := K) e hw
  rw [List.length_map] at S
  exact ⟨S.go, S.stop, fun i H1 v H2 x h y => by
    obtain ⟨e1, e2⟩ := S.yld i H1 v H2 x h y
    exact ⟨by rw [e1]; exact getD_vi h, e2⟩⟩
theorem src_lstN {K : PySem.W.Frag} {W : List Addr} {H : Hp} {a : Addr} {l : List Nat} (e : H a = some (.lst (l.map vi))) (hw : a ∉ W) : Src (Itl K a) l.length W H (YV fun i => vi (gt l i)) := by
  have S := src_lst (K := K) e hw
  rw [List.length_map] at S
  exact ⟨S.go, S.stop, fun i H1 v H2 x h y => by
    obtain ⟨e1, e2⟩ := S.yld i H1 v H2 x h y
    exact ⟨by rw [e1]; exact getD_vi h, e2⟩⟩
theorem src_tupO {K : PySem.W.Frag} {W : List Addr} {H : Hp} {a : Addr} {l : List (Option Nat)} (e : H a = some (.tup (l.map vo))) (hw : a ∉ W) : Src (Itt K a) l.length W H (YV fun i => vo (go l i)) := by
  have S := src_tup (K := K) e hw
  rw [List.length_map] at S
  exact ⟨S.go, S.stop, fun i H1 v H2 x h y => by
    obtain ⟨e1, e2⟩ := S.yld i H1 v H2 x h y
    exact ⟨by rw [e1]; exact getD_vo h, e2⟩⟩
theorem src_enumTN {K : PySem.W.Frag} {W : List Addr} {H : Hp} {a : Addr} {l : List Nat} (e : H a = some (.tup (l.map vi))) (hw : a ∉ W) : Src (IteT K a) l.length W H (YP (fun i => vi i) fun i => vi (gt l i)) := by
  have S := src_enumT (K := K) e hw
  rw [List.length_map] at S
  exact ⟨S.go, S.stop, fun i H1 v H2 x h y => by
    obtain ⟨T, e1, e2, e3⟩ := S.yld i H1 v H2 x h y
    exact ⟨T, e1, e2, by rw [e3]; dsimp only; rw [getD_vi h]; rfl⟩⟩
theorem src_enumTO {K : PySem.W.Frag} {W : List Addr} {H : Hp} {a : Addr} {l : List (Option Nat)} (e : H a = some (.tup (l.map vo))) (hw : a ∉ W) : Src (IteT K a) l.length W H (YP (fun i => vi i) fun i => vo (go l i)) := by
  have S := src_enumT (K := K) e hw
  rw [List.length_map] at S
  exact ⟨S.go, S.stop, fun i H1 v H2 x h y => by
    obtain ⟨T, e1, e2, e3⟩ := S.yld i H1 v H2 x h y
    exact ⟨T, e1, e2, by rw [e3]; dsimp only; rw [getD_vo h]; rfl⟩⟩
theorem src_rngN {n : Nat} {W : List Addr} {H : Hp} : Src (Itr 0 n) n W H (YV fun i => vi i) := by
  have S := src_rng (lo := 0) (n := n) (W := W) (H := H)
  exact ⟨S.go, S.stop, fun i H1 v H2 x h y => by
    obtain ⟨e1, e2⟩ := S.yld i H1 v H2 x h y
    exact ⟨by rw [e1]; show V.int (0 + (i : Int)) = _; rw [Int.zero_add]; rfl, e2⟩⟩
local macro_rules | `(tactic| walk_at "e") => `(tactic| (repeat (first
  | refine ⟨_, rfl, ?_⟩
  | refine ⟨_, _, rfl, rfl, ?_⟩
  | refine ⟨_, _, rfl, rfl, (by first | decide | omega | (dsimp only; omega)), ?_⟩
  | refine ⟨_, _, rfl, rfl, cmul1 (by omega), ?_⟩
  | refine ⟨_, _, rfl, rfl, cmul2 (by omega), ?_⟩
  | refine ⟨_, _, rfl, rfl, ⟨by omega, by omega⟩, ?_⟩
  | refine ⟨_, _, rfl, ‹_›, ?_⟩
  | refine ⟨(by first | decide | omega | (dsimp only; omega)), ?_⟩
  | refine ⟨cmul1 (by omega), ?_⟩
  | refine ⟨cmul2 (by omega), ?_⟩
  | refine ⟨⟨by omega, by omega⟩, ?_⟩
  | refine yesT ?_)))
section
variable {P : Program} {w : World} {K : PySem.W.Frag} {mg : Str → Option Value} {base : Heap}
/-! partner -/
abbrev s_partner : Stmt := top 21
theorem sc_partner : FnScope ["gate"] ["gate"] (defScope s_partner) := ⟨rfl, rfl, rfl, by decide +kernel, rfl, by decide +kernel, by decide +kernel⟩
def spPartner : Sp := fun vs H Q _ => ∃ g : Nat, vs = [vi g] ∧ Q (vi (pt g)) H
theorem ok_partner {f : Addr} {fd : FuncData} (F : Fun K "partner" "partner" s_partner f fd) : FnOk P w K mg base CX0 1 f fd ["gate"] spPartner := by
  refine F.ok sc_partner (fun vs H Q E h => ?_) (fun cdv A outer s H vs Q E hr h => ?_)
  · obtain ⟨g, rfl, _⟩ := h
    rfl
  · obtain ⟨g, rfl, k⟩ := h
    refine ⟨_, (pss_one (ps_ret (pe_op op_sub (pe_op op_add (pv 0) pe_int) (pe_op op_mul pe_int (pe_op op_mod (pv 0) pe_int))))), ?_⟩
    walk_at "e"
    have e : V.int ((g : Int) + 1 - 2 * ((g : Int) % 2)) = vi (pt g) := congrArg V.int (pt_int g)
    show Q (V.int ((g : Int) + 1 - 2 * ((g : Int) % 2))) H
    rw [e]
    exact k
/-! plain_wires -/
abbrev s_plain_wires : Stmt := top 15
theorem sc_plain_wires : FnScope ["many"] ["many"] (defScope s_plain_wires) := ⟨rfl, rfl, rfl, by decide +kernel, rfl, by decide +kernel, by decide +kernel⟩
def spPlain : Sp := fun vs H Q _ => ∃ n : Nat, vs = [vi n] ∧ n ≤ 1000 ∧ ∀ p H', Ext [] H H' → H' p = some (.tup ((List.range n).map vi)) → Q (.ref p) H'
theorem rgV_vi (n : Nat) : rgV 0 (n : Int) = (List.range n).map vi := by
  unfold rgV
  have : ((n : Int) - 0).toNat = n := by omega
  rw [this]
  refine List.map_congr_left fun i _ => ?_
  show V.int (0 + (i : Int)) = V.int (i : Int)
  rw [Int.zero_add]
theorem ok_plain {f : Addr} {fd : FuncData} (F : Fun K "plain_wires" "plain_wires" s_plain_wires f fd) (B : Bts mg) : FnOk P w K mg base CX0 1 f fd ["many"] spPlain := by
  refine F.ok sc_plain_wires (fun vs H Q E h => ?_) (fun cdv A outer s H vs Q E hr h => ?_)
  · obtain ⟨g, rfl, _⟩ := h
    rfl
  · obtain ⟨n, rfl, hn, k⟩ := h
    refine ⟨_, (pss_one (ps_ret (pe_tupRg rfl (by rfl) B.tuple (prg_1 (by rfl) B.range (pv 0))))), ?_⟩
    walk_at "e"
    intro q hq
    exact k q _ (Ext.add hq) (by rw [upd_same, rgV_vi])
/-! parted_wires -/
abbrev s_parted_wires : Stmt := top 17
theorem sc_parted_wires : FnScope ["many", "place"] ["many"] (defScope s_parted_wires) := ⟨rfl, rfl, rfl, by decide +kernel, rfl, by decide +kernel, by decide +kernel⟩
def spParted : Sp := fun vs H Q _ => ∃ m : Nat, vs = [vi (2 * m)] ∧ m ≤ 500 ∧ ∀ p H', Ext [] H H' → H' p = some (.tup ((parted m).map vi)) → Q (.ref p) H'
theorem ok_parted {f : Addr} {fd : FuncData} (F : Fun K "parted_wires" "parted_wires" s_parted_wires f fd) (B : Bts mg) : FnOk P w K mg base CX0 1 f fd ["many"] spParted := by
  refine F.ok sc_parted_wires (fun vs H Q E h => ?_) (fun cdv A outer s H vs Q E hr h => ?_)
  · obtain ⟨g, rfl, _⟩ := h
    rfl
  · obtain ⟨m, rfl, hm, k⟩ := h
    refine ⟨_, (pss_one (ps_ret (tupL (by rfl) B.tuple (pe_lc (own := [("place", 1)]) (g := (gName 1)) (tt := tYes) rfl sc_parted_wires.nd (pi_range1 (by rfl) B.range (pa_cons (pv 0) pa_nil)) (blkOk_by (N := ["many", "place"]) (sc := defScope s_parted_wires) (by decide +kernel)) (fun _ _ _ _ _ => (pg_name (i := 1) sc_parted_wires.nd rfl (by first | exact Or.inl rfl | exact Or.inr rfl))) (fun _ _ _ _ _ => pts_nil) (fun _ _ _ _ _ => (pe_op op_add (pe_op op_fdiv (pv 1) pe_int) (pe_op op_mul (pe_op op_mod (pv 1) pe_int) (pe_op op_fdiv (pv 0) pe_int)))))))), ?_⟩
    walk_at "e"
    intro D hD
    refine lc_val (n := 2 * m) hD (src_rng (lo := 0)) (fun _ => true) (fun i => vi (i / 2 + i % 2 * m)) (by omega) (fun i v Ha Hb Kt Kf hi x ⟨ev, eh⟩ kt kf => ?_) fun H' x1 x2 e => ?_
    · subst ev eh
      refine ⟨rfl, ?_⟩
      walk_at "e"
      have e1 : V.int ((0 + (i : Int)) / 2 + (0 + (i : Int)) % 2 * (((2 * m : Nat) : Int) / 2)) = vi (i / 2 + i % 2 * m) := by
        have : ((2 * m : Nat) : Int) / 2 = m := by omega
        rw [this]
        refine congrArg V.int ?_
        push_cast
        rw [Int.zero_add]
      show Kt (V.int ((0 + (i : Int)) / 2 + (0 + (i : Int)) % 2 * (((2 * m : Nat) : Int) / 2))) Hb
      rw [e1]
      exact kt Hb rfl Ext.refl
    · walk_at "e"
      intro q hq
      refine k q _ (x2.trans (Ext.add hq)) ?_
      rw [upd_same, filter_true]
      unfold parted
      rw [List.map_map]
      rfl
end
end CL
set_option Elab.async false
set_option linter.all false
set_option maxRecDepth 100000
set_option maxHeartbeats 4000000
namespace CL
open PySem PySem.Spec PyProof.Rows L2 RX

local macro_rules | `(tactic| walk_at "e") => `(tactic| (repeat (first
  | refine ⟨_, rfl, ?_⟩
  | refine ⟨_, _, rfl, rfl, ?_⟩
  | refine ⟨_, _, rfl, rfl, (by first | decide | omega | (dsimp only; omega)), ?_⟩
  | refine ⟨_, _, rfl, rfl, cmul1 (by omega), ?_⟩
  | refine ⟨_, _, rfl, rfl, cmul2 (by omega), ?_⟩
  | refine ⟨_, _, rfl, rfl, ⟨by omega, by omega⟩, ?_⟩
  | refine ⟨_, _, rfl, ‹_›, ?_⟩
  | refine ⟨_, _, _, _, rfl, rfl, ‹_›, at_vi (by assumption) rfl, ?_⟩
  | refine ⟨_, _, rfl, SqT.of ‹_›, rfl, ?_⟩
  | refine ⟨_, _, rfl, SqT.of ‹_›, ?_⟩
  | refine ⟨_, _, rfl, SqL.of ‹_›, ?_⟩
  | refine And.intro rfl ?_
  | refine ⟨_, _, rfl, ?_⟩
  | refine And.intro (by first | decide | omega | (dsimp only; omega)) ?_
  | refine And.intro (cmul1 (by omega)) ?_
  | refine And.intro (cmul2 (by omega)) ?_
  | refine And.intro ⟨by omega, by omega⟩ ?_
  | refine And.intro ⟨_, SqT.of ‹_›⟩ ?_
  | refine And.intro ⟨_, SqL.of ‹_›⟩ ?_
  | refine And.intro (Or.inl ⟨rfl, _, SqL.of ‹_›⟩) ?_
  | refine And.intro sz0 ?_
  | refine And.intro sz1 ?_
  | refine And.intro sz2 ?_
  | refine And.intro sz3 ?_
  | refine yesT ?_)))
section
variable {P : Program} {w : World} {K : PySem.W.Frag} {mg : Str → Option Value} {base : Heap}
/-! is_full -/
abbrev s_is_full : Stmt := top 9
theorem sc_is_full : FnScope ["pairs"] ["pairs"] (defScope s_is_full) := ⟨rfl, rfl, rfl, by decide +kernel, rfl, by decide +kernel, by decide +kernel⟩
def spFull : Sp := fun vs H Q _ => ∃ (a : Addr) (l : List Nat), vs = [.ref a] ∧ H a = some (.tup (l.map vi)) ∧ Q (.bl true) H
theorem flat_vi (l : List Nat) : (l.map vi).all flatV = true := by
  rw [List.all_eq_true]
  intro x hx
  obtain ⟨n, _, rfl⟩ := List.mem_map.mp hx
  rfl
theorem non_vi (l : List Nat) : inV .non (l.map vi) = false := by
  unfold inV
  rw [List.any_eq_false]
  intro x hx
  obtain ⟨n, _, rfl⟩ := List.mem_map.mp hx
  simp [vi, eqV]
theorem ok_full {f : Addr} {fd : FuncData} (F : Fun K "is_full" "is_full" s_is_full f fd) : FnOk P w K mg base CX0 1 f fd ["pairs"] spFull := by
  refine F.ok sc_is_full (fun vs H Q E h => ?_) (fun cdv A outer s H vs Q E hr h => ?_)
  · obtain ⟨a, l, rfl, _⟩ := h
    rfl
  · obtain ⟨a, l, rfl, e, k⟩ := h
    refine ⟨_, (pss_one (ps_ret (pe_cmpR notInS pe_non (pv 0) (by rfl)))), ?_⟩
    walk_at "e"
    refine ⟨a, _, rfl, .inr e, rfl, flat_vi l, ?_⟩
    show Q (.bl (!inV .non (l.map vi))) H
    rw [non_vi]
    exact k
/-! in_halves -/
abbrev s_in_halves : Stmt := top 18
theorem sc_in_halves : FnScope ["one", "other", "place"] ["one", "other"] (defScope s_in_halves) := ⟨rfl, rfl, rfl, by decide +kernel, rfl, by decide +kernel, by decide +kernel⟩
def spHalves2 : Sp := fun vs H Q _ => ∃ (a : Addr) (l : List Nat), vs = [.ref a, .ref a] ∧ H a = some (.tup (l.map vi)) ∧ 0 < l.length ∧ l.length ≤ 1000 ∧ ∀ p H', Ext [] H H' → H' p = some (.tup ((inH l).map vi)) → Q (.ref p) H'
theorem ok_inhalves {f : Addr} {fd : FuncData} (F : Fun K "in_halves" "in_halves" s_in_halves f fd) (B : Bts mg) : FnOk P w K mg base CX0 1 f fd ["one", "other"] spHalves2 := by
  refine F.ok sc_in_halves (fun vs H Q E h => ?_) (fun cdv A outer s H vs Q E hr h => ?_)
  · obtain ⟨a, l, rfl, _⟩ := h
    rfl
  · obtain ⟨a, l, rfl, e, hpos, hl, k⟩ := h
    refine ⟨_, (pss_one (ps_ret (pe_op op_catT (tupT (by rfl) B.tuple (pv 0)) (tupL (by rfl) B.tuple (pe_lc (own := [("place", 2)]) (g := (gName 2)) (tt := tYes) rfl sc_in_halves.nd (piT_K K rfl (pv 1)) (blkOk_by (N := ["one", "other", "place"]) (sc := defScope s_in_halves) (by decide +kernel)) (fun _ _ _ _ _ => (pg_name (i := 2) sc_in_halves.nd rfl (by first | exact Or.inl rfl | exact Or.inr rfl))) (fun _ _ _ _ _ => pts_nil) (fun _ _ _ _ _ => (pe_op op_add (pe_callB lenT (by rfl) B.len PySem.boot_len (pa_cons (pv 0) pa_nil)) (pv 2)))))))), ?_⟩
    walk_at "e"
    intro D hD
    refine lc_all hD (src_tupN e (by simp)) (fun i => vi (l.length + gt l i)) (by omega) (fun i v Ha Hb Kt hi x ⟨ev, eh⟩ kt => ?_) (fun v σ H Q Q' i h => i _ _ h) fun H' x1 x2 e' => ?_
    · subst ev eh
      have e1 := x.tup e
      walk_at "e"
      have e2 : V.int (((l.map vi).length : Nat) + (gt l i : Int)) = vi (l.length + gt l i) := by rw [List.length_map]; exact congrArg V.int (by push_cast; rfl)
      show Kt (V.int (((l.map vi).length : Nat) + (gt l i : Int))) Hb
      rw [e2]
      exact kt Hb Ext.refl
    · walk_at "e"
      intro q hq
      have el : (List.map (fun i => vi (l.length + gt l i)) (List.range l.length)) = (l.map fun x => l.length + x).map vi := by
        rw [tab_vi, List.length_map]
        exact tab_congr fun i hi => by rw [gt_map hi]
      rw [el]
      have x3 : Ext [] H (upd H' q (.tup ((l.map fun x => l.length + x).map vi))) := x2.trans (Ext.add hq)
      refine ⟨a, q, l.map vi, (l.map fun x => l.length + x).map vi, rfl, rfl, .of (x3.tup e), .of upd_same, fun z => ?_, sl_of (by simp; omega), fun z => ?_, fun z p hp => ?_⟩
      · have := congrArg List.length z; simp at this; subst this; simp at hpos
      · have := congrArg List.length z; simp at this; subst this; simp at hpos
      · refine k p _ (x3.trans (Ext.add hp)) ?_
        rw [upd_same]
        unfold inH
        rw [List.map_append]
/-! logarithm -/
abbrev s_logarithm : Stmt := top 12
theorem sc_logarithm : FnScope ["many", "power", "found"] ["many"] (defScope s_logarithm) := ⟨rfl, rfl, rfl, by decide +kernel, rfl, by decide +kernel, by decide +kernel⟩
def spLog : Sp := fun vs H Q _ => ∃ j : Nat, vs = [vi (2 ^ j)] ∧ j ≤ 20 ∧ ∀ H', Ext [] H H' → Q (vi j) H'
theorem ok_log {f : Addr} {fd : FuncData} (F : Fun K "logarithm" "logarithm" s_logarithm f fd) : FnOk P w K mg base CX0 1 f fd ["many"] spLog := by
  refine F.ok sc_logarithm (fun vs H Q E h => ?_) (fun cdv A outer s H vs Q E hr h => ?_)
  · obtain ⟨a, rfl, _⟩ := h
    rfl
  · obtain ⟨j, rfl, hj, k⟩ := h
    refine ⟨_, (pss_cons (ps_asg (pe_tup (pa_cons pe_int (pa_cons pe_int pa_nil))) (pg_tupK (n := 2) K rfl rfl (pgs_cons (pg_name (i := 1) sc_logarithm.nd rfl (by first | exact Or.inl rfl | exact Or.inr rfl)) (pgs_cons (pg_name (i := 2) sc_logarithm.nd rfl (by first | exact Or.inl rfl | exact Or.inr rfl)) pgs_nil))))
      (pss_cons (ps_while PassesOwn.never (pt_cmpR op_lt (pv 1) (pv 0) (nomark _)) (pss_cons (ps_aug (i := 1) sc_logarithm.nd rfl (Or.inl rfl) pe_int iop_mul)
      (pss_one (ps_aug (i := 2) sc_logarithm.nd rfl (Or.inl rfl) pe_int ip_add))))
      (pss_cons (ps_if (pt_cmpR op_ne (pv 1) (pv 0) (nomark _)) (pss_one ps_never) pss_nil)
      (pss_one (ps_ret (pv 2)))))), ?_⟩
    walk_at "e"
    intro p hp
    generalize hH1 : upd H p _ = H1
    have x1 : Ext [] H H1 := by rw [← hH1]; exact Ext.add hp
    have e1 := (congrFun hH1.symm p).trans upd_same
    walk_at "e"
    refine ⟨fun m σ H' => ∃ i, i + m = j ∧ σ = [some (vi (2 ^ j)), some (vi (2 ^ i)), some (vi i)] ∧ Ext [] H H', ⟨j, 0, by omega, rfl, x1⟩, ?_⟩
    rintro m σ H' ⟨i, hi, rfl, x⟩
    walk_at "e"
    have hlt : ∀ a b : Nat, (2 ^ a : Nat) < 2 ^ b ↔ a < b := fun a b => Nat.pow_lt_pow_iff_right (by omega)
    refine ifB (fun hb => ⟨fun σ' H' => ∃ m', m' < m ∧ ∃ i, i + m' = j ∧ σ' = [some (vi (2 ^ j)), some (vi (2 ^ i)), some (vi i)] ∧ Ext [] H H', fun _ _ h => h, ?_⟩) (fun hb => ?_)
    · have hb := of_decide_eq_true hb
      have hb' : (2 ^ i : Nat) < 2 ^ j := by omega
      have hij := (hlt i j).mp hb'
      walk_at "e"
      refine ⟨m - 1, by omega, i + 1, by omega, ?_, x⟩
      have e2 : ((2 ^ i : Nat) : Int) * 2 = ((2 ^ (i + 1) : Nat) : Int) := by rw [Nat.pow_succ]; push_cast; rfl
      show [some (vi (2 ^ j)), some (V.int (((2 ^ i : Nat) : Int) * 2)), some (V.int ((i : Int) + 1))] = _
      rw [e2]
      rfl
    · have hb := of_decide_eq_false hb
      have hb' : ¬ (2 ^ i : Nat) < 2 ^ j := by omega
      have hij : i = j := by
        have := mt (hlt i j).mpr hb'
        omega
      subst hij
      walk_at "e"
      refine ifF (by simp) ?_
      walk_at "e"
      exact k _ x
end
end CL
set_option Elab.async false
set_option linter.all false
set_option maxRecDepth 100000
set_option maxHeartbeats 4000000
namespace CL
open PySem PySem.Spec PyProof.Rows L2 RX

local macro_rules | `(tactic| walk_at "e") => `(tactic| (repeat (first
  | refine ⟨_, rfl, ?_⟩
  | refine ⟨_, _, rfl, rfl, ?_⟩
  | refine ⟨_, _, rfl, rfl, (by first | decide | omega | (dsimp only; omega)), ?_⟩
  | refine ⟨_, _, rfl, rfl, cmul1 (by omega), ?_⟩
  | refine ⟨_, _, rfl, rfl, cmul2 (by omega), ?_⟩
  | refine ⟨_, _, rfl, rfl, ⟨by omega, by omega⟩, ?_⟩
  | refine ⟨_, _, rfl, ‹_›, ?_⟩
  | refine ⟨_, _, _, _, rfl, rfl, ‹_›, at_vi (by assumption) rfl, ?_⟩
  | refine ⟨_, _, rfl, SqT.of ‹_›, rfl, ?_⟩
  | refine ⟨_, _, rfl, SqT.of ‹_›, ?_⟩
  | refine ⟨_, _, rfl, SqL.of ‹_›, ?_⟩
  | refine And.intro rfl ?_
  | refine ⟨_, _, rfl, ?_⟩
  | refine And.intro (by first | decide | omega | (dsimp only; omega)) ?_
  | refine And.intro (cmul1 (by omega)) ?_
  | refine And.intro (cmul2 (by omega)) ?_
  | refine And.intro ⟨by omega, by omega⟩ ?_
  | refine And.intro ⟨_, SqT.of ‹_›⟩ ?_
  | refine And.intro ⟨_, SqL.of ‹_›⟩ ?_
  | refine And.intro (Or.inl ⟨rfl, _, SqL.of ‹_›⟩) ?_
  | refine And.intro sz0 ?_
  | refine And.intro sz1 ?_
  | refine And.intro sz2 ?_
  | refine And.intro sz3 ?_
  | refine yesT ?_)))
section
variable {P : Program} {w : World} {K : PySem.W.Frag} {mg : Str → Option Value} {base : Heap}
/-! turned_over -/
abbrev s_turned_over : Stmt := top 11
theorem sc_turned_over : FnScope ["pairs", "found", "one", "gate"] ["pairs"] (defScope s_turned_over) := ⟨rfl, rfl, rfl, by decide +kernel, rfl, by decide +kernel, by decide +kernel⟩
def spTurn : Sp := fun vs H Q _ => ∃ (a n : Nat) (l : List Nat), vs = [.ref a] ∧ H a = some (.tup (l.map vi)) ∧ PermL n l ∧ n ≤ 1000 ∧ ∀ r p H', InvL n l r → Ext [] H H' → H' p = some (.tup (r.map vi)) → Q (.ref p) H'
theorem rep_tab (n : Nat) (v : V) : (List.replicate n [v]).flatten = tab n fun _ => v := by
  refine List.ext_getElem? fun j => ?_
  have hl : (List.replicate n [v]).flatten = List.replicate n v := by
    induction n with
    | zero => rfl
    | succ n ih => rw [List.replicate_succ, List.flatten_cons, ih]; rfl
  rw [hl]
  by_cases hj : j < n
  · rw [tab_get hj, List.getElem?_replicate, if_pos hj]
  · rw [List.getElem?_eq_none (by simp; omega), List.getElem?_eq_none (by rw [tab_len]; omega)]
theorem ok_turn {f : Addr} {fd : FuncData} (F : Fun K "turned_over" "turned_over" s_turned_over f fd) (B : Bts mg) : FnOk P w K mg base CX0 1 f fd ["pairs"] spTurn := by
  refine F.ok sc_turned_over (fun vs H Q E h => ?_) (fun cdv A outer s H vs Q E hr h => ?_)
  · obtain ⟨a, n, l, rfl, _⟩ := h
    rfl
  · obtain ⟨a, n, l, rfl, e, hp, hn, k⟩ := h
    refine ⟨_, (pss_cons (ps_set (i := 1) sc_turned_over.nd rfl (Or.inl rfl) (pe_op op_rep (pe_lst (pa_cons pe_non pa_nil)) (pe_callB lenT (by rfl) B.len PySem.boot_len (pa_cons (pv 0) pa_nil))))
      (pss_cons (ps_for PassesOwn.never rfl (pi_enumT (by rfl) B.enumerate (pa_cons (pv 0) pa_nil)) (pg_tupK (n := 2) K rfl rfl (pgs_cons (pg_name (i := 2) sc_turned_over.nd rfl (by first | exact Or.inl rfl | exact Or.inr rfl)) (pgs_cons (pg_name (i := 3) sc_turned_over.nd rfl (by first | exact Or.inl rfl | exact Or.inr rfl)) pgs_nil))) (pss_one (ps_if (pt_cmpR op_notN (pv 3) pe_non (nomark _)) (pss_one (ps_asg (pv 2) (pg_sub (pv 1) (pv 3) set_list))) pss_nil)))
      (pss_one (ps_ret (tupL (by rfl) B.tuple (pv 1)))))), ?_⟩
    walk_at "e"
    intro q hq
    generalize hH1 : upd H q _ = H1
    have x1 : Ext [] H H1 := by rw [← hH1]; exact Ext.add hq
    have e1 := (congrFun hH1.symm q).trans upd_same
    have ea1 := x1.tup e
    walk_at "e"
    have el : (((l.map vi).length : Nat) : Int).toNat = n := by simp [hp.len]
    refine ⟨q, _, _, rfl, rfl, e1, by omega, by simp [hp.len]; omega, by rw [el]; simp; exact sl_of (by omega), fun fr hfr => ?_⟩
    rw [el, rep_tab]
    have nfr : H fr = none := x1.dom _ hfr
    generalize hH2 : upd H1 fr _ = H2
    have x2 : Ext [] H H2 := by rw [← hH2]; exact x1.trans (Ext.add hfr)
    have e2 := (congrFun hH2.symm fr).trans upd_same
    have ea2 := x2.tup e
    walk_at "e"
    refine for_any (src_enumTN e (by simp)) (fun i σ H' => Ext [] H H' ∧ ∃ o2 o3 F, σ = [some (.ref a), some (.ref fr), o2, o3] ∧ H' fr = some (.lst (tab n F)) ∧ ∀ j, j < i → F (gt l j) = vi j) ⟨x2, none, none, _, rfl, e2, fun j h => absurd h (Nat.not_lt_zero j)⟩ (fun i σ H' h => h.1) ?_ ?_
    · rintro i v σ H' H'' hi ⟨x, o2, o3, F, rfl, hF, hv⟩ ⟨T, rfl, hT, rfl⟩
      rw [hp.len] at hi
      generalize hH3 : upd H' T _ = H3
      have x3 : Ext [] H H3 := by rw [← hH3]; exact x.trans (Ext.add hT)
      have e3 := (congrFun hH3.symm T).trans upd_same
      have hF3 : H3 fr = some (.lst (tab n F)) := by rw [← hH3]; exact (Ext.add (W := []) hT).lst hF
      walk_at "e"
      have hg := hp.lt i hi
      refine ⟨fr, _, _, gt l i, rfl, rfl, hF3, ixN_of (by rw [tab_len]; exact hg) rfl, ?_⟩
      refine ⟨x3.wr (.inl nfr) hF3 nt_lst, _, _, _, rfl, by rw [upd_same, tab_set], fun j hj => ?_⟩
      by_cases ej : gt l j = gt l i
      · rw [ej, fset_same, hp.inj j i (by omega) hi ej]
      · rw [fset_ne ej]
        exact hv j (by
          have : j ≠ i := fun z => ej (by rw [z])
          omega)
    · rintro σ H' ⟨x, o2, o3, F, rfl, hF, hv⟩
      rw [hp.len] at hv
      walk_at "e"
      intro p hpn
      have hint : ∀ y, y < n → ∃ j, j < n ∧ F y = vi j ∧ gt l j = y := fun y hy => by
        obtain ⟨j, hj, e⟩ := hp.sur y hy
        exact ⟨j, hj, by rw [← e]; exact hv j hj, e⟩
      let r : List Nat := (List.range n).map fun y => match F y with | .int z => z.toNat | _ => 0
      have hr : ∀ y j, y < n → F y = vi j → gt r y = j := fun y j hy e => by
        show gt ((List.range n).map fun y => match F y with | .int z => z.toNat | _ => 0) y = j
        rw [gt_tab hy, e]
        rfl
      refine k r p _ ⟨by simp [r], fun i hi => hr _ _ (hp.lt i hi) (hv i hi)⟩ (x.trans (Ext.add hpn)) ?_
      rw [upd_same]
      have : r.map vi = tab n F := by
        rw [tab_vi]
        have hl : r.length = n := by simp [r]
        rw [hl]
        refine tab_congr fun y hy => ?_
        obtain ⟨j, _, e, _⟩ := hint y hy
        rw [hr y j hy e, e]
      rw [this]
end
end CL
set_option Elab.async false
set_option linter.all false
set_option maxRecDepth 100000
set_option maxHeartbeats 4000000
namespace CL
open PySem PySem.Spec PyProof.Rows L2 RX

local macro_rules | `(tactic| walk_at "e") => `(tactic| (repeat (first
  | refine ⟨_, rfl, ?_⟩
  | refine ⟨_, _, rfl, rfl, ?_⟩
  | refine ⟨_, _, rfl, rfl, (by first | decide | omega | (dsimp only; omega)), ?_⟩
  | refine ⟨_, _, rfl, rfl, cmul1 (by omega), ?_⟩
  | refine ⟨_, _, rfl, rfl, cmul2 (by omega), ?_⟩
  | refine ⟨_, _, rfl, rfl, ⟨by omega, by omega⟩, ?_⟩
  | refine ⟨_, _, rfl, ‹_›, ?_⟩
  | refine ⟨_, _, _, _, rfl, rfl, ‹_›, at_vi (by assumption) rfl, ?_⟩
  | refine ⟨_, _, rfl, SqT.of ‹_›, rfl, ?_⟩
  | refine ⟨_, _, rfl, SqT.of ‹_›, ?_⟩
  | refine ⟨_, _, rfl, SqL.of ‹_›, ?_⟩
  | refine And.intro rfl ?_
  | refine ⟨_, _, rfl, ?_⟩
  | refine And.intro (by first | decide | omega | (dsimp only; omega)) ?_
  | refine And.intro (cmul1 (by omega)) ?_
  | refine And.intro (cmul2 (by omega)) ?_
  | refine And.intro ⟨by omega, by omega⟩ ?_
  | refine And.intro ⟨_, SqT.of ‹_›⟩ ?_
  | refine And.intro ⟨_, SqL.of ‹_›⟩ ?_
  | refine And.intro (Or.inl ⟨rfl, _, SqL.of ‹_›⟩) ?_
  | refine And.intro sz0 ?_
  | refine And.intro sz1 ?_
  | refine And.intro sz2 ?_
  | refine And.intro sz3 ?_
  | refine yesT ?_)))
section
variable {P : Program} {w : World} {K : PySem.W.Frag} {mg : Str → Option Value} {base : Heap}
/-! filled -/
abbrev s_filled : Stmt := top 10
theorem sc_filled : FnScope ["pairs", "free", "gate"] ["pairs"] (defScope s_filled) := ⟨rfl, rfl, rfl, by decide +kernel, rfl, by decide +kernel, by decide +kernel⟩
def spFilled : Sp := fun vs H Q _ => ∃ (a n : Nat) (l : List (Option Nat)), vs = [.ref a] ∧ H a = some (.tup (l.map vo)) ∧ PP n l ∧ n ≤ 1000 ∧ ∀ f p H', Fills n l f → Ext [] H H' → H' p = some (.tup (f.map vi)) → Q (.ref p) H'
theorem flat_vo (l : List (Option Nat)) : (l.map vo).all flatV = true := by
  rw [List.all_eq_true]
  intro x hx
  obtain ⟨n, _, rfl⟩ := List.mem_map.mp hx
  cases n <;> rfl
theorem in_vo (l : List (Option Nat)) (i : Nat) : inV (vi i) (l.map vo) = decide (some i ∈ l) := by
  unfold inV
  induction l with
  | nil => rfl
  | cons x l ih =>
    rw [List.map_cons, List.any_cons, ih]
    cases x with
    | none => simp [vo, vi, eqV]
    | some y =>
      have : eqV (vo (some y)) (vi i) = decide (y = i) := by
        show decide ((y : Int) = (i : Int)) = decide (y = i)
        by_cases h : y = i
        · subst h; simp
        · rw [decide_eq_false h, decide_eq_false (by omega)]
      rw [this]
      by_cases h : y = i
      · subst h; simp
      · simp [h, show ¬ i = y from fun z => h z.symm]
theorem ok_filled {f : Addr} {fd : FuncData} (F : Fun K "filled" "filled" s_filled f fd) (B : Bts mg) : FnOk P w K mg base CX0 1 f fd ["pairs"] spFilled := by
  refine F.ok sc_filled (fun vs H Q E h => ?_) (fun cdv A outer s H vs Q E hr h => ?_)
  · obtain ⟨a, n, l, rfl, _⟩ := h
    rfl
  · obtain ⟨a, n, l, rfl, e, hp, hn, k⟩ := h
    refine ⟨_, (pss_cons (ps_set (i := 1) sc_filled.nd rfl (Or.inr rfl) (pe_lc (own := [("gate", 2)]) (g := (gName 2)) rfl sc_filled.nd (pi_range1 (by rfl) B.range (pa_cons (pe_callB lenT (by rfl) B.len PySem.boot_len (pa_cons (pv 0) pa_nil)) pa_nil)) (blkOk_by (N := ["pairs", "free", "gate"]) (sc := defScope s_filled) (by decide +kernel)) (fun _ _ _ _ _ => (pg_name (i := 2) sc_filled.nd rfl (by first | exact Or.inl rfl | exact Or.inr rfl))) (fun _ _ _ _ _ => (pts_one (pt_cmpR notInS (pv 2) (pv 0) (by rfl)))) (fun _ _ _ _ _ => (pv 2))))
      (pss_one (ps_ret (tupL (by rfl) B.tuple (pe_lc (own := [("gate", 2)]) (g := (gName 2)) (tt := tYes) rfl sc_filled.nd (piT_K K rfl (pv 0)) (blkOk_by (N := ["pairs", "free", "gate"]) (sc := defScope s_filled) (by decide +kernel)) (fun _ _ _ _ _ => (pg_name (i := 2) sc_filled.nd rfl (by first | exact Or.inl rfl | exact Or.inr rfl))) (fun _ _ _ _ _ => pts_nil) (fun _ _ _ _ _ => (pe_ifExp (pt_cmpR op_isN (pv 2) pe_non (nomark _)) (bmK K rfl PySem.F.plainAttrs_list PySem.F.slot_list_pop PySem.F.type_list_pop mt_popAt (pv 1) (pa_cons pe_int pa_nil)) (pv 2)))))))), ?_⟩
    have hz : (((l.map vo).length : Nat) : Int) = (n : Int) := by rw [List.length_map, hp.len]
    walk_at "e"
    intro fr hfr
    have hz2 : (((l.map vo).length : Nat) : Int).toNat = n := by rw [hz]; simp
    rw [hz2]
    refine lc_val (n := n) hfr src_rngN (fun i => !decide (some i ∈ l)) vi (by omega) (fun i v Ha Hb Kt Kf hi x ⟨ev, eh⟩ kt kf => ?_) fun H' x1 x2 e' => ?_
    · subst ev eh
      have e1 := x.tup e
      walk_at "e"
      refine ⟨a, _, rfl, .inr e1, rfl, flat_vo l, ?_⟩
      rw [in_vo]
      refine ⟨_, rfl, ?_⟩
      refine ifB (fun hb => ?_) (fun hb => ?_)
      · walk_at "e"
        exact kt _ hb Ext.refl
      · exact kf _ hb Ext.refl
    · have e1 := x2.tup e
      have eF : ((List.range n).filter fun i => !decide (some i ∈ l)).map vi = (freeL n l).map vi := rfl
      rw [eF] at e'
      walk_at "e"
      intro D hD
      have nD : H D = none := x2.dom _ hD
      have nDf : D ≠ fr := fun z => by rw [z, e'] at hD; cases hD
      refine lc_tup (xs := l.map vo) (fun i H2 => ∃ out rest : List Nat, Ext [] H H2 ∧ H2 D = some (.lst (out.map vi)) ∧ H2 fr = some (.lst (rest.map vi)) ∧ out.length = i ∧ noneC (l.drop i) = rest.length ∧ fillW l (freeL n l) = out ++ fillW (l.drop i) rest) ?_ ?_ ?_ ?_
      · exact ⟨[], freeL n l, x2.trans (Ext.add hD), upd_same, by rw [upd_ne nDf.symm]; exact e', rfl, by rw [List.drop_zero]; exact free_len hp, by rw [List.drop_zero]; rfl⟩
      · rintro i H2 hi ⟨out, rest, x3, _⟩
        exact .of (x3.tup e)
      · rintro i x H2 hx ⟨out, rest, x3, hD2, hf2, hlen, hcnt, hfill⟩
        have hi : i < l.length := by
          have := (List.getElem?_eq_some_iff.mp hx).1
          simpa using this
        have ex : x = vo (go l i) := by
          rw [List.getElem?_map, some_go hi] at hx
          exact (Option.some.inj hx).symm
        have ed : l.drop i = go l i :: l.drop (i + 1) := by
          rw [List.drop_eq_getElem_cons hi]
          have := some_go hi
          rw [List.getElem?_eq_getElem hi] at this
          rw [Option.some.inj this]
        subst ex
        have hn2 : i < n := by rw [← hp.len]; exact hi
        cases eg : go l i with
        | none =>
          rw [eg] at ed
          rw [ed] at hcnt hfill
          have ec : noneC (none :: l.drop (i + 1)) = noneC (l.drop (i + 1)) + 1 := by simp [noneC]
          match rest, hf2, hcnt, hfill with
          | [], _, hcnt, _ => rw [ec] at hcnt; simp at hcnt
          | r :: rest, hf2, hcnt, hfill =>
            walk_at "e"
            refine ⟨fr, _, 0, 0, vi r, rfl, rfl, hf2, by omega, by omega, (ixN_seq (ixN_of (i := 0) (by simp) rfl)).1, rfl, ?_⟩
            refine ⟨out.map vi, by rw [upd_ne nDf]; exact hD2, sl_lt (by simp; omega), out ++ [r], rest, ?_, ?_, ?_, by simp; omega, by rw [ec] at hcnt; simpa using hcnt, by rw [hfill]; simp [fillW]⟩
            · exact (x3.wr (.inl hfr) hf2 nt_lst).upd (.inl nD) fun ps => by rw [upd_ne nDf, hD2]; simp
            · rw [upd_same]; simp
            · rw [upd_ne nDf.symm, upd_same]; rfl
        | some y =>
          rw [eg] at ed
          rw [ed] at hcnt hfill
          walk_at "e"
          have ec : noneC (some y :: l.drop (i + 1)) = noneC (l.drop (i + 1)) := by simp [noneC]
          refine ⟨out.map vi, hD2, sl_lt (by simp; omega), out ++ [y], rest, x3.wr (.inl nD) hD2 nt_lst, ?_, ?_, by simp; omega, by rw [← ec]; exact hcnt, by rw [hfill]; simp [fillW]⟩
          · rw [upd_same]; simp [vo, vi]
          · rw [upd_ne nDf.symm]; exact hf2
      · rintro H2 ⟨out, rest, x3, hD2, hf2, hlen, hcnt, hfill⟩
        walk_at "e"
        intro q hq
        have hl0 : l.drop (l.map vo).length = [] := by rw [List.length_map]; exact List.drop_length
        rw [hl0] at hfill
        have ho : fillW l (freeL n l) = out := by rw [hfill]; exact List.append_nil _
        rw [← ho]
        exact k _ q _ (fills hp) (x3.trans (Ext.add hq)) upd_same
end
end CL
set_option Elab.async false
set_option linter.all false
set_option maxRecDepth 100000
set_option maxHeartbeats 4000000
namespace CL
open PySem PySem.Spec PyProof.Rows L2 RX

local macro_rules | `(tactic| walk_at "e") => `(tactic| (repeat (first
  | refine ⟨_, rfl, ?_⟩
  | refine ⟨_, _, rfl, rfl, ?_⟩
  | refine ⟨_, _, rfl, rfl, (by first | decide | omega | (dsimp only; omega)), ?_⟩
  | refine ⟨_, _, rfl, rfl, cmul1 (by omega), ?_⟩
  | refine ⟨_, _, rfl, rfl, cmul2 (by omega), ?_⟩
  | refine ⟨_, _, rfl, rfl, ⟨by omega, by omega⟩, ?_⟩
  | refine ⟨_, _, rfl, ‹_›, ?_⟩
  | refine ⟨_, _, _, _, rfl, rfl, ‹_›, at_vi (by assumption) rfl, ?_⟩
  | refine ⟨_, _, rfl, SqT.of ‹_›, rfl, ?_⟩
  | refine ⟨_, _, rfl, SqT.of ‹_›, ?_⟩
  | refine ⟨_, _, rfl, SqL.of ‹_›, ?_⟩
  | refine And.intro rfl ?_
  | refine ⟨_, _, rfl, ?_⟩
  | refine And.intro (by first | decide | omega | (dsimp only; omega)) ?_
  | refine And.intro (cmul1 (by omega)) ?_
  | refine And.intro (cmul2 (by omega)) ?_
  | refine And.intro ⟨by omega, by omega⟩ ?_
  | refine And.intro ⟨_, SqT.of ‹_›⟩ ?_
  | refine And.intro ⟨_, SqL.of ‹_›⟩ ?_
  | refine And.intro (Or.inl ⟨rfl, _, SqL.of ‹_›⟩) ?_
  | refine And.intro sz0 ?_
  | refine And.intro sz1 ?_
  | refine And.intro sz2 ?_
  | refine And.intro sz3 ?_
  | refine yesT ?_)))
section
variable {P : Program} {w : World} {K : PySem.W.Frag} {mg : Str → Option Value} {base : Heap}
/-! halves_of -/
abbrev s_halves_of : Stmt := top 20
theorem sc_halves_of : FnScope ["pairs", "back", "half", "start", "here", "mate"] ["pairs"] (defScope s_halves_of) := ⟨rfl, rfl, rfl, by decide +kernel, rfl, by decide +kernel, by decide +kernel⟩
def spHalf : Sp := fun vs H Q _ => ∃ (a n : Nat) (l : List Nat), vs = [.ref a] ∧ H a = some (.tup (l.map vi)) ∧ PermL n l ∧ n % 2 = 0 ∧ n ≤ 1000 ∧ ∀ hf p H', IsHalf n l hf → Ext [] H H' → H' p = some (.tup (hf.map vi)) → Q (.ref p) H'
theorem tab_vo_fset {n i v : Nat} {f : Nat → Option Nat} : (tab n fun x => vo (f x)).set i (vo (some v)) = tab n fun x => vo (fset f i (some v) x) := by
  rw [tab_set]
  refine tab_congr fun j hj => ?_
  by_cases e : j = i
  · subst e; rw [fset_same, fset_same]
  · rw [fset_ne e, fset_ne e]
theorem opp_none (n : Nat) (s : Nat → Nat) : Opp n s fun _ => none := fun _ _ _ h => nomatch h
theorem ok_half {f : Addr} {fd : FuncData} (F : Fun K "halves_of" "halves_of" s_halves_of f fd) (B : Bts mg) (G_turned_over : FnF P w K mg base "turned_over" 1 ["pairs"] spTurn) (G_partner : FnF P w K mg base "partner" 1 ["gate"] spPartner) :
    FnOk P w K mg base CX0 2 f fd ["pairs"] spHalf := by
  refine F.ok sc_halves_of (fun vs H Q E h => ?_) (fun cdv A outer s H vs Q E hr h => ?_)
  · obtain ⟨a, n, l, rfl, _⟩ := h
    rfl
  · obtain ⟨a, n, l, rfl, e, hp, h2, hn, k⟩ := h
    refine ⟨_, (pss_cons (ps_set (i := 1) sc_halves_of.nd rfl (Or.inl rfl) (pf_call G_turned_over (hr.mono (by omega)) (by rfl) (pa_cons (pv 0) pa_nil)))
      (pss_cons (ps_set (i := 2) sc_halves_of.nd rfl (Or.inl rfl) (pe_op op_rep (pe_lst (pa_cons pe_non pa_nil)) (pe_callB lenT (by rfl) B.len PySem.boot_len (pa_cons (pv 0) pa_nil))))
      (pss_cons (ps_for PassesOwn.never rfl (pi_range1 (by rfl) B.range (pa_cons (pe_callB lenT (by rfl) B.len PySem.boot_len (pa_cons (pv 0) pa_nil)) pa_nil)) (pg_name (i := 3) sc_halves_of.nd rfl (by first | exact Or.inl rfl | exact Or.inr rfl)) (pss_cons (ps_set (i := 4) sc_halves_of.nd rfl (Or.inl rfl) (pv 3))
      (pss_one (ps_while PassesOwn.never (pt_cmpR op_isN (pe_ix ixL (pv 2) (pv 4) (fun _ _ => rfl)) pe_non (nomark _)) (pss_cons (ps_asg pe_int (pg_sub (pv 2) (pv 4) set_list))
      (pss_cons (ps_set (i := 5) sc_halves_of.nd rfl (Or.inl rfl) (pf_call G_partner (hr.mono (by omega)) (by rfl) (pa_cons (pv 4) pa_nil)))
      (pss_cons (ps_asg pe_int (pg_sub (pv 2) (pv 5) set_list))
      (pss_one (ps_set (i := 4) sc_halves_of.nd rfl (Or.inl rfl) (pe_ix ixT (pv 1) (pf_call G_partner (hr.mono (by omega)) (by rfl) (pa_cons (pe_ix ixT (pv 0) (pv 5) (fun _ _ => rfl)) pa_nil)) (fun _ _ => rfl)))))))))))
      (pss_one (ps_ret (tupL (by rfl) B.tuple (pv 2))))))), ?_⟩
    walk_at "e"
    refine ⟨a, n, l, rfl, e, hp, hn, fun r b H0 hinv x0 eb => ?_⟩
    have e0 := x0.tup e
    have fs := flip_back hp hinv h2
    walk_at "e"
    intro q hq
    generalize hH1 : upd H0 q _ = H1
    have x1 : Ext [] H H1 := by rw [← hH1]; exact x0.trans (Ext.add hq)
    have e1 := (congrFun hH1.symm q).trans upd_same
    have ea1 := x1.tup e
    have eb1 : H1 b = some (.tup (r.map vi)) := by rw [← hH1]; exact (Ext.add (W := []) hq).tup eb
    walk_at "e"
    have el : (((l.map vi).length : Nat) : Int).toNat = n := by simp [hp.len]
    refine ⟨q, _, _, rfl, rfl, e1, by omega, by simp [hp.len]; omega, by rw [el]; simp; exact sl_of (by omega), fun fr hfr => ?_⟩
    rw [el, rep_tab]
    have nfr : H fr = none := x1.dom _ hfr
    generalize hH2 : upd H1 fr _ = H2
    have x12 : Ext [] H1 H2 := by rw [← hH2]; exact Ext.add hfr
    have x2 := x1.trans x12
    have e2 := (congrFun hH2.symm fr).trans upd_same
    have ea2 := x2.tup e
    have eb2 := x12.tup eb1
    have hz : (((l.map vi).length : Nat) : Int) = (n : Int) := by rw [List.length_map, hp.len]
    walk_at "e"
    have en : (((l.map vi).length : Nat) : Int).toNat = n := el
    rw [en]
    refine for_any src_rngN (W := []) (Hs := H1) (fun i σ H' => Ext [] H1 H' ∧ ∃ f o3 o4 o5, σ = [some (.ref a), some (.ref b), some (.ref fr), o3, o4, o5] ∧ H' fr = some (.lst (tab n fun x => vo (f x))) ∧ Opp n pt f ∧ Opp n (fun x => gt r (pt (gt l x))) f ∧ ∀ x, x < i → f x ≠ none)
      ⟨x12, (fun _ => none : Nat → Option Nat), none, none, none, rfl, by exact e2, opp_none _ _, opp_none _ _, fun x h => absurd h (Nat.not_lt_zero x)⟩ (fun i σ H' h => h.1) ?_ ?_
    · rintro i v σ H' H'' hi ⟨x, f0, o3, o4, o5, rfl, hf, op1, op2, hall⟩ ⟨rfl, rfl⟩
      walk_at "e"
      refine ⟨fun m σ H' => ∃ f here o5, m = nones n f ∧ Ext [] H1 H' ∧ σ = [some (.ref a), some (.ref b), some (.ref fr), some (vi i), some (vi here), o5] ∧ H' fr = some (.lst (tab n fun x => vo (f x))) ∧ InH n (fun x => gt r (pt (gt l x))) i f here ∧ ∀ x, x < i → f x ≠ none,
        ⟨_, f0, i, o5, rfl, x, rfl, hf, InH.start op1 op2 hi, hall⟩, ?_⟩
      rintro m σ H' ⟨f, here, o5, rfl, x, rfl, hf, I, hall⟩
      have hv : atI (tab n fun x => vo (f x)) (here : Int) = some (vo (f here)) := tab_at I.lt rfl
      walk_at "e"
      refine ⟨fr, _, _, _, rfl, rfl, hf, hv, rfl, ?_⟩
      walk_at "e"
      refine ifB (fun hb => ?_) (fun hb => ?_)
      · have hb := of_decide_eq_true hb
        have hnone : f here = none := by
          cases q : f here with
          | none => rfl
          | some y => rw [q] at hb; cases hb
        have plt : pt here < n := pt_lt h2 I.lt
        have lpt := hp.lt _ plt
        have plt2 : pt (gt l (pt here)) < n := pt_lt h2 lpt
        refine ⟨fun σ' H' => ∃ m', m' < nones n f ∧ ∃ f here o5, m' = nones n f ∧ Ext [] H1 H' ∧ σ' = [some (.ref a), some (.ref b), some (.ref fr), some (vi i), some (vi here), o5] ∧ H' fr = some (.lst (tab n fun x => vo (f x))) ∧ InH n (fun x => gt r (pt (gt l x))) i f here ∧ ∀ x, x < i → f x ≠ none, fun _ _ h => h, ?_⟩
        walk_at "e"
        refine ⟨fr, _, _, here, rfl, rfl, hf, ixN_of (by rw [tab_len]; exact I.lt) rfl, ?_⟩
        rw [show V.int 0 = vo (some 0) from rfl, tab_vo_fset]
        have x3 := x.wr (o := .lst (tab n fun x => vo (fset f here (some 0) x))) (.inl hfr) hf nt_lst
        have f3 : upd H' fr (.lst (tab n fun x => vo (fset f here (some 0) x))) fr = _ := upd_same
        walk_at "e"
        refine ⟨fr, _, _, pt here, rfl, rfl, f3, ixN_of (by rw [tab_len]; exact plt) rfl, ?_⟩
        rw [show V.int 1 = vo (some 1) from rfl, tab_vo_fset, upd_upd]
        have x4 := x.wr (o := .lst (tab n fun x => vo (fset (fset f here (some 0)) (pt here) (some 1) x))) (.inl hfr) hf nt_lst
        have ea4 := (x1.trans x4).tup e
        have eb4 := x4.tup eb1
        walk_at "e"
        refine ⟨a, _, _, _, rfl, rfl, ea4, at_vi (i := pt here) (by rw [hp.len]; exact plt) rfl, ?_⟩
        walk_at "e"
        refine ⟨b, _, _, _, rfl, rfl, eb4, at_vi (i := pt (gt l (pt here))) (by rw [hinv.len]; exact plt2) rfl, ?_⟩
        refine ⟨_, I.less h2 hnone, _, gt r (pt (gt l (pt here))), _, rfl, x4, rfl, upd_same, I.step fs h2 hnone, fun y hy => ?_⟩
        have := hall y hy
        by_cases c1 : y = pt here
        · rw [c1, fset_same]; simp
        · rw [fset_ne c1]
          by_cases c2 : y = here
          · rw [c2, fset_same]; simp
          · rw [fset_ne c2]; exact this
      · have hb := of_decide_eq_false hb
        have hsome : f here ≠ none := fun q => by rw [q] at hb; exact hb rfl
        obtain ⟨g1, g2, g3⟩ := I.done fs hsome
        refine ⟨x, f, _, _, _, rfl, hf, g1, g2, fun y hy => ?_⟩
        by_cases c : y = i
        · rw [c]; exact g3
        · exact hall y (by omega)
    · rintro σ H' ⟨x, f, o3, o4, o5, rfl, hf, op1, op2, hall⟩
      walk_at "e"
      intro p hpn
      let hf' : List Nat := (List.range n).map fun y => (f y).getD 0
      have hv : ∀ y, y < n → f y = some (gt hf' y) := fun y hy => by
        show f y = some (gt ((List.range n).map fun y => (f y).getD 0) y)
        rw [gt_tab hy]
        cases q : f y with
        | none => exact absurd q (hall y hy)
        | some z => rfl
      refine k hf' p _ ⟨by simp [hf'], fun y hy => (op1 y _ hy (hv y hy)).1, fun y hy => ?_, fun y z hy hz ez => ?_⟩ ((x1.trans x).trans (Ext.add hpn)) ?_
      · have h1 := (op1 y _ hy (hv y hy)).2
        rw [hv _ (pt_lt h2 hy)] at h1
        exact Option.some.inj h1
      · have h1 : f (gt r (pt (gt l y))) = some (1 - gt hf' y) := (op2 y _ hy (hv y hy)).2
        have ez2 : gt r (pt (gt l y)) = z := by rw [← ez, hinv.at_ z hz]
        rw [ez2, hv _ hz] at h1
        exact Option.some.inj h1
      · rw [upd_same, tab_vi]
        have hl : hf'.length = n := by simp [hf']
        rw [hl]
        refine congrArg (fun q => some (HO.tup q)) (tab_congr fun y hy => ?_)
        rw [hv y hy]
        rfl
end
end CL
set_option Elab.async false
set_option linter.all false
set_option maxRecDepth 100000
set_option maxHeartbeats 4000000
/-! any(..), lists of new pairs, dicts of different keys. -/
namespace CL
open PySem PySem.Spec PyProof.Rows L2 RX
theorem any1_of {J : It} {n : Nat} {Y : Nat → V → Hp → Hp → Prop} {g : TG} {te : TE} {vs : List Nat} {σ : L2.St} {H1 : Hp} {Qd : Hp → Prop} {PT : Addr} (S : Src J n [] H1 Y) (tb : GxR.TabG H1 PT)
    (hs : ∀ (i : Nat) (v : V) (H H' : Hp) (K : V → Hp → Prop), i < n → Ext [] H1 H → Y i v H H' → (∀ H4, Ext [] H H4 → K (.bl false) H4) → g v (wipe σ vs) H' fun σ2 H3 => wipe σ2 vs = wipe σ vs ∧ te σ2 H3 K)
    (hd : ∀ H', Ext [] H1 H' → Qd H') :
    ∀ H2, GxR.Tabbed PT H1 H2 → ∃ (n : Nat) (Ph : Hp → Prop), Ph H2 ∧ (∀ i H, i < n → Ph H → J.go i H) ∧ (∀ H, Ph H → J.stop n H) ∧
      (∀ i x H H', i < n → Ph H → J.yld i H x H' → g x (wipe σ vs) H' fun σ2 H3 => wipe σ2 vs = wipe σ vs ∧ te σ2 H3 fun v H4 => Ph H4 ∧ v = .bl false) ∧ ∀ H', Ph H' → Qd H' :=
  fun H2 t => ⟨n, Ext [] H1, Ext.of_tabbed tb t, fun i H h x => S.go i H x h, fun H x => S.stop H x, fun i v H H' h x y => hs i v H H' _ h x (S.yld i H v H' x h y) fun H4 x4 => ⟨x.trans x4, rfl⟩, hd⟩
/-- the items of a list of options, taken by place -/
theorem map_go (l : List (Option Nat)) : (List.range l.length).map (go l) = l := by
  refine List.ext_getElem? fun j => ?_
  by_cases hj : j < l.length
  · rw [List.getElem?_map, List.getElem?_range hj, some_go hj]; rfl
  · rw [List.getElem?_eq_none (by simp; omega), List.getElem?_eq_none (by omega)]
theorem map_gt (l : List Nat) : (List.range l.length).map (gt l) = l := by
  refine List.ext_getElem? fun j => ?_
  by_cases hj : j < l.length
  · rw [List.getElem?_map, List.getElem?_range hj, some_gt hj]; rfl
  · rw [List.getElem?_eq_none (by simp; omega), List.getElem?_eq_none (by omega)]
theorem some_filter (l : List (Option Nat)) : ((List.range l.length).filter fun i => (go l i).isSome).map (fun i => vi ((go l i).getD 0)) = (somes l).map vi := by
  have h1 : ((List.range l.length).filter fun i => (go l i).isSome).map (fun i => vi ((go l i).getD 0)) = (((List.range l.length).map (go l)).filter fun x => x.isSome).map fun x => vi (x.getD 0) := by
    rw [List.filter_map, List.map_map]; rfl
  rw [h1, map_go]
  clear h1
  unfold somes
  induction l with
  | nil => rfl
  | cons x l ih => cases x <;> simp [ih]
/-- new tuples in a list -/
theorem refs_of {H : Hp} {G : Nat → List V} : ∀ {is : List Nat} {ys : List V}, Paired (fun i y => ∃ t, y = V.ref t ∧ H t = some (.tup (G i))) is ys → ∃ ts : List Addr, ys = ts.map V.ref ∧ Paired (fun t i => H t = some (.tup (G i))) ts is
  | _, _, .nil => ⟨[], rfl, .nil⟩
  | _, _, .cons ⟨t, e, h⟩ r => by
    obtain ⟨ts, e2, h2⟩ := refs_of r
    exact ⟨t :: ts, by rw [e, e2]; rfl, .cons h h2⟩
theorem Paired.mapR {α β γ : Type} {F : α → γ → Prop} {f : β → γ} : ∀ {xs : List α} {ys : List β}, Paired (fun x y => F x (f y)) xs ys → Paired F xs (ys.map f)
  | _, _, .nil => .nil
  | _, _, .cons h t => .cons h (Paired.mapR t)
theorem mergeK_nd : ∀ (kvs acc : List (Key × V)), ((acc ++ kvs).map (·.1)).Nodup → mergeK acc kvs = acc ++ kvs
  | [], acc, _ => by simp [mergeK]
  | p :: r, acc, h => by
    have hn : valV acc p.1 = none := by
      cases q : valV acc p.1 with
      | none => rfl
      | some v =>
        exfalso
        have hm := valV_in q
        rw [List.map_append, List.map_cons, List.nodup_append] at h
        exact h.2.2 _ hm _ List.mem_cons_self rfl
    show mergeK (putK acc p.1 p.2) r = _
    rw [putK_new _ hn, mergeK_nd r _ (by rw [List.append_assoc]; exact h), List.append_assoc]
    rfl
/-- dict([(x, 1) for x in l]), the items different -/
def ones (l : List Nat) : List (Key × V) := (List.range l.length).map fun i => ((Sum.inl ((gt l i : Nat) : Int) : Key), V.int 1)
theorem ones_nd {l : List Nat} (h : l.Nodup) : ((ones l).map (·.1)).Nodup := by
  unfold ones
  rw [List.map_map]
  refine List.pairwise_map.mpr (List.Pairwise.imp_of_mem (fun {a b} ha hb hab e => hab ?_) List.nodup_range)
  have e2 : ((gt l a : Nat) : Int) = ((gt l b : Nat) : Int) := Sum.inl.inj e
  exact inj_of_nodup h a b (List.mem_range.mp ha) (List.mem_range.mp hb) (by omega)
theorem ones_len {l : List Nat} (h : l.Nodup) : (mergeK [] (ones l)).length = l.length := by
  rw [mergeK_nd (ones l) [] (by rw [List.nil_append]; exact ones_nd h)]
  simp [ones]
theorem ones_pairs {K : PySem.W.Frag} {H H' : Hp} {l : List Nat} {ys : List V} (x : Ext [] H' H) (h : Paired (fun i y => ∃ t, y = V.ref t ∧ H' t = some (.tup [vi (gt l i), .int 1])) (List.range l.length) ys) :
    ∃ ts : List Addr, ys = ts.map V.ref ∧ Paired (fun p (kv : Key × V) => SqT K H p [kV kv.1, kv.2]) ts (ones l) := by
  obtain ⟨ts, e, hp⟩ := refs_of (G := fun i => [vi (gt l i), .int 1]) h
  refine ⟨ts, e, ?_⟩
  unfold ones
  exact Paired.mapR (F := fun p (kv : Key × V) => SqT K H p [kV kv.1, kv.2]) (Paired.mapP hp fun t i q => .of (x.tup q))
end CL
set_option Elab.async false
set_option linter.all false
set_option maxRecDepth 100000
set_option maxHeartbeats 4000000
namespace CL
open PySem PySem.Spec PyProof.Rows L2 RX

local macro_rules | `(tactic| walk_at "e") => `(tactic| (repeat (first
  | refine ⟨_, rfl, ?_⟩
  | refine ⟨_, _, rfl, rfl, ?_⟩
  | refine ⟨_, _, rfl, rfl, (by first | decide | omega | (dsimp only; omega)), ?_⟩
  | refine ⟨_, _, rfl, rfl, cmul1 (by omega), ?_⟩
  | refine ⟨_, _, rfl, rfl, cmul2 (by omega), ?_⟩
  | refine ⟨_, _, rfl, rfl, ⟨by omega, by omega⟩, ?_⟩
  | refine ⟨_, _, rfl, ‹_›, ?_⟩
  | refine ⟨_, _, _, _, rfl, rfl, ‹_›, at_vi (by assumption) rfl, ?_⟩
  | refine ⟨_, _, rfl, SqT.of ‹_›, rfl, ?_⟩
  | refine ⟨_, _, rfl, SqT.of ‹_›, ?_⟩
  | refine ⟨_, _, rfl, SqL.of ‹_›, ?_⟩
  | refine And.intro rfl ?_
  | refine ⟨_, _, rfl, ?_⟩
  | refine And.intro (by first | decide | omega | (dsimp only; omega)) ?_
  | refine And.intro (cmul1 (by omega)) ?_
  | refine And.intro (cmul2 (by omega)) ?_
  | refine And.intro ⟨by omega, by omega⟩ ?_
  | refine And.intro ⟨_, SqT.of ‹_›⟩ ?_
  | refine And.intro ⟨_, SqL.of ‹_›⟩ ?_
  | refine And.intro (Or.inl ⟨rfl, _, SqL.of ‹_›⟩) ?_
  | refine And.intro sz0 ?_
  | refine And.intro sz1 ?_
  | refine And.intro sz2 ?_
  | refine And.intro sz3 ?_
  | refine yesT ?_)))
section
variable {P : Program} {w : World} {K : PySem.W.Frag} {mg : Str → Option Value} {base : Heap}
/-! check_pairing -/
abbrev s_check_pairing : Stmt := top 8
theorem sc_check_pairing : FnScope ["pairs", "many", "found", "taken", "gate"] ["pairs", "many"] (defScope s_check_pairing) := ⟨rfl, rfl, rfl, by decide +kernel, rfl, by decide +kernel, by decide +kernel⟩
def spCheckP (PT : Addr) : Sp := fun vs H Q _ => ∃ (a n : Nat) (l : List (Option Nat)), vs = [.ref a, vi n] ∧ H a = some (.tup (l.map vo)) ∧ PP n l ∧ n ≤ 1000 ∧ GxR.TabG H PT ∧ ∀ H', Ext [] H H' → Q (.ref a) H'
theorem neF {x y : V} (e : x = y) : (!decide (x = y)) = false := by rw [decide_eq_true e]; rfl
theorem ok_checkp {f c PT : Addr} {fd : FuncData} (F : Fun K "check_pairing" "check_pairing" s_check_pairing f fd) (hfc : fd.code = .ref c) (TB : LamX.TabB base mg c PT) (B : Bts mg) : FnOk P w K mg base CX0 4 f fd ["pairs", "many"] (spCheckP PT) := by
  refine okC F hfc sc_check_pairing (fun vs H Q E h => ?_) (fun A outer s H vs Q E hr h => ?_)
  · obtain ⟨a, n, l, rfl, _⟩ := h
    rfl
  · obtain ⟨a, n, l, rfl, e, hp, hn, tb, k⟩ := h
    have hr3 : Room (0 + 3) _ := hr
    have hcode : (envOfC "check_pairing" (defScope s_check_pairing) s.heap.objs.size f (.ref c)).code = .ref c := rfl
    refine ⟨_, (pss_cons (ps_set (i := 2) sc_check_pairing.nd rfl (Or.inl rfl) (tupT (by rfl) B.tuple (pv 0)))
      (pss_cons (ps_setLc (i := 3) (own := [("gate", 4)]) (g := (gName 4)) rfl sc_check_pairing.nd rfl rfl (sw_true rfl rfl rfl (by decide +kernel)) (piT_K K rfl (pv 2)) (blkOk_by (N := ["pairs", "many", "found", "taken", "gate"]) (sc := defScope s_check_pairing) (by decide +kernel)) (fun _ _ _ _ _ => (pg_name (i := 4) sc_check_pairing.nd rfl (by first | exact Or.inl rfl | exact Or.inr rfl))) (fun _ _ _ _ _ => (pts_one (pt_cmpR op_notN (pv 4) pe_non (nomark _)))) (fun _ _ _ _ _ => (pv 4)))
      (pss_cons (ps_if (pw_or (pt_cmpR op_ne (pe_callB lenT (by rfl) B.len PySem.boot_len (pa_cons (pv 2) pa_nil)) (pv 1) (nomark _)) (pw_or1 (pt_val (GX.pe_any1 (k := 0) (own := [("gate", 4)]) hr3 (by rfl) B.any TB hcode rfl sc_check_pairing.nd (piL_K K rfl (pv 3)) (blkOk_by (N := ["pairs", "many", "found", "taken", "gate"]) (sc := defScope s_check_pairing) (by decide +kernel)) (gsc_by (by decide +kernel)) (fun _ _ _ _ _ => (pg_name (i := 4) sc_check_pairing.nd rfl (by first | exact Or.inl rfl | exact Or.inr rfl))) (fun _ _ _ _ _ hg => (pe_not (pe_chain op_le op_lt pe_int (pv 4) (pv 1)))))))).pt (pss_one ps_never) pss_nil)
      (pss_cons (ps_if (pt_cmpR op_ne (pe_callB call_len_any (by rfl) B.len PySem.boot_len (pa_cons (pe_callTy (call_dictP rfl) (by rfl) B.dict (by decide +kernel) (pa_cons (pe_lc (own := [("gate", 4)]) (g := (gName 4)) (tt := tYes) rfl sc_check_pairing.nd (piL_K K rfl (pv 3)) (blkOk_by (N := ["pairs", "many", "found", "taken", "gate"]) (sc := defScope s_check_pairing) (by decide +kernel)) (fun _ _ _ _ _ => (pg_name (i := 4) sc_check_pairing.nd rfl (by first | exact Or.inl rfl | exact Or.inr rfl))) (fun _ _ _ _ _ => pts_nil) (fun _ _ _ _ _ => (pe_tup (pa_cons (pv 4) (pa_cons pe_int pa_nil))))) pa_nil)) pa_nil)) (pe_callB lenL (by rfl) B.len PySem.boot_len (pa_cons (pv 3) pa_nil)) (nomark _)) (pss_one ps_never) pss_nil)
      (pss_one (ps_ret (pv 2))))))), ?_⟩
    walk_at "e"
    intro D hD
    have hl : l.length = n := hp.len
    refine lc_val hD (src_tupO e (by simp)) (fun i => (go l i).isSome) (fun i => vi ((go l i).getD 0)) (by omega) (fun i v Ha Hb Kt Kf hi x ⟨ev, eh⟩ kt kf => ?_) fun H1 x1 x2 e1 => ?_
    · subst ev eh
      cases q : go l i with
      | none =>
        rw [q] at kf
        walk_at "e"
        refine ifF (neF (by show vo (go l i) = .non; rw [q]; rfl)) ?_
        exact kf _ rfl Ext.refl
      | some y =>
        rw [q] at kt
        walk_at "e"
        refine ifT (by show (!decide (vo (go l i) = .non)) = true; rw [q]; rfl) ?_
        walk_at "e"
        show Kt (vo (go l i)) Hb
        rw [q]
        exact kt _ rfl Ext.refl
    · rw [some_filter] at e1
      have ea1 := x2.tup e
      have tb1 := x2.tab PT tb
      have hz : (((l.map vo).length : Nat) : Int) = (n : Int) := by rw [List.length_map, hp.len]
      walk_at "e"
      refine ifF (neF (congrArg V.int hz)) ?_
      walk_at "e"
      try refine And.intro tb1 ?_
      refine any1_of (src_lstN e1 (by simp)) tb1 (fun i v Ha Hb Kt hi x ⟨ev, eh⟩ kt => ?_) fun H2 x3 => ?_
      · subst ev eh
        have hlt : gt (somes l) i < n := hp.lt _ (gt_mem hi)
        walk_at "e"
        have hd : decide (((gt (somes l) i : Nat) : Int) < (n : Int)) = true := decide_eq_true (by omega)
        show Kt (V.bl !decide (((gt (somes l) i : Nat) : Int) < (n : Int))) Hb
        rw [hd]
        exact kt _ Ext.refl
      · have e2 := x3.lst e1
        walk_at "e"
        intro D2 hD2
        refine lc_any hD2 (src_lstN e2 (by simp)) (fun _ => true) (fun i y H => ∃ t, y = .ref t ∧ H t = some (.tup [vi (gt (somes l) i), .int 1])) (by have := List.length_filterMap_le id l; unfold somes; omega) (fun i y Ha Hb ⟨t, e, h⟩ x => ⟨t, e, x.tup h⟩) (fun i v Ha Hb Kt Kf hi x ⟨ev, eh⟩ kt kf => ?_) fun H3 ys x4 x5 e5 hys => ?_
        · subst ev eh
          walk_at "e"
          intro t ht
          refine kt _ _ rfl (Ext.add ht) fun D' zs hD' => ⟨t, rfl, ?_⟩
          rw [hide_ne (fun z => by rw [z, hD'] at ht; cases ht), upd_same]
        · rw [filter_true] at hys
          obtain ⟨ts, ets, hpr⟩ := ones_pairs (K := K) ext_hide hys
          subst ets
          have e6 := x5.lst e2
          walk_at "e"
          refine ⟨D2, ts, ones (somes l), rfl, .of e5, hpr, fun d hd => ?_⟩
          have x6 : Ext [] H3 (upd H3 d (.dK (mergeK [] (ones (somes l))))) := Ext.add hd
          generalize hH4 : upd H3 d (.dK (mergeK [] (ones (somes l)))) = H4 at x6
          have e7 : H4 d = some (.dK (mergeK [] (ones (somes l)))) := by rw [← hH4]; exact upd_same
          have e8 := x6.lst e6
          walk_at "e"
          refine Or.inl ⟨_, e7, ?_⟩
          walk_at "e"
          refine ifF (neF (congrArg V.int (by rw [ones_len hp.nd, List.length_map]))) ?_
          walk_at "e"
          exact k _ (((x2.trans x3).trans x5).trans x6)
end
end CL
set_option Elab.async false
set_option linter.all false
set_option maxRecDepth 100000
set_option maxHeartbeats 4000000
namespace CL
open PySem PySem.Spec PyProof.Rows L2 RX

local macro_rules | `(tactic| walk_at "e") => `(tactic| (repeat (first
  | refine ⟨_, rfl, ?_⟩
  | refine ⟨_, _, rfl, rfl, ?_⟩
  | refine ⟨_, _, rfl, rfl, (by first | decide | omega | (dsimp only; omega)), ?_⟩
  | refine ⟨_, _, rfl, rfl, cmul1 (by omega), ?_⟩
  | refine ⟨_, _, rfl, rfl, cmul2 (by omega), ?_⟩
  | refine ⟨_, _, rfl, rfl, ⟨by omega, by omega⟩, ?_⟩
  | refine ⟨_, _, rfl, ‹_›, ?_⟩
  | refine ⟨_, _, _, _, rfl, rfl, ‹_›, at_vi (by assumption) rfl, ?_⟩
  | refine ⟨_, _, rfl, SqT.of ‹_›, rfl, ?_⟩
  | refine ⟨_, _, rfl, SqT.of ‹_›, ?_⟩
  | refine ⟨_, _, rfl, SqL.of ‹_›, ?_⟩
  | refine And.intro rfl ?_
  | refine ⟨_, _, rfl, ?_⟩
  | refine And.intro (by first | decide | omega | (dsimp only; omega)) ?_
  | refine And.intro (cmul1 (by omega)) ?_
  | refine And.intro (cmul2 (by omega)) ?_
  | refine And.intro ⟨by omega, by omega⟩ ?_
  | refine And.intro ⟨_, SqT.of ‹_›⟩ ?_
  | refine And.intro ⟨_, SqL.of ‹_›⟩ ?_
  | refine And.intro (Or.inl ⟨rfl, _, SqL.of ‹_›⟩) ?_
  | refine And.intro sz0 ?_
  | refine And.intro sz1 ?_
  | refine And.intro sz2 ?_
  | refine And.intro sz3 ?_
  | refine yesT ?_)))
section
variable {P : Program} {w : World} {K : PySem.W.Frag} {mg : Str → Option Value} {base : Heap}
/-! rows that stand in the heap -/
def rw (rows : List (List Nat)) (i : Nat) : List Nat := rows.getD i []
theorem rw_mem {rows : List (List Nat)} {i : Nat} (h : i < rows.length) : rw rows i ∈ rows := by
  unfold rw
  rw [List.getD_eq_getElem?_getD, List.getElem?_eq_getElem h]
  exact List.getElem_mem h
def ag (as : List Addr) (i : Nat) : Addr := as.getD i 0
theorem some_ag {as : List Addr} {i : Nat} (h : i < as.length) : as[i]? = some (ag as i) := by
  unfold ag; rw [List.getD_eq_getElem?_getD, List.getElem?_eq_getElem h]; rfl
theorem at_ref {as : List Addr} {i : Nat} {z : Int} (h : i < as.length) (e : z = (i : Int)) : atI (as.map V.ref) z = some (.ref (ag as i)) := at_of e (by rw [List.getElem?_map, some_ag h]; rfl)
theorem map_ag (as : List Addr) : (List.range as.length).map (fun i => V.ref (ag as i)) = as.map V.ref := by
  refine List.ext_getElem? fun j => ?_
  by_cases hj : j < as.length
  · rw [List.getElem?_map, List.getElem?_range hj, List.getElem?_map, some_ag hj]; rfl
  · rw [List.getElem?_eq_none (by simp; omega), List.getElem?_eq_none (by simp; omega)]
theorem src_refs {W : List Addr} {H : Hp} {a : Addr} {as : List Addr} (e : H a = some (.lst (as.map V.ref))) (hw : a ∉ W) : Src (Itl K a) as.length W H (YV fun i => .ref (ag as i)) := by
  have S := src_lst (K := K) e hw
  rw [List.length_map] at S
  exact ⟨S.go, S.stop, fun i H1 v H2 x h y => by
    obtain ⟨e1, e2⟩ := S.yld i H1 v H2 x h y
    exact ⟨by rw [e1]; dsimp only; rw [List.getD_eq_getElem?_getD, List.getElem?_map, some_ag h]; rfl, e2⟩⟩
/-- tuples -/
structure RowsT (H : Hp) (as : List Addr) (rows : List (List Nat)) : Prop where
  len : as.length = rows.length
  at_ : ∀ i, i < rows.length → H (ag as i) = some (.tup ((rw rows i).map vi))
theorem RowsT.ext {H H' : Hp} {as : List Addr} {rows : List (List Nat)} (r : RowsT H as rows) (x : Ext [] H H') : RowsT H' as rows := ⟨r.len, fun i h => x.tup (r.at_ i h)⟩
theorem RowsT.extW {H H' : Hp} {W as : List Addr} {rows : List (List Nat)} (r : RowsT H as rows) (x : Ext W H H') (hw : ∀ a ∈ W, ∀ xs, H a ≠ some (.tup xs)) : RowsT H' as rows := ⟨r.len, fun i h => x.at_ _ _ (r.at_ i h) nt_tup fun m => hw _ m _ (r.at_ i h)⟩
/-- lists -/
structure RowsL (H : Hp) (as : List Addr) (rows : List (List Nat)) : Prop where
  len : as.length = rows.length
  at_ : ∀ i, i < rows.length → H (ag as i) = some (.lst ((rw rows i).map vi))
theorem RowsL.ext {H H' : Hp} {as : List Addr} {rows : List (List Nat)} (r : RowsL H as rows) (x : Ext [] H H') : RowsL H' as rows := ⟨r.len, fun i h => x.lst (r.at_ i h)⟩
/-! a net -/
def nf (n : Nat) (wl : Addr) : List (Str × V) := putF "wires" (.ref wl) (putF "many" (vi n) [])
theorem km : ¬ (("many" : Str) = "wires") := by decide +kernel
theorem nf_many (n : Nat) (wl : Addr) : (nf n wl).lookup ("many" : Str) = some (vi n) := by
  unfold nf
  rw [lookup_putF, if_neg km, lookup_putF, if_pos rfl]
theorem nf_wires (n : Nat) (wl : Addr) : (nf n wl).lookup ("wires" : Str) = some (.ref wl) := by
  unfold nf
  rw [lookup_putF, if_pos rfl]
theorem nf_no (n : Nat) (wl : Addr) {m : Str} (h1 : ¬ m = "wires") (h2 : ¬ m = "many") : (nf n wl).lookup m = none := by
  unfold nf
  rw [lookup_putF, if_neg h1, lookup_putF, if_neg h2]
  all_goals rfl
structure NetAt (C : Addr) (H : Hp) (p n : Nat) (rows : List (List Nat)) : Prop where
  ex : ∃ (dx wl : Addr) (as : List Addr), H p = some (.ins C dx (nf n wl)) ∧ H wl = some (.lst (as.map V.ref)) ∧ RowsT H as rows
theorem NetAt.ext {C : Addr} {H H' : Hp} {p n : Nat} {rows : List (List Nat)} (N : NetAt C H p n rows) (x : Ext [] H H') : NetAt C H' p n rows := by
  obtain ⟨dx, wl, as, h1, h2, h3⟩ := N.ex
  exact ⟨dx, wl, as, x.ins h1, x.lst h2, h3.ext x⟩
def vs_some (row : List Nat) : row.map vi = (row.map some).map vo := by rw [List.map_map]; rfl
theorem pp_of {n : Nat} {row : List Nat} (p : PermL n row) : PP n (row.map some) := by
  have e : somes (row.map some) = row := by
    unfold somes
    rw [List.filterMap_map]
    have : (id ∘ some : Nat → Option Nat) = some := rfl
    rw [this, List.filterMap_some]
  exact ⟨by rw [List.length_map, p.len], by rw [e]; exact p.nodup, by rw [e]; exact p.all⟩
/-! Net.stages -/
abbrev s_Net_stages : Stmt := inClass (top 14) 1
theorem sc_Net_stages : FnScope ["self"] ["self"] (defScope s_Net_stages) := ⟨rfl, rfl, rfl, by decide +kernel, rfl, by decide +kernel, by decide +kernel⟩
def spStages (C : Addr) : Sp := fun vs H Q _ => ∃ (p n : Nat) (rows : List (List Nat)), vs = [.ref p] ∧ NetAt C H p n rows ∧ 0 < rows.length ∧ Q (vi (rows.length - 1)) H
theorem ok_stages {f C : Addr} {fd : FuncData} (F : Fun K "stages" "Net.stages" s_Net_stages f fd) (B : Bts mg) (T_Net : ClF K C ["many", "wires"]) : FnOk P w K mg base CX0 1 f fd ["self"] (spStages C) := by
  refine F.ok sc_Net_stages (fun vs H Q E h => ?_) (fun cdv A outer s H vs Q E hr h => ?_)
  · obtain ⟨p, n, rows, rfl, _⟩ := h
    rfl
  · obtain ⟨p, n, rows, rfl, N, h0, k⟩ := h
    obtain ⟨dx, wl, as, h1, h2, h3⟩ := N.ex
    refine ⟨_, (pss_one (ps_ret (pe_op op_sub (pe_callB lenL (by rfl) B.len PySem.boot_len (pa_cons (fldC T_Net (by decide +kernel) (pv 0) rfl) pa_nil)) pe_int))), ?_⟩
    walk_at "e"
    refine ⟨p, dx, _, _, rfl, h1, nf_wires _ _, ?_⟩
    walk_at "e"
    have e : V.int ((((as.map V.ref).length : Nat) : Int) - 1) = vi (rows.length - 1) := by
      rw [List.length_map, h3.len]
      exact congrArg V.int (by omega)
    show Q (V.int ((((as.map V.ref).length : Nat) : Int) - 1)) H
    rw [e]
    exact k
/-! Net.__init__ -/
abbrev s_Net___init : Stmt := inClass (top 14) 0
theorem sc_Net___init : FnScope ["self", "many", "wires", "row"] ["self", "many", "wires"] (defScope s_Net___init) := ⟨rfl, rfl, rfl, by decide +kernel, rfl, by decide +kernel, by decide +kernel⟩
def spNetI (C PC PN : Addr) : Sp := fun vs H Q _ => ∃ (p n dx wl : Nat) (as : List Addr) (rows : List (List Nat)), vs = [.ref p, vi n, .ref wl] ∧ H p = some (.ins C dx []) ∧ H wl = some (.lst (as.map V.ref)) ∧ RowsT H as rows ∧ (∀ r ∈ rows, PermL n r) ∧
  2 ≤ n ∧ n % 2 = 0 ∧ n ≤ 1000 ∧ 2 ≤ rows.length ∧ rows.length ≤ 1000 ∧ GxR.TabG H PC ∧ GxR.TabG H PN ∧ ∀ H', Ext [p] H H' → NetAt C H' p n rows → Q .non H'
theorem ok_neti {f c C PC PN : Addr} {fd : FuncData} (F : Fun K "__init__" "Net.__init__" s_Net___init f fd) (hfc : fd.code = .ref c) (TB : LamX.TabB base mg c PN) (B : Bts mg) (T_Net : ClF K C ["many", "wires"])
    (G_check_pairing : FnF P w K mg base "check_pairing" 4 ["pairs", "many"] (spCheckP PC)) (G_is_full : FnF P w K mg base "is_full" 1 ["pairs"] spFull) : FnOk P w K mg base CX0 5 f fd ["self", "many", "wires"] (spNetI C PC PN) := by
  refine okC F hfc sc_Net___init (fun vs H Q E h => ?_) (fun A outer s H vs Q E hr h => ?_)
  · obtain ⟨p, n, dx, wl, as, rows, rfl, _⟩ := h
    rfl
  · obtain ⟨p, n, dx, wl, as, rows, rfl, h1, h2, h3, hp, hn2, hne, hn, hr2, hr1, tc, tn, k⟩ := h
    have hr3 : Room (1 + 3) _ := hr
    have hcode : (envOfC "Net.__init__" (defScope s_Net___init) s.heap.objs.size f (.ref c)).code = .ref c := rfl
    refine ⟨_, (pss_cons (ps_if (pw_or (pt_cmpR op_lt (pv 1) pe_int (nomark _)) (pw_or (pt_cmpR op_eq (pe_op op_mod (pv 1) pe_int) pe_int (nomark _)) (pw_or1 (pt_cmpR op_lt (pe_callB lenL (by rfl) B.len PySem.boot_len (pa_cons (pv 2) pa_nil)) pe_int (nomark _))))).pt (pss_one ps_never) pss_nil)
      (pss_cons (sfldC T_Net (by decide +kernel) (pv 0) (pv 1) rfl)
      (pss_cons (sfldC T_Net (by decide +kernel) (pv 0) (pe_lc (own := [("row", 3)]) (g := (gName 3)) (tt := tYes) rfl sc_Net___init.nd (piL_K K rfl (pv 2)) (blkOk_by (N := ["self", "many", "wires", "row"]) (sc := defScope s_Net___init) (by decide +kernel)) (fun _ _ _ _ _ => (pg_name (i := 3) sc_Net___init.nd rfl (by first | exact Or.inl rfl | exact Or.inr rfl))) (fun _ _ _ _ _ => pts_nil) (fun _ _ _ _ _ => (pf_call G_check_pairing (hr.mono (by omega)) (by rfl) (pa_cons (pv 3) (pa_cons (pv 1) pa_nil))))) rfl)
      (pss_one (ps_if (pt_val (GX.pe_any1 (k := 1) (own := [("row", 3)]) hr3 (by rfl) B.any TB hcode rfl sc_Net___init.nd (piL_K K rfl (fldC T_Net (by decide +kernel) (pv 0) rfl)) (blkOk_by (N := ["self", "many", "wires", "row"]) (sc := defScope s_Net___init) (by decide +kernel)) (gsc_by (by decide +kernel)) (fun _ _ _ _ _ => (pg_name (i := 3) sc_Net___init.nd rfl (by first | exact Or.inl rfl | exact Or.inr rfl))) (fun _ _ _ _ _ hg => (pe_not (pf_call G_is_full (hg.mono (by omega)) (by rfl) (pa_cons (pv 3) pa_nil)))))) (pss_one ps_never) pss_nil))))), ?_⟩
    have hz : (((as.map V.ref).length : Nat) : Int) = (rows.length : Int) := by rw [List.length_map, h3.len]
    walk_at "e"
    refine ifF (decide_eq_false (by omega)) ?_
    walk_at "e"
    refine ifF (decide_eq_false fun z => by
      have z2 : ((n : Int) % 2) = 1 := V.int.inj z
      omega) ?_
    walk_at "e"
    refine ifF (decide_eq_false (by omega)) ?_
    walk_at "e"
    refine ⟨p, dx, _, rfl, h1, by show 0 < 1000; decide, ?_⟩
    generalize hH1 : upd H p _ = H1
    have y1 : Ext [p] H H1 := by rw [← hH1]; exact Ext.refl.wr (.inr (by simp)) h1 nt_ins
    have p1 := (congrFun hH1.symm p).trans upd_same
    have npl : wl ≠ p := fun z => by rw [z, h1] at h2; cases h2
    have hw : ∀ a ∈ [p], ∀ xs, H a ≠ some (.tup xs) := fun a ha xs => by
      have : a = p := by simpa using ha
      rw [this, h1]; simp
    have l1 : H1 wl = some (.lst (as.map V.ref)) := y1.at_ _ _ h2 nt_lst (by simp [npl])
    have r1 := h3.extW y1 hw
    walk_at "e"
    intro D hD
    have hal : as.length = rows.length := h3.len
    refine lc_all hD (src_refs l1 (by simp)) (fun i => .ref (ag as i)) (by omega) (fun i v Ha Hb Kt hi x ⟨ev, eh⟩ kt => ?_) (fun v σ H Q Q' i h => i _ _ h) fun H2 x1 x2 e2 => ?_
    · subst ev eh
      have hir : i < rows.length := by omega
      walk_at "e"
      refine ⟨ag as i, n, (rw rows i).map some, rfl, by rw [← vs_some]; exact (r1.ext x).at_ i hir, pp_of (hp _ (rw_mem hir)), hn, (y1.trans x.wide0).tab _ tc, fun H' x' => kt H' x'⟩
    · rw [map_ag] at e2
      have p2 := x2.ins p1
      walk_at "e"
      refine ⟨p, dx, _, rfl, p2, by show 1 < 1000; decide, ?_⟩
      generalize hH3 : upd H2 p _ = H3
      have y3 : Ext [p] H H3 := by rw [← hH3]; exact (y1.trans x2.wide0).wr (.inr (by simp)) p2 nt_ins
      have p3 : H3 p = some (.ins C dx (nf n D)) := (congrFun hH3.symm p).trans upd_same
      have npD : D ≠ p := fun z => by rw [z, p1] at hD; cases hD
      have e3 : H3 D = some (.lst (as.map V.ref)) := by rw [← hH3, upd_ne npD]; exact e2
      have r3 := h3.extW y3 hw
      have tn3 := y3.tab _ tn
      walk_at "e"
      refine ⟨p, dx, _, _, rfl, p3, nf_wires _ _, ?_⟩
      walk_at "e"
      try refine And.intro tn3 ?_
      refine any1_of (src_refs e3 (by simp)) tn3 (fun i v Ha Hb Kt hi x ⟨ev, eh⟩ kt => ?_) fun H4 x4 => ?_
      · subst ev eh
        have hir : i < rows.length := by omega
        walk_at "e"
        refine ⟨ag as i, rw rows i, rfl, (r3.ext x).at_ i hir, ?_⟩
        walk_at "e"
        exact kt _ Ext.refl
      · walk_at "e"
        exact k H4 (y3.trans x4.wide0) ⟨dx, D, as, x4.ins p3, x4.lst e3, r3.ext x4⟩
end
end CL
set_option Elab.async false
set_option linter.all false
set_option maxRecDepth 100000
set_option maxHeartbeats 4000000
namespace CL
open PySem PySem.Spec PyProof.Rows L2 RX

local macro_rules | `(tactic| walk_at "e") => `(tactic| (repeat (first
  | refine ⟨_, rfl, ?_⟩
  | refine ⟨_, _, rfl, rfl, ?_⟩
  | refine ⟨_, _, rfl, rfl, (by first | decide | omega | (dsimp only; omega)), ?_⟩
  | refine ⟨_, _, rfl, rfl, cmul1 (by omega), ?_⟩
  | refine ⟨_, _, rfl, rfl, cmul2 (by omega), ?_⟩
  | refine ⟨_, _, rfl, rfl, ⟨by omega, by omega⟩, ?_⟩
  | refine ⟨_, _, rfl, ‹_›, ?_⟩
  | refine ⟨_, _, _, _, rfl, rfl, ‹_›, at_vi (by assumption) rfl, ?_⟩
  | refine ⟨_, _, rfl, SqT.of ‹_›, rfl, ?_⟩
  | refine ⟨_, _, rfl, SqT.of ‹_›, ?_⟩
  | refine ⟨_, _, rfl, SqL.of ‹_›, ?_⟩
  | refine And.intro rfl ?_
  | refine ⟨_, _, rfl, ?_⟩
  | refine And.intro (by first | decide | omega | (dsimp only; omega)) ?_
  | refine And.intro (cmul1 (by omega)) ?_
  | refine And.intro (cmul2 (by omega)) ?_
  | refine And.intro ⟨by omega, by omega⟩ ?_
  | refine And.intro ⟨_, SqT.of ‹_›⟩ ?_
  | refine And.intro ⟨_, SqL.of ‹_›⟩ ?_
  | refine And.intro (Or.inl ⟨rfl, _, SqL.of ‹_›⟩) ?_
  | refine And.intro sz0 ?_
  | refine And.intro sz1 ?_
  | refine And.intro sz2 ?_
  | refine And.intro sz3 ?_
  | refine yesT ?_)))
section
variable {P : Program} {w : World} {K : PySem.W.Frag} {mg : Str → Option Value} {base : Heap}
/-! settings that stand in the heap -/
structure SetAt (H : Hp) (p : Addr) (S : List (List Nat)) : Prop where
  ex : ∃ as : List Addr, H p = some (.lst (as.map V.ref)) ∧ RowsL H as S
theorem SetAt.ext {H H' : Hp} {p : Addr} {S : List (List Nat)} (s : SetAt H p S) (x : Ext [] H H') : SetAt H' p S := by
  obtain ⟨as, h1, h2⟩ := s.ex
  exact ⟨as, x.lst h1, h2.ext x⟩
/-! Net.check -/
abbrev s_Net_check : Stmt := inClass (top 14) 3
theorem sc_Net_check : FnScope ["self", "settings", "row", "one"] ["self", "settings"] (defScope s_Net_check) := ⟨rfl, rfl, rfl, by decide +kernel, rfl, by decide +kernel, by decide +kernel⟩
def SetOk (n : Nat) (rows S : List (List Nat)) : Prop := S.length + 1 = rows.length ∧ ∀ s ∈ S, s.length = n / 2 ∧ ∀ x ∈ s, x ≤ 1
def spNetK (C PK : Addr) : Sp := fun vs H Q _ => ∃ (p n sl : Nat) (rows S : List (List Nat)), vs = [.ref p, .ref sl] ∧ NetAt C H p n rows ∧ SetAt H sl S ∧ SetOk n rows S ∧ n ≤ 1000 ∧ rows.length ≤ 1000 ∧ GxR.TabG H PK ∧ ∀ H', Ext [] H H' → Q (.ref sl) H'
theorem ok_netk {f c C PK : Addr} {fd : FuncData} (F : Fun K "check" "Net.check" s_Net_check f fd) (hfc : fd.code = .ref c) (TB : LamX.TabB base mg c PK) (B : Bts mg) (T_Net : ClF K C ["many", "wires"])
    (M_Net_stages : MtF P w K mg base C "stages" 1 ["self"] (spStages C)) : FnOk P w K mg base CX0 4 f fd ["self", "settings"] (spNetK C PK) := by
  refine okC F hfc sc_Net_check (fun vs H Q E h => ?_) (fun A outer s H vs Q E hr h => ?_)
  · obtain ⟨p, n, sl, rows, S, rfl, _⟩ := h
    rfl
  · obtain ⟨p, n, sl, rows, S, rfl, N, hS, ⟨ok1, ok2⟩, hn, hrl, tk, k⟩ := h
    have hr3 : Room (0 + 3) _ := hr
    have hcode : (envOfC "Net.check" (defScope s_Net_check) s.heap.objs.size f (.ref c)).code = .ref c := rfl
    obtain ⟨dx, wl, as, n1, n2, n3⟩ := id N
    obtain ⟨ss, s1, s2⟩ := hS.ex
    refine ⟨_, (pss_cons (ps_if (pw_or (pt_cmpR op_ne (pe_callB lenL (by rfl) B.len PySem.boot_len (pa_cons (pv 1) pa_nil)) (pm_call0 M_Net_stages (hr.mono (by omega)) (pv 0)) (nomark _)) (pw_or1 (pt_val (GX.pe_any1 (k := 0) (own := [("row", 2)]) hr3 (by rfl) B.any TB hcode rfl sc_Net_check.nd (piL_K K rfl (pv 1)) (blkOk_by (N := ["self", "settings", "row", "one"]) (sc := defScope s_Net_check) (by decide +kernel)) (gsc_by (by decide +kernel)) (fun _ _ _ _ _ => (pg_name (i := 2) sc_Net_check.nd rfl (by first | exact Or.inl rfl | exact Or.inr rfl))) (fun _ _ _ _ _ hg => (pe_cmpR op_ne (pe_callB lenL (by rfl) B.len PySem.boot_len (pa_cons (pv 2) pa_nil)) (pe_op op_fdiv (fldC T_Net (by decide +kernel) (pv 0) rfl) pe_int) (nomark _))))))).pt (pss_one ps_never) pss_nil)
      (pss_cons (ps_if (pt_val (GX.pe_any2 (k := 0) (own := [("row", 2), ("one", 3)]) (vs1 := [3]) hr3 (by rfl) B.any TB hcode rfl sc_Net_check.nd (piL_K K rfl (pv 1)) (blkOk_by (N := ["self", "settings", "row", "one"]) (sc := defScope s_Net_check) (by decide +kernel)) (gsc_by (by decide +kernel)) (by decide) (fun _ _ _ _ _ => (pg_name (i := 2) sc_Net_check.nd rfl (by first | exact Or.inl rfl | exact Or.inr rfl))) (fun _ _ _ _ _ => (piL_K K rfl (pv 2))) (fun _ _ _ _ _ => (pg_name (i := 3) sc_Net_check.nd rfl (by first | exact Or.inl rfl | exact Or.inr rfl))) (fun _ _ _ _ _ hg => (pe_cmpR notInS (pv 3) (pe_tup (pa_cons pe_int (pa_cons pe_int pa_nil))) (by rfl))))) (pss_one ps_never) pss_nil)
      (pss_one (ps_ret (pv 1))))), ?_⟩
    have hz : (((ss.map V.ref).length : Nat) : Int) = ((S.length : Nat) : Int) := by rw [List.length_map, s2.len]
    walk_at "e"
    refine ⟨p, dx, _, rfl, n1, nf_no _ _ (by decide +kernel) (by decide +kernel), ?_⟩
    walk_at "e"
    refine ⟨p, n, rows, rfl, N, by omega, ?_⟩
    walk_at "e"
    refine ifF (neF (congrArg V.int (by rw [hz]; omega))) ?_
    walk_at "e"
    try refine And.intro tk ?_
    have hsl : ss.length = S.length := s2.len
    refine any1_of (src_refs s1 (by simp)) tk (fun i v Ha Hb Kt hi x ⟨ev, eh⟩ kt => ?_) fun H1 x1 => ?_
    · subst ev eh
      have hir : i < S.length := by omega
      have e1 := (s2.ext x).at_ i hir
      have e2 := x.ins n1
      walk_at "e"
      refine ⟨p, dx, _, _, rfl, e2, nf_many _ _, ?_⟩
      walk_at "e"
      have hl := (ok2 _ (rw_mem hir)).1
      have he : (!decide (V.int ((((rw S i).map vi).length : Nat) : Int) = V.int ((n : Int) / 2))) = false := neF (congrArg V.int (by rw [List.length_map, hl]; omega))
      show Kt (V.bl (!decide (V.int ((((rw S i).map vi).length : Nat) : Int) = V.int ((n : Int) / 2)))) Hb
      rw [he]
      exact kt _ Ext.refl
    · have t1 := x1.tab _ tk
      have e1 := x1.lst s1
      have s3 := s2.ext x1
      walk_at "e"
      try refine And.intro t1 ?_
      have S1 := src_refs (K := K) (W := []) e1 (by simp)
      refine fun H2 tt => ⟨ss.length, n, Ext [] H1, Ext.of_tabbed t1 tt, fun i H h x => S1.go i H x h, fun H x => S1.stop H x, fun i v Ha Hb hi x y => ?_, fun H' x2 => ?_⟩
      · obtain ⟨ev, eh⟩ := S1.yld i Ha v Hb x hi y
        subst ev eh
        have hir : i < S.length := by omega
        have e3 := (s3.ext x).at_ i hir
        walk_at "e"
        have S2 := src_lstN (K := K) (W := []) (s3.at_ i hir) (by simp)
        refine ⟨(rw S i).length, by rw [(ok2 _ (rw_mem hir)).1]; omega, fun j H h x2 => S2.go j H x2 h, fun H x2 => S2.stop H x2, fun j y Hc Hd hj x2 yy => ?_⟩
        obtain ⟨ev2, eh2⟩ := S2.yld j Hc y Hd x2 hj yy
        subst ev2 eh2
        walk_at "e"
        intro t ht
        refine ⟨t, _, rfl, .inr upd_same, rfl, rfl, ?_⟩
        refine ⟨x2.trans (Ext.add ht), ?_⟩
        have hb := (ok2 _ (rw_mem hir)).2 _ (gt_mem hj)
        have : gt (rw S i) j = 0 ∨ gt (rw S i) j = 1 := by omega
        rcases this with q | q
        · show V.bl (!inV (vi (gt (rw S i) j)) [.int 0, .int 1]) = _
          rw [q]; rfl
        · show V.bl (!inV (vi (gt (rw S i) j)) [.int 0, .int 1]) = _
          rw [q]; rfl
      · walk_at "e"
        exact k H' (x1.trans x2)
theorem drop_rw {S : List (List Nat)} {i : Nat} (h : i < S.length) : S.drop i = rw S i :: S.drop (i + 1) := by
  rw [List.drop_eq_getElem_cons h]
  unfold rw
  rw [List.getD_eq_getElem?_getD, List.getElem?_eq_getElem h]; rfl
theorem drop_tail {S : List (List Nat)} {i : Nat} (h : i + 1 < S.length) : S.tail.drop i = rw S (i + 1) :: S.tail.drop (i + 1) := by
  cases S with
  | nil => simp at h
  | cons s S => exact drop_rw (S := S) (by simpa using h)
theorem src_enumR {W : List Addr} {H : Hp} {a : Addr} {as : List Addr} (e : H a = some (.lst (as.map V.ref))) (hw : a ∉ W) : Src (Ite K a) as.length W H (YP vi fun i => .ref (ag as i)) := by
  have S := src_enum (K := K) e hw
  rw [List.length_map] at S
  exact ⟨S.go, S.stop, fun i H1 v H2 x h y => by
    obtain ⟨T, e1, e2, e3⟩ := S.yld i H1 v H2 x h y
    exact ⟨T, e1, e2, by rw [e3]; dsimp only; rw [List.getD_eq_getElem?_getD, List.getElem?_map, some_ag h]; rfl⟩⟩
theorem drop_len (S : List (List Nat)) : S.drop S.length = [] := List.drop_length
/-! Net.way -/
abbrev s_Net_way : Stmt := inClass (top 14) 5
theorem sc_Net_way : FnScope ["self", "settings", "gate", "place", "found", "stage", "row"] ["self", "settings", "gate"] (defScope s_Net_way) := ⟨rfl, rfl, rfl, by decide +kernel, rfl, by decide +kernel, by decide +kernel⟩
def spWay (C PK : Addr) : Sp := fun vs H Q _ => ∃ (p n sl g : Nat) (rows S : List (List Nat)), vs = [.ref p, .ref sl, vi g] ∧ NetAt C H p n rows ∧ SetAt H sl S ∧ SetOk n rows S ∧ n ≤ 1000 ∧ rows.length ≤ 1000 ∧ n % 2 = 0 ∧ (∀ r ∈ rows, PermL n r) ∧ g < n ∧ GxR.TabG H PK ∧
  ∀ q H', Ext [] H H' → H' q = some (.tup ((gt (rows.headD []) g :: run rows.tail S (gt (rows.headD []) g)).map vi)) → Q (.ref q) H'
theorem ok_way {f C PK : Addr} {fd : FuncData} (F : Fun K "way" "Net.way" s_Net_way f fd) (B : Bts mg) (T_Net : ClF K C ["many", "wires"])
    (M_Net_check : MtF P w K mg base C "check" 4 ["self", "settings"] (spNetK C PK)) : FnOk P w K mg base CX0 5 f fd ["self", "settings", "gate"] (spWay C PK) := by
  refine F.ok sc_Net_way (fun vs H Q E h => ?_) (fun cdv A outer s H vs Q E hr h => ?_)
  · obtain ⟨p, n, sl, g, rows, S, rfl, _⟩ := h
    rfl
  · obtain ⟨p, n, sl, g, rows, S, rfl, N, hS, ok, hn, hrl, hne, hp, hg, tk, k⟩ := h
    obtain ⟨dx, wl, as, n1, n2, n3⟩ := id N
    obtain ⟨ok1, ok2⟩ := id ok
    refine ⟨_, (pss_cons (ps_expr (pm_call M_Net_check (hr.mono (by omega)) (pv 0) (pa_cons (pv 1) pa_nil)))
      (pss_cons (ps_set (i := 3) sc_Net_way.nd rfl (Or.inl rfl) (pe_ix ixT (pe_ix ixL (fldC T_Net (by decide +kernel) (pv 0) rfl) pe_int (fun _ _ => rfl)) (pv 2) (fun _ _ => rfl)))
      (pss_cons (ps_set (i := 4) sc_Net_way.nd rfl (Or.inl rfl) (pe_lst (pa_cons (pv 3) pa_nil)))
      (pss_cons (ps_for PassesOwn.never rfl (pi_enum (by rfl) B.enumerate (pa_cons (pv 1) pa_nil)) (pg_tupK (n := 2) K rfl rfl (pgs_cons (pg_name (i := 5) sc_Net_way.nd rfl (by first | exact Or.inl rfl | exact Or.inr rfl)) (pgs_cons (pg_name (i := 6) sc_Net_way.nd rfl (by first | exact Or.inl rfl | exact Or.inr rfl)) pgs_nil))) (pss_cons (ps_if (pt_cmpR op_eq (pe_ix ixL (pv 6) (pe_op op_fdiv (pv 3) pe_int) (fun _ _ => rfl)) pe_int (nomark _)) (pss_one (ps_set (i := 3) sc_Net_way.nd rfl (Or.inl rfl) (pe_op op_sub (pe_op op_add (pv 3) pe_int) (pe_op op_mul pe_int (pe_op op_mod (pv 3) pe_int))))) pss_nil)
      (pss_cons (ps_set (i := 3) sc_Net_way.nd rfl (Or.inl rfl) (pe_ix ixT (pe_ix ixL (fldC T_Net (by decide +kernel) (pv 0) rfl) (pe_op op_add (pv 5) pe_int) (fun _ _ => rfl)) (pv 3) (fun _ _ => rfl)))
      (pss_one (ps_expr (bmK K rfl PySem.F.plainAttrs_list PySem.F.slot_list_append PySem.F.type_list_append mt_append (pv 4) (pa_cons (pv 3) pa_nil)))))))
      (pss_one (ps_ret (tupL (by rfl) B.tuple (pv 4)))))))), ?_⟩
    walk_at "e"
    refine ⟨p, dx, _, rfl, n1, nf_no _ _ (by decide +kernel) (by decide +kernel), ?_⟩
    walk_at "e"
    refine ⟨p, n, sl, rows, S, rfl, N, hS, ok, hn, hrl, tk, fun H1 x1 => ?_⟩
    have p1 := x1.ins n1
    have w1 := x1.lst n2
    have r1 := n3.ext x1
    have hal : as.length = rows.length := n3.len
    have h0 : 0 < rows.length := by omega
    walk_at "e"
    refine ⟨p, dx, _, _, rfl, p1, nf_wires _ _, ?_⟩
    walk_at "e"
    refine ⟨wl, _, 0, _, rfl, rfl, w1, at_ref (i := 0) (by omega) rfl, ?_⟩
    walk_at "e"
    have p0 := hp _ (rw_mem h0)
    refine ⟨ag as 0, _, _, _, rfl, rfl, r1.at_ 0 h0, at_vi (i := g) (by rw [p0.len]; exact hg) rfl, ?_⟩
    walk_at "e"
    intro fl hfl
    have hrow0 : rows.headD [] = rw rows 0 := by cases rows <;> rfl
    rw [hrow0] at k
    generalize hH2 : upd H1 fl _ = H2
    have x2 : Ext [] H1 H2 := by rw [← hH2]; exact Ext.add hfl
    have f2 := (congrFun hH2.symm fl).trans upd_same
    obtain ⟨ss, s1, s2⟩ := (hS.ext x1).ex
    have s1' := x2.lst s1
    have hsl : ss.length = S.length := s2.len
    walk_at "e"
    refine for_any (src_enumR (W := []) s1 (by simp)) (fun i σ H' => Ext [] H1 H' ∧ ∃ o5 o6 place done, place < n ∧ σ = [some (.ref p), some (.ref sl), some (vi g), some (vi place), some (.ref fl), o5, o6] ∧ H' fl = some (.lst (done.map vi)) ∧ done.length = i + 1 ∧
      gt (rw rows 0) g :: run rows.tail S (gt (rw rows 0) g) = done ++ run (rows.tail.drop i) (S.drop i) place) ⟨x2, none, none, gt (rw rows 0) g, [gt (rw rows 0) g], p0.lt g hg, rfl, f2, rfl, rfl⟩ (fun i σ H' h => h.1) ?_ ?_
    · rintro i v σ H' H'' hi ⟨x, o5, o6, place, done, hpl, rfl, hf, hlen, hd⟩ ⟨T, rfl, hT, rfl⟩
      generalize hH3 : upd H' T _ = H3
      have x3' : Ext [] H' H3 := by rw [← hH3]; exact Ext.add hT
      have x3 := x.trans x3'
      have t3 := (congrFun hH3.symm T).trans upd_same
      have f3 := x3'.lst hf
      have p3 := x3.ins p1
      have w3 := x3.lst w1
      have r3 := r1.ext x3
      have hir : i < S.length := by omega
      have s3 := (s2.ext x3).at_ i hir
      have e1 : rows.tail.drop i = rw rows (i + 1) :: rows.tail.drop (i + 1) := drop_tail (by omega)
      have e2 : S.drop i = rw S i :: S.drop (i + 1) := drop_rw hir
      have pr := hp _ (rw_mem (i := i + 1) (by omega))
      have hsw : swp (rw S i) place < n := swp_lt hne hpl
      walk_at "e"
      have hrl2 := (ok2 _ (rw_mem hir)).1
      refine ⟨ag ss i, _, _, _, rfl, rfl, s3, at_vi (i := place / 2) (by rw [hrl2]; omega) (by omega), ?_⟩
      walk_at "e"
      refine ifB (fun hb => ?_) (fun hb => ?_)
      · have hb := V.int.inj (of_decide_eq_true hb)
        have hb2 : gt (rw S i) (place / 2) = 1 := by omega
        have he : (place : Int) + 1 - 2 * ((place : Int) % 2) = ((swp (rw S i) place : Nat) : Int) := by
          rw [pt_int]; unfold swp; rw [if_pos hb2]
        walk_at "e"
        refine ⟨p, dx, _, _, rfl, p3, nf_wires _ _, ?_⟩
        walk_at "e"
        refine ⟨wl, _, _, _, rfl, rfl, w3, at_ref (i := i + 1) (by omega) (by push_cast; rfl), ?_⟩
        walk_at "e"
        refine ⟨ag as (i + 1), _, _, _, rfl, rfl, r3.at_ (i + 1) (by omega), at_vi (i := swp (rw S i) place) (by rw [pr.len]; exact hsw) he, ?_⟩
        walk_at "e"
        refine ⟨fl, _, _, rfl, rfl, f3, sl_lt (by simp; omega), ?_⟩
        refine ⟨x3.wr (.inl hfl) f3 nt_lst, _, _, gt (rw rows (i + 1)) (swp (rw S i) place), done ++ [gt (rw rows (i + 1)) (swp (rw S i) place)], pr.lt _ hsw, rfl, by rw [upd_same, List.map_append]; rfl, by simp; omega, ?_⟩
        rw [hd, e1, e2]
        simp [run]
      · have hb := of_decide_eq_false hb
        have hb2 : ¬ gt (rw S i) (place / 2) = 1 := fun z => hb (by rw [z]; rfl)
        have he : (place : Int) = ((swp (rw S i) place : Nat) : Int) := by
          unfold swp; rw [if_neg hb2]
        walk_at "e"
        refine ⟨p, dx, _, _, rfl, p3, nf_wires _ _, ?_⟩
        walk_at "e"
        refine ⟨wl, _, _, _, rfl, rfl, w3, at_ref (i := i + 1) (by omega) (by push_cast; rfl), ?_⟩
        walk_at "e"
        refine ⟨ag as (i + 1), _, _, _, rfl, rfl, r3.at_ (i + 1) (by omega), at_vi (i := swp (rw S i) place) (by rw [pr.len]; exact hsw) he, ?_⟩
        walk_at "e"
        refine ⟨fl, _, _, rfl, rfl, f3, sl_lt (by simp; omega), ?_⟩
        refine ⟨x3.wr (.inl hfl) f3 nt_lst, _, _, gt (rw rows (i + 1)) (swp (rw S i) place), done ++ [gt (rw rows (i + 1)) (swp (rw S i) place)], pr.lt _ hsw, rfl, by rw [upd_same, List.map_append]; rfl, by simp; omega, ?_⟩
        rw [hd, e1, e2]
        simp [run]
    · rintro σ H' ⟨x, o5, o6, place, done, hpl, rfl, hf, hlen, hd⟩
      walk_at "e"
      intro q hq
      refine k q _ ((x1.trans x).trans (Ext.add hq)) ?_
      rw [upd_same, hd, hsl, drop_len S]
      have : run (rows.tail.drop S.length) [] place = [] := by cases rows.tail.drop S.length <;> rfl
      rw [this, List.append_nil]
end
end CL
set_option Elab.async false
set_option linter.all false
set_option maxRecDepth 100000
set_option maxHeartbeats 4000000
namespace CL
open PySem PySem.Spec PyProof.Rows L2 RX

local macro_rules | `(tactic| walk_at "e") => `(tactic| (repeat (first
  | refine ⟨_, rfl, ?_⟩
  | refine ⟨_, _, rfl, rfl, ?_⟩
  | refine ⟨_, _, rfl, rfl, (by first | decide | omega | (dsimp only; omega)), ?_⟩
  | refine ⟨_, _, rfl, rfl, cmul1 (by omega), ?_⟩
  | refine ⟨_, _, rfl, rfl, cmul2 (by omega), ?_⟩
  | refine ⟨_, _, rfl, rfl, ⟨by omega, by omega⟩, ?_⟩
  | refine ⟨_, _, rfl, ‹_›, ?_⟩
  | refine ⟨_, _, _, _, rfl, rfl, ‹_›, at_vi (by assumption) rfl, ?_⟩
  | refine ⟨_, _, rfl, SqT.of ‹_›, rfl, ?_⟩
  | refine ⟨_, _, rfl, SqT.of ‹_›, ?_⟩
  | refine ⟨_, _, rfl, SqL.of ‹_›, ?_⟩
  | refine And.intro rfl ?_
  | refine ⟨_, _, rfl, ?_⟩
  | refine And.intro (by first | decide | omega | (dsimp only; omega)) ?_
  | refine And.intro (cmul1 (by omega)) ?_
  | refine And.intro (cmul2 (by omega)) ?_
  | refine And.intro ⟨by omega, by omega⟩ ?_
  | refine And.intro ⟨_, SqT.of ‹_›⟩ ?_
  | refine And.intro ⟨_, SqL.of ‹_›⟩ ?_
  | refine And.intro (Or.inl ⟨rfl, _, SqL.of ‹_›⟩) ?_
  | refine And.intro sz0 ?_
  | refine And.intro sz1 ?_
  | refine And.intro sz2 ?_
  | refine And.intro sz3 ?_
  | refine yesT ?_)))
section
variable {P : Program} {w : World} {K : PySem.W.Frag} {mg : Str → Option Value} {base : Heap}
/-- settings, all of it new to H0 -/
structure SetNew (H0 H : Hp) (p : Addr) (S : List (List Nat)) : Prop where
  ex : ∃ as : List Addr, H0 p = none ∧ H p = some (.lst (as.map V.ref)) ∧ as.length = S.length ∧ ∀ i, i < S.length → H0 (ag as i) = none ∧ H (ag as i) = some (.lst ((rw S i).map vi))
theorem SetNew.set {H0 H : Hp} {p : Addr} {S : List (List Nat)} (s : SetNew H0 H p S) : SetAt H p S := by
  obtain ⟨as, _, h1, h2, h3⟩ := s.ex
  exact ⟨as, h1, h2, fun i h => (h3 i h).2⟩
theorem SetNew.ext {H0 H H' : Hp} {p : Addr} {S : List (List Nat)} (s : SetNew H0 H p S) (x : Ext [] H H') : SetNew H0 H' p S := by
  obtain ⟨as, h0, h1, h2, h3⟩ := s.ex
  exact ⟨as, h0, x.lst h1, h2, fun i h => ⟨(h3 i h).1, x.lst (h3 i h).2⟩⟩
theorem SetNew.old {H0 H1 H : Hp} {p : Addr} {S : List (List Nat)} (s : SetNew H1 H p S) (x : ∀ a, H1 a = none → H0 a = none) : SetNew H0 H p S := by
  obtain ⟨as, h0, h1, h2, h3⟩ := s.ex
  exact ⟨as, x _ h0, h1, h2, fun i h => ⟨x _ (h3 i h).1, (h3 i h).2⟩⟩
theorem SetNew.upd {H0 H : Hp} {p D : Addr} {S : List (List Nat)} {o : HO} (s : SetNew H0 H p S) (hD : H0 D ≠ none) : SetNew H0 (L2.upd H D o) p S := by
  obtain ⟨as, h0, h1, h2, h3⟩ := s.ex
  exact ⟨as, h0, by rw [upd_ne (fun z => hD (by rw [← z]; exact h0))]; exact h1, h2, fun i h => ⟨(h3 i h).1, by rw [upd_ne (fun z => hD (by rw [← z]; exact (h3 i h).1))]; exact (h3 i h).2⟩⟩
def spSet (PC j : Nat) : Sp := fun vs H Q _ => ∃ (a : Addr) (l : List (Option Nat)), vs = [.ref a] ∧ H a = some (.tup (l.map vo)) ∧ PP (2 ^ (j + 1)) l ∧ j ≤ 7 ∧ GxR.TabG H PC ∧
  ∀ f S q H', Fills (2 ^ (j + 1)) l f → IsSet j f S → Ext [] H H' → SetNew H H' q S → Q (.ref q) H'
theorem refs_of2 {G : Nat → Addr → Prop} : ∀ {is : List Nat} {ys : List V}, Paired (fun i y => ∃ t, y = V.ref t ∧ G i t) is ys → ∃ ts : List Addr, ys = ts.map V.ref ∧ Paired (fun i t => G i t) is ts
  | _, _, .nil => ⟨[], rfl, .nil⟩
  | _, _, .cons ⟨t, e, h⟩ r => by
    obtain ⟨ts, e2, h2⟩ := refs_of2 r
    exact ⟨t :: ts, by rw [e, e2]; rfl, .cons h h2⟩
theorem paired_at {α β : Type} {F : α → β → Prop} : ∀ {xs : List α} {ys : List β}, Paired F xs ys → ∀ {i : Nat} {x : α}, xs[i]? = some x → ∃ y, ys[i]? = some y ∧ F x y
  | _, _, .nil, i, x, h => by cases h
  | _, _, .cons r t, 0, x, h => by
    have e := Option.some.inj h
    subst e
    exact ⟨_, rfl, r⟩
  | _, _, .cons r t, i + 1, x, h => paired_at t h
theorem src_zipR {W : List Addr} {H : Hp} {a b : Addr} {as bs : List Addr} (e : H a = some (.lst (as.map V.ref))) (e' : H b = some (.lst (bs.map V.ref))) (hw : a ∉ W) (hw' : b ∉ W) (hl : as.length = bs.length) :
    Src (Itz K a b) as.length W H (YP (fun i => .ref (ag as i)) fun i => .ref (ag bs i)) := by
  have S := src_zip (K := K) e e' hw hw' (by simp [hl])
  rw [List.length_map] at S
  exact ⟨S.go, S.stop, fun i H1 v H2 x h y => by
    obtain ⟨T, e1, e2, e3⟩ := S.yld i H1 v H2 x h y
    exact ⟨T, e1, e2, by
      rw [e3]; dsimp only
      rw [List.getD_eq_getElem?_getD, List.getElem?_map, some_ag h, List.getD_eq_getElem?_getD, List.getElem?_map, some_ag (by omega)]; rfl⟩⟩
abbrev s_settings_for : Stmt := top 22
theorem sc_settings_for : FnScope ["pairs", "full", "many", "half", "first", "back", "last", "inner", "side", "row", "gate", "middle", "place", "upper", "lower"] ["pairs"] (defScope s_settings_for) := ⟨rfl, rfl, rfl, by decide +kernel, rfl, by decide +kernel, by decide +kernel⟩
theorem set_step {f PC j k : Nat} {fd : FuncData} {sp' : Sp} (h4 : 4 ≤ k) (hj : j = 0 ∨ ∃ j', j = j' + 1 ∧ sp' = spSet PC j') (F : Fun K "settings_for" "settings_for" s_settings_for f fd) (B : Bts mg)
    (G_check_pairing : FnF P w K mg base "check_pairing" 4 ["pairs", "many"] (spCheckP PC)) (G_filled : FnF P w K mg base "filled" 1 ["pairs"] spFilled) (G_logarithm : FnF P w K mg base "logarithm" 1 ["many"] spLog)
    (G_halves_of : FnF P w K mg base "halves_of" 2 ["pairs"] spHalf) (G_turned_over : FnF P w K mg base "turned_over" 1 ["pairs"] spTurn) (G_settings_for : FnF P w K mg base "settings_for" k ["pairs"] sp') :
    FnOk P w K mg base CX0 (k + 1) f fd ["pairs"] (spSet PC j) := by
  refine F.ok sc_settings_for (fun vs H Q E h => ?_) (fun cdv A outer s H vs Q E hr h => ?_)
  · obtain ⟨a, l, rfl, _⟩ := h
    rfl
  · obtain ⟨a, l, rfl, e, hp, hj7, tc, k⟩ := h
    have hn : 2 ^ (j + 1) ≤ 1000 := Nat.le_trans (Nat.pow_le_pow_right (by omega) (show j + 1 ≤ 8 by omega)) (by decide)
    have he2 : 2 ^ (j + 1) = 2 * 2 ^ j := by rw [Nat.pow_succ]; omega
    refine ⟨_, (pss_cons (ps_set (i := 1) sc_settings_for.nd rfl (Or.inl rfl) (pf_call G_filled (hr.mono (by omega)) (by rfl) (pa_cons (pf_call G_check_pairing (hr.mono (by omega)) (by rfl) (pa_cons (pv 0) (pa_cons (pe_callB lenT (by rfl) B.len PySem.boot_len (pa_cons (pv 0) pa_nil)) pa_nil))) pa_nil)))
      (pss_cons (ps_set (i := 2) sc_settings_for.nd rfl (Or.inl rfl) (pe_callB lenT (by rfl) B.len PySem.boot_len (pa_cons (pv 1) pa_nil)))
      (pss_cons (ps_if (pt_cmpR op_eq (pv 2) pe_int (nomark _)) (pss_one (ps_ret (pe_lst (pa_cons (pe_lst (pa_cons (pe_ix ixT (pv 1) pe_int (fun _ _ => rfl)) pa_nil)) pa_nil)))) pss_nil)
      (pss_cons (ps_if (pt_cmpR op_lt (pf_call G_logarithm (hr.mono (by omega)) (by rfl) (pa_cons (pv 2) pa_nil)) pe_int (nomark _)) (pss_one ps_never) pss_nil)
      (pss_cons (ps_set (i := 3) sc_settings_for.nd rfl (Or.inr rfl) (pf_call G_halves_of (hr.mono (by omega)) (by rfl) (pa_cons (pv 1) pa_nil)))
      (pss_cons (ps_setLc (i := 4) (own := [("place", 12)]) (g := (gName 12)) (tt := tYes) rfl sc_settings_for.nd rfl rfl (sw_true rfl rfl rfl (by decide +kernel)) (pi_range1 (by rfl) B.range (pa_cons (pe_op op_fdiv (pv 2) pe_int) pa_nil)) (blkOk_by (N := ["pairs", "full", "many", "half", "first", "back", "last", "inner", "side", "row", "gate", "middle", "place", "upper", "lower"]) (sc := defScope s_settings_for) (by decide +kernel)) (fun _ _ _ _ _ => (pg_name (i := 12) sc_settings_for.nd rfl (by first | exact Or.inl rfl | exact Or.inr rfl))) (fun _ _ _ _ _ => pts_nil) (fun _ _ _ _ _ => (pe_ix ixT (pv 3) (pe_op op_mul pe_int (pv 12)) (fun _ _ => rfl))))
      (pss_cons (ps_set (i := 5) sc_settings_for.nd rfl (Or.inr rfl) (pf_call G_turned_over (hr.mono (by omega)) (by rfl) (pa_cons (pv 1) pa_nil)))
      (pss_cons (ps_setLc (i := 6) (own := [("place", 12)]) (g := (gName 12)) (tt := tYes) rfl sc_settings_for.nd rfl rfl (sw_true rfl rfl rfl (by decide +kernel)) (pi_range1 (by rfl) B.range (pa_cons (pe_op op_fdiv (pv 2) pe_int) pa_nil)) (blkOk_by (N := ["pairs", "full", "many", "half", "first", "back", "last", "inner", "side", "row", "gate", "middle", "place", "upper", "lower"]) (sc := defScope s_settings_for) (by decide +kernel)) (fun _ _ _ _ _ => (pg_name (i := 12) sc_settings_for.nd rfl (by first | exact Or.inl rfl | exact Or.inr rfl))) (fun _ _ _ _ _ => pts_nil) (fun _ _ _ _ _ => (pe_ix ixT (pv 3) (pe_ix ixT (pv 5) (pe_op op_mul pe_int (pv 12)) (fun _ _ => rfl)) (fun _ _ => rfl))))
      (pss_cons (ps_set (i := 7) sc_settings_for.nd rfl (Or.inl rfl) (pe_lst pa_nil))
      (pss_cons (ps_for PassesOwn.never rfl (pi_range1 (by rfl) B.range (pa_cons pe_int pa_nil)) (pg_name (i := 8) sc_settings_for.nd rfl (by first | exact Or.inl rfl | exact Or.inr rfl)) (pss_cons (ps_set (i := 9) sc_settings_for.nd rfl (Or.inl rfl) (pe_op op_rep (pe_lst (pa_cons pe_non pa_nil)) (pe_op op_fdiv (pv 2) pe_int)))
      (pss_cons (ps_for PassesOwn.never rfl (pi_range1 (by rfl) B.range (pa_cons (pv 2) pa_nil)) (pg_name (i := 10) sc_settings_for.nd rfl (by first | exact Or.inl rfl | exact Or.inr rfl)) (pss_one (ps_if (pt_cmpR op_eq (pe_ix ixT (pv 3) (pv 10) (fun _ _ => rfl)) (pv 8) (nomark _)) (pss_one (ps_asg (pe_op op_fdiv (pe_ix ixT (pv 1) (pv 10) (fun _ _ => rfl)) pe_int) (pg_sub (pv 9) (pe_op op_fdiv (pv 10) pe_int) set_list))) pss_nil)))
      (pss_one (ps_expr (bmK K rfl PySem.F.plainAttrs_list PySem.F.slot_list_append PySem.F.type_list_append mt_append (pv 7) (pa_cons (pf_call G_settings_for (hr.mono (by omega)) (by rfl) (pa_cons (tupL (by rfl) B.tuple (pv 9)) pa_nil)) pa_nil)))))))
      (pss_cons (ps_setLc (i := 11) (own := [("upper", 13), ("lower", 14)]) (g := _) (tt := tYes) rfl sc_settings_for.nd rfl rfl (sw_true rfl rfl rfl (by decide +kernel)) (pi_zip (by rfl) B.zip (pa_cons (pe_ix ixL (pv 7) pe_int (fun _ _ => rfl)) (pa_cons (pe_ix ixL (pv 7) pe_int (fun _ _ => rfl)) pa_nil))) (blkOk_by (N := ["pairs", "full", "many", "half", "first", "back", "last", "inner", "side", "row", "gate", "middle", "place", "upper", "lower"]) (sc := defScope s_settings_for) (by decide +kernel)) (fun _ _ _ _ _ => (pg_tupK (n := 2) K rfl rfl (pgs_cons (pg_name (i := 13) sc_settings_for.nd rfl (by first | exact Or.inl rfl | exact Or.inr rfl)) (pgs_cons (pg_name (i := 14) sc_settings_for.nd rfl (by first | exact Or.inl rfl | exact Or.inr rfl)) pgs_nil)))) (fun _ _ _ _ _ => pts_nil) (fun _ _ _ _ _ => (pe_op op_cat (pv 13) (pv 14))))
      (pss_one (ps_ret (pe_op op_cat (pe_op op_cat (pe_lst (pa_cons (pv 4) pa_nil)) (pv 11)) (pe_lst (pa_cons (pv 6) pa_nil)))))))))))))))), ?_⟩
    generalize hnn : 2 ^ (j + 1) = n at *
    have hz : (((l.map vo).length : Nat) : Int) = (n : Int) := by rw [List.length_map, hp.len]
    walk_at "e"
    refine ⟨a, n, l, by rw [hz]; rfl, e, hp, hn, tc, fun H0 x0 => ?_⟩
    have e0 := x0.tup e
    walk_at "e"
    refine ⟨a, n, l, rfl, e0, hp, hn, fun full fa H1 hfill x01 f1 => ?_⟩
    have x1 := x0.trans x01
    have hpf := hfill.perm
    walk_at "e"
    refine ifB (fun hb => ?_) (fun hb => ?_)
    · have hb := V.int.inj (of_decide_eq_true hb)
      have hn2 : n = 2 := by rw [List.length_map, hpf.len] at hb; omega
      have hj0 : j = 0 := by
        rcases j with _ | j
        · rfl
        · have : 2 ^ (j + 1) = 2 * 2 ^ j := by rw [Nat.pow_succ]; omega
          have := Nat.two_pow_pos j
          omega
      subst hj0
      walk_at "e"
      refine ⟨fa, _, _, _, rfl, rfl, f1, at_vi (i := 0) (by rw [hpf.len]; omega) rfl, ?_⟩
      walk_at "e"
      intro p1 hp1
      walk_at "e"
      intro p2 hp2
      have np : p1 ≠ p2 := fun z => by rw [← z, upd_same] at hp2; cases hp2
      have y1 : Ext [] H (upd H1 p1 (.lst [vi (gt full 0)])) := x1.trans (Ext.add hp1)
      refine k full [[gt full 0]] p2 _ hfill rfl (y1.trans (Ext.add hp2)) ⟨[p1], y1.dom _ hp2, upd_same, rfl, fun i hi => ?_⟩
      have : i = 0 := by simp at hi; omega
      subst this
      refine ⟨x1.dom _ hp1, ?_⟩
      show upd (upd H1 p1 (.lst [vi (gt full 0)])) p2 (.lst [.ref p1]) p1 = _
      rw [upd_ne np, upd_same]
      rfl
    · have hb := of_decide_eq_false hb
      have hn2 : n ≠ 2 := fun z => hb (by rw [List.length_map, hpf.len, z]; rfl)
      obtain ⟨j', rfl, rfl⟩ : ∃ j', j = j' + 1 ∧ sp' = spSet PC j' := by
        rcases hj with h | h
        · subst h; exact absurd hnn (by omega)
        · exact h
      generalize hmm : 2 ^ (j' + 1) = m at *
      have hfl : full.length = n := hpf.len
      have hfz : (((full.map vi).length : Nat) : Int) = (n : Int) := by rw [List.length_map, hfl]
      have hfm : ((((full.map vi).length : Nat) : Int) / 2).toNat = m := by rw [hfz]; omega
      have hm2 : n = 2 * m := he2
      walk_at "e"
      refine ⟨j' + 2, by rw [hnn]; show [V.int _] = [V.int _]; rw [hfz], by omega, fun H2 x12 => ?_⟩
      have x2 := x1.trans x12
      have f2 := x12.tup f1
      walk_at "e"
      refine ⟨fa, n, full, rfl, f2, hpf, by omega, hn, fun hf ha H3 hh x23 h3 => ?_⟩
      have x3 := x2.trans x23
      have f3 := x23.tup f2
      walk_at "e"
      -- first
      intro D1 hD1
      rw [hfm]
      have lhf : hf.length = n := hh.len
      refine lc_all hD1 src_rngN (fun i => vi (gt hf (2 * i))) (by omega) (fun i v Ha Hb Kt hi x ⟨ev, eh⟩ kt => ?_) (fun v σ H Q Q' i h => i _ _ h) fun H4 y1 x34 e4 => ?_
      · subst ev eh
        have g3 := x.tup h3
        walk_at "e"
        refine ⟨ha, _, _, _, rfl, rfl, g3, at_vi (i := 2 * i) (by omega) (by push_cast; rfl), ?_⟩
        exact kt _ Ext.refl
      have x4 := x3.trans x34
      have f4 := x34.tup f3
      have h4' := x34.tup h3
      walk_at "e"
      refine ⟨fa, n, full, rfl, f4, hpf, hn, fun r ba H5 hinv x45 b5 => ?_⟩
      have x5 := x4.trans x45
      have f5 := x45.tup f4
      have h5 := x45.tup h4'
      have e5 := x45.lst e4
      walk_at "e"
      -- last
      intro D2 hD2
      rw [hfm]
      refine lc_all hD2 src_rngN (fun i => vi (gt hf (gt r (2 * i)))) (by omega) (fun i v Ha Hb Kt hi x ⟨ev, eh⟩ kt => ?_) (fun v σ H Q Q' i h => i _ _ h) fun H6 y2 x56 e6 => ?_
      · subst ev eh
        have g5 := x.tup h5
        have b6 := x.tup b5
        walk_at "e"
        refine ⟨ba, _, _, _, rfl, rfl, b6, at_vi (i := 2 * i) (by rw [hinv.len]; omega) (by push_cast; rfl), ?_⟩
        walk_at "e"
        refine ⟨ha, _, _, _, rfl, rfl, g5, at_vi (i := gt r (2 * i)) (by rw [lhf]; exact (hinv.back hpf _ (by omega)).1) rfl, ?_⟩
        exact kt _ Ext.refl
      have x6 := x5.trans x56
      have f6 := x56.tup f5
      have h6 := x56.tup h5
      have e6' := x56.lst e5
      have c6 := x6.tab _ tc
      have n1 : H D1 = none := x3.dom _ hD1
      have n2 : H D2 = none := x5.dom _ hD2
      walk_at "e"
      intro inn hin
      have n3 : H inn = none := x6.dom _ hin
      generalize hH7 : upd H6 inn _ = H7
      have x67 : Ext [] H6 H7 := by rw [← hH7]; exact Ext.add hin
      have x7 := x6.trans x67
      have i7 := (congrFun hH7.symm inn).trans upd_same
      walk_at "e"
      have hmE : m % 2 = 0 ∨ True := .inr trivial
      refine for_any (src_rngN (n := 2)) (W := []) (Hs := H6) (fun i σ H' => Ext [] H6 H' ∧ (∀ b, H' b = none → H7 b = none) ∧ ∃ (o8 o9 o10 o11 o12 o13 o14 : Option V) (qs : List Addr) (Ss : List (List (List Nat))),
        σ = [some (.ref a), some (.ref fa), some (.int (((full.map vi).length : Nat) : Int)), some (.ref ha), some (.ref D1), some (.ref ba), some (.ref D2), some (.ref inn), o8, o9, o10, o11, o12, o13, o14] ∧
        H' inn = some (.lst (qs.map V.ref)) ∧ qs.length = i ∧ ∀ t, t < i → SetNew H7 H' (ag qs t) (Ss.getD t []) ∧ ∃ ls, SubL m t full hf ls ∧ IsSet j' ls (Ss.getD t []))
        ⟨x67, fun _ h => h, none, none, none, none, none, none, none, [], [], rfl, i7, rfl, fun t h => absurd h (Nat.not_lt_zero t)⟩ (fun i σ H' h => h.1) ?_ ?_
      · rintro i v σ H' H'' hi ⟨x, hdom, o8, o9, o10, o11, o12, o13, o14, qs, Ss, rfl, hinn, hql, hall⟩ ⟨rfl, rfl⟩
        walk_at "e"
        intro u hu
        generalize hH8 : upd H'' u _ = H8
        have z1 : Ext [] H'' H8 := by rw [← hH8]; exact Ext.add hu
        have u8 := (congrFun hH8.symm u).trans upd_same
        walk_at "e"
        refine ⟨u, _, _, rfl, rfl, u8, by omega, by omega, by rw [hfm]; simp; exact sl_of (by omega), fun ra hra => ?_⟩
        rw [hfm, rep_tab]
        generalize hH9 : upd H8 ra _ = H9
        have z2 : Ext [] H'' H9 := by rw [← hH9]; exact z1.trans (Ext.add hra)
        have nra : H'' ra = none := z1.dom _ hra
        have r9 := (congrFun hH9.symm ra).trans upd_same
        have hfn : (((full.map vi).length : Nat) : Int).toNat = n := by rw [hfz]; omega
        walk_at "e"
        rw [hfn]
        refine for_any (src_rngN (n := n)) (W := []) (Hs := H'') (fun g σ H' => Ext [] H'' H' ∧ ∃ (o10 : Option V) (F : Nat → V),
          σ = [some (.ref a), some (.ref fa), some (.int (((full.map vi).length : Nat) : Int)), some (.ref ha), some (.ref D1), some (.ref ba), some (.ref D2), some (.ref inn), some (vi i), some (.ref ra), o10, o11, o12, o13, o14] ∧
          H' ra = some (.lst (tab m F)) ∧ ∀ g', g' < g → gt hf g' = i → F (g' / 2) = vi (gt full g' / 2))
          ⟨z2, o10, _, rfl, r9, fun g h => absurd h (Nat.not_lt_zero g)⟩ (fun i σ H' h => h.1) ?_ ?_
        · rintro g v σ Ha Hb hg ⟨y, o10, F, rfl, hr2, hF⟩ ⟨rfl, rfl⟩
          have w6 := x.trans y
          have hb1 := w6.tup h6
          have fb1 := w6.tup f6
          have hgl : g < full.length := by omega
          walk_at "e"
          refine ⟨ha, _, _, _, rfl, rfl, hb1, at_vi (i := g) (by omega) rfl, ?_⟩
          walk_at "e"
          refine ifB (fun hb => ?_) (fun hb => ?_)
          · have hb := V.int.inj (of_decide_eq_true hb)
            have hgi : gt hf g = i := by omega
            walk_at "e"
            refine ⟨ra, _, _, g / 2, rfl, rfl, hr2, ixN_of (by rw [tab_len]; omega) (by omega), ?_⟩
            refine ⟨y.wr (.inl nra) hr2 nt_lst, _, _, rfl, by rw [upd_same, tab_set], fun g' hg' hgi' => ?_⟩
            have hl := hpf.lt g (by omega)
            have ev : V.int ((gt full g : Nat) / 2 : Int) = vi (gt full g / 2) := congrArg V.int (by omega)
            by_cases c : g' / 2 = g / 2
            · rw [c, fset_same]
              have : g' = g := by
                by_cases q : g' = g
                · exact q
                · exfalso
                  have e1 := pt_of_div c q
                  have := hh.inn g (by omega)
                  rw [← e1, hgi, hgi'] at this
                  omega
              rw [this]
              exact ev
            · rw [fset_ne c]
              exact hF g' (by
                have : g' ≠ g := fun z => c (by rw [z])
                omega) hgi'
          · have hb := of_decide_eq_false hb
            refine ⟨y, _, F, rfl, hr2, fun g' hg' hgi' => ?_⟩
            by_cases c : g' = g
            · subst c
              exact absurd (congrArg V.int (by rw [hgi'])) hb
            · exact hF g' (by omega) hgi'
        · rintro σ Ha ⟨y, o10, F, rfl, hr2, hF⟩
          have hi1 : i ≤ 1 := by omega
          let ls : List Nat := (List.range m).map fun x => match F x with | .int z => z.toNat | _ => 0
          have hls : ∀ x y, x < m → F x = vi y → gt ls x = y := fun x y hx e => by
            show gt ((List.range m).map fun y => match F y with | .int z => z.toNat | _ => 0) x = y
            rw [gt_tab hx, e]
            rfl
          have lls : ls.length = m := by simp [ls]
          have hsub : SubL m i full hf ls := ⟨lls, fun g hg hgi => hls _ _ (by omega) (hF g (by omega) hgi)⟩
          have hpl := sub_perm hm2 hpf hh hi1 hsub
          have etab : tab m F = (ls.map some).map vo := by
            rw [← vs_some, tab_vi, lls]
            refine tab_congr fun x hx => ?_
            obtain ⟨g, hg, e1, e2⟩ := half_at hm2 hh hi1 hx
            have := hF g hg e2
            rw [e1] at this
            rw [hls x _ hx this, this]
          have inn1 := y.lst hinn
          rw [etab] at hr2
          walk_at "e"
          intro tt ht
          generalize hHc : upd Ha tt _ = Hc
          have yc : Ext [] Ha Hc := by rw [← hHc]; exact Ext.add ht
          have tc1 := (congrFun hHc.symm tt).trans upd_same
          have inn2 := yc.lst inn1
          have cc := ((x.trans y).trans yc).tab _ c6
          refine ⟨tt, ls.map some, rfl, tc1, by rw [hmm]; exact pp_of hpl, by omega, cc, fun f' S q Hd hfi hset yd hnew => ?_⟩
          rw [hmm] at hfi
          have ef : f' = ls := ext_gt (by rw [hfi.perm.len, lls]) fun x hx => hfi.at_ x _ (by
            rw [hfi.perm.len] at hx
            rw [List.getElem?_map, some_gt (by omega)]; rfl)
          subst ef
          have inn3 := yd.lst inn2
          walk_at "e"
          refine ⟨inn, _, _, rfl, rfl, inn3, sl_lt (by simp; omega), ?_⟩
          have yall : Ext [] H'' Hd := (y.trans yc).trans yd
          have i7n : H7 inn ≠ none := by rw [i7]; simp
          refine ⟨(x.trans yall).wr (.inl hin) inn3 nt_lst, fun b hb => ?_, _, _, _, _, _, _, _, qs ++ [q], Ss.take i ++ List.replicate (i - Ss.length) [] ++ [S], rfl, by rw [upd_same, List.map_append]; rfl, by simp; omega, fun t ht2 => ?_⟩
          · refine hdom b (yall.dom b ?_)
            by_cases c : b = inn
            · subst c; rw [upd_same] at hb; cases hb
            · rw [upd_ne c] at hb; exact hb
          · have hlenS : (Ss.take i ++ List.replicate (i - Ss.length) ([] : List (List Nat))).length = i := by simp; omega
            by_cases c : t = i
            · subst c
              have e1 : ag (qs ++ [q]) t = q := by
                unfold ag; rw [List.getD_eq_getElem?_getD, List.getElem?_append_right (by omega), hql]; simp
              have e2 : (Ss.take t ++ List.replicate (t - Ss.length) [] ++ [S]).getD t [] = S := by
                rw [List.getD_eq_getElem?_getD, List.getElem?_append_right (by omega), hlenS]; simp
              rw [e1, e2]
              exact ⟨(hnew.old fun b hb => hdom b ((y.trans yc).dom b hb)).upd i7n, ls, hsub, hset⟩
            · have ht3 : t < i := by omega
              have e1 : ag (qs ++ [q]) t = ag qs t := by
                unfold ag; rw [List.getD_eq_getElem?_getD, List.getD_eq_getElem?_getD, List.getElem?_append_left (by omega)]
              have e2 : (Ss.take i ++ List.replicate (i - Ss.length) [] ++ [S]).getD t [] = Ss.getD t [] := by
                rw [List.getD_eq_getElem?_getD, List.getD_eq_getElem?_getD, List.getElem?_append_left (by omega)]
                by_cases q : t < Ss.length
                · rw [List.getElem?_append_left (by simp; omega), List.getElem?_take_of_lt ht3]
                · rw [List.getElem?_append_right (by simp; omega), List.getElem?_eq_none (by omega : Ss.length ≤ t)]
                  rw [List.getElem?_replicate]
                  split <;> rfl
              rw [e1, e2]
              obtain ⟨g1, g2⟩ := hall t ht3
              exact ⟨(g1.ext yall).upd i7n, g2⟩
      · rintro σ H' ⟨x, hdom, o8, o9, o10, o11, o12, o13, o14, qs, Ss, rfl, hinn, hql, hall⟩
        obtain ⟨g0, l0, u0, i0⟩ := hall 0 (by omega)
        obtain ⟨g1, l1, u1, i1⟩ := hall 1 (by omega)
        generalize hS0 : Ss.getD 0 [] = S0 at *
        generalize hS1 : Ss.getD 1 [] = S1 at *
        obtain ⟨as0, a1, a2, a3, a4⟩ := g0.ex
        obtain ⟨as1, b1, b2, b3, b4⟩ := g1.ex
        have sf0 := set_facts j' l0 S0 (by rw [hmm]; exact sub_perm hm2 hpf hh (by omega) u0) i0
        have sf1 := set_facts j' l1 S1 (by rw [hmm]; exact sub_perm hm2 hpf hh (by omega) u1) i1
        have hp2 : 2 ^ j' ≤ 1000 := by
          have : 2 ^ (j' + 1) = 2 * 2 ^ j' := by rw [Nat.pow_succ]; omega
          omega
        walk_at "e"
        refine ⟨inn, _, _, _, rfl, rfl, hinn, at_ref (i := 0) (by omega) rfl, ?_⟩
        walk_at "e"
        refine ⟨inn, _, _, _, rfl, rfl, hinn, at_ref (i := 1) (by omega) rfl, ?_⟩
        walk_at "e"
        refine ⟨_, _, _, _, rfl, SqL.of a2, SqL.of b2, ?_⟩
        intro D3 hD3
        refine lc_any hD3 (src_zipR a2 b2 (by simp) (by simp) (by omega)) (fun _ => true) (fun i y Hx => ∃ t, y = .ref t ∧ H t = none ∧ Hx t = some (.lst ((rw S0 i ++ rw S1 i).map vi))) (by omega) (fun i y Ha Hb ⟨t, e, n, h⟩ xx => ⟨t, e, n, xx.lst h⟩) (fun i v Ha Hb Kt Kf hi y ⟨T, ev, hT, eh⟩ kt kf => ?_) fun Hm ys ya yb em hys => ?_
        · subst ev eh
          have t0 := a4 i (by omega)
          have t1 := b4 i (by omega)
          generalize hHb : upd Ha T _ = Hb at *
          have y2 : Ext [] Ha Hb := by rw [← hHb]; exact Ext.add hT
          have T2 := (congrFun hHb.symm T).trans upd_same
          have v0 := (y.trans y2).lst t0.2
          have v1 := (y.trans y2).lst t1.2
          have c0 := (sf0.2 _ (rw_mem (rows := S0) (i := i) (by omega))).1
          have c1 := (sf1.2 _ (rw_mem (rows := S1) (i := i) (by omega))).1
          walk_at "e"
          refine ⟨_, _, _, _, rfl, rfl, v0, v1, sl_of (by simp; omega), fun t ht => ?_⟩
          have hn0 : H t = none := x6.dom _ (x.dom _ ((y.trans y2).dom _ ht))
          refine kt _ _ rfl (y2.trans (Ext.add ht)) fun D' zs hD' => ⟨t, rfl, hn0, ?_⟩
          rw [hide_ne (fun z => by rw [z, y2.lst hD'] at ht; cases ht), upd_same, List.map_append]
        · rw [filter_true] at hys
          have hys2 : Paired (fun i y => ∃ t, y = V.ref t ∧ (H t = none ∧ Hm t = some (.lst ((rw S0 i ++ rw S1 i).map vi)))) (List.range as0.length) ys := Paired.mapP hys fun i y ⟨t, e, n, h⟩ => ⟨t, e, n, of_hide h⟩
          obtain ⟨ts, ets, hts⟩ := refs_of2 hys2
          subst ets
          have xm := (x6.trans x).trans yb
          have em1 := (x.trans yb).lst e6'
          have em2 := (x.trans yb).lst e6
          walk_at "e"
          intro w1 hw1
          generalize hHn : upd Hm w1 _ = Hn
          have yn : Ext [] Hm Hn := by rw [← hHn]; exact Ext.add hw1
          have w1' := (congrFun hHn.symm w1).trans upd_same
          have emn := yn.lst em
          walk_at "e"
          refine ⟨w1, D3, _, _, rfl, rfl, w1', emn, sl_of (by simp; have := Paired.length hts; simp at this; omega), fun w2 hw2 => ?_⟩
          generalize hHo : upd Hn w2 _ = Ho
          have yo : Ext [] Hn Ho := by rw [← hHo]; exact Ext.add hw2
          have w2' := (congrFun hHo.symm w2).trans upd_same
          walk_at "e"
          intro w3 hw3
          generalize hHp : upd Ho w3 _ = Hp
          have yp : Ext [] Ho Hp := by rw [← hHp]; exact Ext.add hw3
          have w3' := (congrFun hHp.symm w3).trans upd_same
          have w2p := yp.lst w2'
          walk_at "e"
          refine ⟨w2, w3, _, _, rfl, rfl, w2p, w3', sl_of (by simp; have := Paired.length hts; simp at this; omega), fun w4 hw4 => ?_⟩
          have yq : Ext [] Hm Hp := (yn.trans yo).trans yp
          have htl : ts.length = S0.length := by
            have := Paired.length hts
            simp at this
            omega
          have n4 : H w4 = none := xm.dom _ (yq.dom _ hw4)
          have eL : ([V.ref D1] ++ List.map V.ref ts ++ [V.ref D2]) = (D1 :: ts ++ [D2]).map V.ref := by simp
          rw [eL]
          generalize hHq : upd Hp w4 _ = Hq
          have yr : Ext [] Hp Hq := by rw [← hHq]; exact Ext.add hw4
          have w4' := (congrFun hHq.symm w4).trans upd_same
          have f1' := (yq.trans yr).lst em1
          have f2' := (yq.trans yr).lst em2
          have ys2 := yq.trans yr
          have zl : (List.zipWith (· ++ ·) S0 S1).length = S0.length := by simp; omega
          refine k full ([(List.range m).map fun p => gt hf (2 * p)] ++ List.zipWith (· ++ ·) S0 S1 ++ [(List.range m).map fun p => gt hf (gt r (2 * p))]) w4 Hq hfill ?_ (xm.trans ys2) ⟨D1 :: ts ++ [D2], n4, w4', by simp; omega, fun i hi => ?_⟩
          · refine ⟨hf, r, l0, l1, S0, S1, ?_, ?_, ?_, ?_, i0, i1, ?_⟩
            · rw [show 2 ^ (j' + 2) = n from hnn]; exact hh
            · rw [show 2 ^ (j' + 2) = n from hnn]; exact hinv
            · rw [hmm]; exact u0
            · rw [hmm]; exact u1
            · rw [hmm]
          · have hi2 : i < S0.length + 2 := by simp at hi; omega
            rcases i with _ | i
            · refine ⟨n1, ?_⟩
              show Hq D1 = some (.lst (((List.range m).map fun p => gt hf (2 * p)).map vi))
              rw [f1', List.map_map]; rfl
            · by_cases hl : i < S0.length
              · have e1 : ag (D1 :: ts ++ [D2]) (i + 1) = ag ts i := by
                  unfold ag
                  rw [List.cons_append, List.getD_cons_succ, List.getD_eq_getElem?_getD, List.getD_eq_getElem?_getD, List.getElem?_append_left (by omega)]
                have e2 : rw ([(List.range m).map fun p => gt hf (2 * p)] ++ List.zipWith (· ++ ·) S0 S1 ++ [(List.range m).map fun p => gt hf (gt r (2 * p))]) (i + 1) = rw S0 i ++ rw S1 i := by
                  unfold rw
                  rw [List.append_assoc, List.singleton_append, List.getD_cons_succ, List.getD_eq_getElem?_getD, List.getElem?_append_left (by omega), List.getElem?_zipWith,
                    List.getD_eq_getElem?_getD, List.getD_eq_getElem?_getD, List.getElem?_eq_getElem hl, List.getElem?_eq_getElem (by omega : i < S1.length)]
                  rfl
                rw [e1, e2]
                obtain ⟨t, q1, q2, q3⟩ := paired_at hts (i := i) (x := i) (by rw [List.getElem?_range (by omega)])
                have e3 : ag ts i = t := by unfold ag; rw [List.getD_eq_getElem?_getD, q1]; rfl
                rw [e3]
                exact ⟨q2, ys2.lst q3⟩
              · have hie : i = S0.length := by omega
                subst hie
                have e1 : ag (D1 :: ts ++ [D2]) (S0.length + 1) = D2 := by
                  unfold ag
                  rw [List.cons_append, List.getD_cons_succ, List.getD_eq_getElem?_getD, List.getElem?_append_right (by omega), htl]; simp
                have e2 : rw ([(List.range m).map fun p => gt hf (2 * p)] ++ List.zipWith (· ++ ·) S0 S1 ++ [(List.range m).map fun p => gt hf (gt r (2 * p))]) (S0.length + 1) = (List.range m).map fun p => gt hf (gt r (2 * p)) := by
                  unfold rw
                  rw [List.append_assoc, List.singleton_append, List.getD_cons_succ, List.getD_eq_getElem?_getD, List.getElem?_append_right (by omega), zl]; simp
                rw [e1, e2]
                refine ⟨n2, ?_⟩
                rw [f2', List.map_map]; rfl
end
end CL
set_option Elab.async false
set_option linter.all false
set_option maxRecDepth 100000
set_option maxHeartbeats 4000000
namespace CL
open PySem PySem.Spec PyProof.Rows L2 RX

local macro_rules | `(tactic| walk_at "e") => `(tactic| (repeat (first
  | refine ⟨_, rfl, ?_⟩
  | refine ⟨_, _, rfl, rfl, ?_⟩
  | refine ⟨_, _, rfl, rfl, (by first | decide | omega | (dsimp only; omega)), ?_⟩
  | refine ⟨_, _, rfl, rfl, cmul1 (by omega), ?_⟩
  | refine ⟨_, _, rfl, rfl, cmul2 (by omega), ?_⟩
  | refine ⟨_, _, rfl, rfl, ⟨by omega, by omega⟩, ?_⟩
  | refine ⟨_, _, rfl, ‹_›, ?_⟩
  | refine ⟨_, _, _, _, rfl, rfl, ‹_›, at_vi (by assumption) rfl, ?_⟩
  | refine ⟨_, _, rfl, SqT.of ‹_›, rfl, ?_⟩
  | refine ⟨_, _, rfl, SqT.of ‹_›, ?_⟩
  | refine ⟨_, _, rfl, SqL.of ‹_›, ?_⟩
  | refine And.intro rfl ?_
  | refine ⟨_, _, rfl, ?_⟩
  | refine And.intro (by first | decide | omega | (dsimp only; omega)) ?_
  | refine And.intro (cmul1 (by omega)) ?_
  | refine And.intro (cmul2 (by omega)) ?_
  | refine And.intro ⟨by omega, by omega⟩ ?_
  | refine And.intro ⟨_, SqT.of ‹_›⟩ ?_
  | refine And.intro ⟨_, SqL.of ‹_›⟩ ?_
  | refine And.intro (Or.inl ⟨rfl, _, SqL.of ‹_›⟩) ?_
  | refine And.intro sz0 ?_
  | refine And.intro sz1 ?_
  | refine And.intro sz2 ?_
  | refine And.intro sz3 ?_
  | refine yesT ?_)))
section
variable {P : Program} {w : World} {K : PySem.W.Frag} {mg : Str → Option Value} {base : Heap}
theorem Ext.drop {W : List Addr} {H H1 H2 : Hp} (x : Ext [] H H1) (y : Ext W H1 H2) (n : ∀ a ∈ W, H a = none) : Ext [] H H2 :=
  ⟨fun a o e nt _ => y.at_ a o (x.at_ a o e nt (by simp)) nt (fun z => by rw [n a z] at e; cases e), fun P t => y.tab P (x.tab P t), fun a e => x.dom a (y.dom a e)⟩
theorem ag_app1 {as bs : List Addr} {i : Nat} (h : i < as.length) : ag (as ++ bs) i = ag as i := by
  unfold ag; rw [List.getD_eq_getElem?_getD, List.getD_eq_getElem?_getD, List.getElem?_append_left h]
theorem ag_app2 {as bs : List Addr} {i : Nat} (h : as.length ≤ i) : ag (as ++ bs) i = ag bs (i - as.length) := by
  unfold ag; rw [List.getD_eq_getElem?_getD, List.getD_eq_getElem?_getD, List.getElem?_append_right h]
theorem rw_app1 {as bs : List (List Nat)} {i : Nat} (h : i < as.length) : rw (as ++ bs) i = rw as i := by
  unfold rw; rw [List.getD_eq_getElem?_getD, List.getD_eq_getElem?_getD, List.getElem?_append_left h]
theorem rw_app2 {as bs : List (List Nat)} {i : Nat} (h : as.length ≤ i) : rw (as ++ bs) i = rw bs (i - as.length) := by
  unfold rw; rw [List.getD_eq_getElem?_getD, List.getD_eq_getElem?_getD, List.getElem?_append_right h]
theorem RowsT.app {H : Hp} {as bs : List Addr} {rows rows' : List (List Nat)} (r : RowsT H as rows) (r' : RowsT H bs rows') : RowsT H (as ++ bs) (rows ++ rows') := by
  have h1 := r.len
  have h2 := r'.len
  refine ⟨by simp; omega, fun i hi => ?_⟩
  by_cases c : i < rows.length
  · rw [ag_app1 (by omega), rw_app1 c]
    exact r.at_ i c
  · rw [ag_app2 (by omega), rw_app2 (by omega), h1]
    exact r'.at_ _ (by simp at hi; omega)
theorem RowsT.two {H : Hp} {a b : Addr} {r s : List Nat} (h1 : H a = some (.tup (r.map vi))) (h2 : H b = some (.tup (s.map vi))) : RowsT H [a, b] [r, s] := ⟨rfl, fun i hi => match i, hi with
  | 0, _ => h1
  | 1, _ => h2⟩
theorem RowsT.mid {H : Hp} {as : List Addr} {rows : List (List Nat)} (r : RowsT H as rows) : RowsT H as.tail.dropLast rows.tail.dropLast := by
  have h1 := r.len
  refine ⟨by simp; omega, fun i hi => ?_⟩
  have hi2 : i + 2 < rows.length + 0 ∨ i + 2 = rows.length ∨ True := .inr (.inr trivial)
  have hi3 : i < rows.length - 1 - 1 := by simpa using hi
  have e1 : ag as.tail.dropLast i = ag as (i + 1) := by
    unfold ag
    rw [List.getD_eq_getElem?_getD, List.getD_eq_getElem?_getD, List.getElem?_dropLast, if_pos (by simp; omega), List.getElem?_tail]
  have e2 : rw rows.tail.dropLast i = rw rows (i + 1) := by
    unfold rw
    rw [List.getD_eq_getElem?_getD, List.getD_eq_getElem?_getD, List.getElem?_dropLast, if_pos (by simp; omega), List.getElem?_tail]
  rw [e1, e2]
  exact r.at_ _ (by omega)
theorem at_lastR {as : List Addr} (h : 0 < as.length) : atI (as.map V.ref) (-1) = some (.ref (ag as (as.length - 1))) := by
  unfold atI ixN
  rw [if_neg (by omega), if_pos (by simp; omega)]
  have : ((-1 : Int) + ((as.map V.ref).length : Nat)).toNat = as.length - 1 := by simp; omega
  rw [this]
  show (as.map V.ref)[as.length - 1]? = _
  rw [List.getElem?_map, some_ag (by omega)]; rfl
theorem cut_mid {as : List Addr} (h : 2 ≤ as.length) : cutV (as.map V.ref) (some 1) (some (-1)) = as.tail.dropLast.map V.ref := by
  unfold cutV
  rw [List.length_map]
  have h1 : HT.sIx as.length 0 (some 1) = 1 := by
    rw [show (1 : Int) = ((1 : Nat) : Int) from rfl, HT.sIx_nat]; omega
  have h2 : HT.sIx as.length as.length (some (-1)) = as.length - 1 := by
    show (if (-1 : Int) < 0 then ((-1 : Int) + (as.length : Int)).toNat else min (-1 : Int).toNat as.length) = as.length - 1
    rw [if_pos (by omega)]; omega
  rw [h1, h2, List.dropLast_eq_take, List.map_take, List.map_tail, List.length_tail, List.drop_one]
abbrev s_net_of : Stmt := top 19
theorem sc_net_of : FnScope ["many", "inner", "out", "back", "rows", "first", "last", "row", "place"] ["many"] (defScope s_net_of) := ⟨rfl, rfl, rfl, by decide +kernel, rfl, by decide +kernel, by decide +kernel⟩
def spNetOf (C PC PN j : Nat) : Sp := fun vs H Q _ => vs = [vi (2 ^ (j + 1))] ∧ j ≤ 7 ∧ GxR.TabG H PC ∧ GxR.TabG H PN ∧ ∀ p H', Ext [] H H' → NetAt C H' p (2 ^ (j + 1)) (netW j) → Q (.ref p) H'
theorem net_step {f C PC PN j k : Nat} {fd : FuncData} {sp' : Sp} (h6 : 6 ≤ k) (hj : j = 0 ∨ ∃ j', j = j' + 1 ∧ sp' = spNetOf C PC PN j') (F : Fun K "net_of" "net_of" s_net_of f fd) (B : Bts mg) (T_Net : ClF K C ["many", "wires"])
    (G_logarithm : FnF P w K mg base "logarithm" 1 ["many"] spLog) (G_turned_over : FnF P w K mg base "turned_over" 1 ["pairs"] spTurn) (G_plain_wires : FnF P w K mg base "plain_wires" 1 ["many"] spPlain)
    (G_parted_wires : FnF P w K mg base "parted_wires" 1 ["many"] spParted) (G_in_halves : FnF P w K mg base "in_halves" 1 ["one", "other"] spHalves2)
    (K_Net : MkF P w K mg base "Net" C 5 ["self", "many", "wires"] (spNetI C PC PN)) (G_net_of : FnF P w K mg base "net_of" k ["many"] sp') :
    FnOk P w K mg base CX0 (k + 1) f fd ["many"] (spNetOf C PC PN j) := by
  refine F.ok sc_net_of (fun vs H Q E h => ?_) (fun cdv A outer s H vs Q E hr h => ?_)
  · obtain ⟨rfl, _⟩ := h
    rfl
  · obtain ⟨rfl, hj7, tc, tn, k⟩ := h
    have hn : 2 ^ (j + 1) ≤ 1000 := Nat.le_trans (Nat.pow_le_pow_right (by omega) (show j + 1 ≤ 8 by omega)) (by decide)
    have he2 : 2 ^ (j + 1) = 2 * 2 ^ j := by rw [Nat.pow_succ]; omega
    refine ⟨_, (pss_cons (ps_if (pt_cmpR op_lt (pf_call G_logarithm (hr.mono (by omega)) (by rfl) (pa_cons (pv 0) pa_nil)) pe_int (nomark _)) (pss_one ps_never) pss_nil)
      (pss_cons (ps_if (pt_cmpR op_eq (pv 0) pe_int (nomark _)) (pss_one (ps_ret (pk_make K_Net (hr.mono (by omega)) (by rfl) (pa_cons pe_int (pa_cons (pe_lst (pa_cons (pf_call G_plain_wires (hr.mono (by omega)) (by rfl) (pa_cons pe_int pa_nil)) (pa_cons (pf_call G_plain_wires (hr.mono (by omega)) (by rfl) (pa_cons pe_int pa_nil)) pa_nil))) pa_nil))))) pss_nil)
      (pss_cons (ps_set (i := 1) sc_net_of.nd rfl (Or.inl rfl) (pf_call G_net_of (hr.mono (by omega)) (by rfl) (pa_cons (pe_op op_fdiv (pv 0) pe_int) pa_nil)))
      (pss_cons (ps_set (i := 2) sc_net_of.nd rfl (Or.inl rfl) (pf_call G_parted_wires (hr.mono (by omega)) (by rfl) (pa_cons (pv 0) pa_nil)))
      (pss_cons (ps_set (i := 3) sc_net_of.nd rfl (Or.inr rfl) (pf_call G_turned_over (hr.mono (by omega)) (by rfl) (pa_cons (pv 2) pa_nil)))
      (pss_cons (ps_set (i := 4) sc_net_of.nd rfl (Or.inr rfl) (pe_lc (own := [("row", 7)]) (g := (gName 7)) (tt := tYes) rfl sc_net_of.nd (piL_K K rfl (fldC T_Net (by decide +kernel) (pv 1) rfl)) (blkOk_by (N := ["many", "inner", "out", "back", "rows", "first", "last", "row", "place"]) (sc := defScope s_net_of) (by decide +kernel)) (fun _ _ _ _ _ => (pg_name (i := 7) sc_net_of.nd rfl (by first | exact Or.inl rfl | exact Or.inr rfl))) (fun _ _ _ _ _ => pts_nil) (fun _ _ _ _ _ => (pf_call G_in_halves (hr.mono (by omega)) (by rfl) (pa_cons (pv 7) (pa_cons (pv 7) pa_nil))))))
      (pss_cons (ps_set (i := 5) sc_net_of.nd rfl (Or.inl rfl) (tupL (by rfl) B.tuple (pe_lc (own := [("place", 8)]) (g := (gName 8)) (tt := tYes) rfl sc_net_of.nd (piT_K K rfl (pv 2)) (blkOk_by (N := ["many", "inner", "out", "back", "rows", "first", "last", "row", "place"]) (sc := defScope s_net_of) (by decide +kernel)) (fun _ _ _ _ _ => (pg_name (i := 8) sc_net_of.nd rfl (by first | exact Or.inl rfl | exact Or.inr rfl))) (fun _ _ _ _ _ => pts_nil) (fun _ _ _ _ _ => (pe_ix ixT (pe_ix ixL (pv 4) pe_int (fun _ _ => rfl)) (pv 8) (fun _ _ => rfl))))))
      (pss_cons (ps_set (i := 6) sc_net_of.nd rfl (Or.inl rfl) (tupL (by rfl) B.tuple (pe_lc (own := [("place", 8)]) (g := (gName 8)) (tt := tYes) rfl sc_net_of.nd (piT_K K rfl (pe_ix ixL (pv 4) (pe_un un_neg pe_int) (fun _ _ => rfl))) (blkOk_by (N := ["many", "inner", "out", "back", "rows", "first", "last", "row", "place"]) (sc := defScope s_net_of) (by decide +kernel)) (fun _ _ _ _ _ => (pg_name (i := 8) sc_net_of.nd rfl (by first | exact Or.inl rfl | exact Or.inr rfl))) (fun _ _ _ _ _ => pts_nil) (fun _ _ _ _ _ => (pe_ix ixT (pv 3) (pv 8) (fun _ _ => rfl))))))
      (pss_one (ps_ret (pk_make K_Net (hr.mono (by omega)) (by rfl) (pa_cons (pv 0) (pa_cons (pe_op op_cat (pe_op op_cat (pe_lst (pa_cons (pf_call G_plain_wires (hr.mono (by omega)) (by rfl) (pa_cons (pv 0) pa_nil)) (pa_cons (pv 5) pa_nil))) (pe_slice sl_list (pv 4) (po_some pe_int) (po_some (pe_un un_neg pe_int)))) (pe_lst (pa_cons (pv 6) (pa_cons (pf_call G_plain_wires (hr.mono (by omega)) (by rfl) (pa_cons (pv 0) pa_nil)) pa_nil)))) pa_nil))))))))))))), ?_⟩
    walk_at "e"
    intro H1 x1
    have tc1 := x1.tab _ tc
    have tn1 := x1.tab _ tn
    walk_at "e"
    refine ifB (fun hb => ?_) (fun hb => ?_)
    · have hb := V.int.inj (of_decide_eq_true hb)
      have hj0 : j = 0 := by
        rcases j with _ | j
        · rfl
        · have : 2 ^ (j + 1) = 2 * 2 ^ j := by rw [Nat.pow_succ]; omega
          have := Nat.two_pow_pos j
          omega
      subst hj0
      walk_at "e"
      intro q1 H2 x2 e2
      walk_at "e"
      intro q2 H3 x3 e3
      walk_at "e"
      intro wl hwl
      have n0 : H wl = none := x1.dom _ (x2.dom _ (x3.dom _ hwl))
      generalize hH4 : upd H3 wl _ = H4
      have x4 : Ext [] H3 H4 := by rw [← hH4]; exact Ext.add hwl
      have wl4 := (congrFun hH4.symm wl).trans upd_same
      have e24 := (x3.trans x4).tup e2
      have e34 := x4.tup e3
      have x14 := ((x1.trans x2).trans x3).trans x4
      walk_at "e"
      intro p dx hp hdx hne
      have z1 : Ext [] H4 (upd (upd H4 dx (.own p)) p (.ins C dx [])) := (Ext.add hdx).new (by rw [upd_ne hne.symm]; exact hp)
      refine ⟨p, 2, dx, wl, [q1, q2], [List.range 2, List.range 2], rfl, upd_same, z1.lst wl4, ⟨rfl, fun i hi => ?_⟩, ?_, by omega, rfl, by omega, by decide, by decide, (x14.trans z1).tab _ tc, (x14.trans z1).tab _ tn, fun H' y N => ⟨rfl, ?_⟩⟩
      · match i, hi with
        | 0, _ => exact z1.tup e24
        | 1, _ => exact z1.tup e34
      · intro r hr
        have : r = List.range 2 := by simpa using hr
        subst this
        exact PermL.range 2
      · exact k p H' (Ext.drop (x14.trans z1) y fun a ha => by
          have : a = p := by simpa using ha
          subst this
          exact x14.dom _ hp) N
    · have hb := of_decide_eq_false hb
      obtain ⟨j', rfl, rfl⟩ : ∃ j', j = j' + 1 ∧ sp' = spNetOf C PC PN j' := by
        rcases hj with h | h
        · subst h; exact absurd rfl hb
        · exact h
      have hnl := netW_len j'
      have hnp := netW_perm j'
      generalize hmm : 2 ^ (j' + 1) = m at *
      generalize hnn : 2 ^ (j' + 1 + 1) = n at *
      have hmpos : 0 < m := by rw [← hmm]; exact Nat.two_pow_pos _
      walk_at "e"
      refine ⟨by rw [hmm]; exact congrArg (fun z => [V.int z]) (by omega), by omega, tc1, tn1, fun ip H2 x2 N => ?_⟩
      rw [hmm] at N
      obtain ⟨dx0, wl0, as0, i1, i2, i3⟩ := N.ex
      have hal : as0.length = (netW j').length := i3.len
      walk_at "e"
      refine ⟨m, by rw [he2]; rfl, by omega, fun oa H3 x3 o3 => ?_⟩
      walk_at "e"
      refine ⟨oa, 2 * m, _, rfl, o3, parted_perm m, by omega, fun r ba H4 hinv x4 b4 => ?_⟩
      have er : r = backP m := inv_unique (parted_perm m) hinv (back_inv m)
      subst er
      have i4 := (x3.trans x4).ins i1
      have w4 := (x3.trans x4).lst i2
      have r4 := i3.ext (x3.trans x4)
      have o4 := x4.tup o3
      have x14 := ((x1.trans x2).trans x3).trans x4
      walk_at "e"
      refine ⟨ip, dx0, _, _, rfl, i4, nf_wires _ _, ?_⟩
      walk_at "e"
      intro D hD
      refine lc_any hD (src_refs w4 (by simp)) (fun _ => true) (fun i y Hx => ∃ t, y = .ref t ∧ Hx t = some (.tup ((inH (rw (netW j') i)).map vi))) (by omega) (fun i y Ha Hb ⟨t, e, h⟩ xx => ⟨t, e, xx.tup h⟩) (fun i v Ha Hb Kt Kf hi y ⟨ev, eh⟩ kt kf => ?_) fun H5 ys ya x5 e5 hys => ?_
      · subst ev eh
        have hp1 := hnp _ (rw_mem (rows := netW j') (i := i) (by omega))
        walk_at "e"
        refine ⟨ag as0 i, rw (netW j') i, rfl, (r4.ext y).at_ i (by omega), by rw [hp1.len]; omega, by rw [hp1.len]; omega, fun t H' y2 ht => kt _ _ rfl y2 fun D' zs hD' => ⟨t, rfl, ?_⟩⟩
        rw [hide_ne (fun z => by rw [z, y2.lst hD'] at ht; cases ht)]
        exact ht
      · rw [filter_true] at hys
        obtain ⟨ts, ets, hts⟩ := refs_of2 (Paired.mapP hys fun i y ⟨t, e, h⟩ => (⟨t, e, of_hide h⟩ : ∃ t, y = V.ref t ∧ H5 t = some (.tup ((inH (rw (netW j') i)).map vi))))
        subst ets
        have htl : ts.length = (netW j').length := by
          have := Paired.length hts
          simp at this
          omega
        have hrow : ∀ i, i < (netW j').length → rw ((netW j').map inH) i = inH (rw (netW j') i) := fun i hi2 => by
          unfold rw
          rw [List.getD_eq_getElem?_getD, List.getElem?_map, List.getD_eq_getElem?_getD, List.getElem?_eq_getElem hi2]; rfl
        have rt5 : RowsT H5 ts ((netW j').map inH) := ⟨by simp [htl], fun i hi => by
          have hi2 : i < (netW j').length := by simpa using hi
          obtain ⟨t, q1, q2⟩ := paired_at hts (i := i) (x := i) (by rw [List.getElem?_range (by omega)])
          have e3 : ag ts i = t := by unfold ag; rw [List.getD_eq_getElem?_getD, q1]; rfl
          rw [e3, hrow i hi2]
          exact q2⟩
        have rl : ((netW j').map inH).length = (netW j').length := List.length_map _
        have o5 := x5.tup o4
        have b5 := x5.tup b4
        have lpt : (parted m).length = 2 * m := (parted_perm m).len
        walk_at "e"
        -- first
        intro D1 hD1
        have hh0 := hnp _ (rw_mem (rows := netW j') (i := 0) (by omega))
        refine lc_all hD1 (src_tupN o5 (by simp)) (fun i => vi (gt (inH (rw (netW j') 0)) (gt (parted m) i))) (by omega) (fun i v Ha Hb Kt hi y ⟨ev, eh⟩ kt => ?_) (fun v σ H Q Q' i h => i _ _ h) fun H6 ya x6 e6 => ?_
        · subst ev eh
          have d6 := y.lst e5
          have r6 := (rt5.ext y).at_ 0 (by omega)
          rw [hrow 0 (by omega)] at r6
          walk_at "e"
          refine ⟨D, _, _, _, rfl, rfl, d6, at_ref (i := 0) (by omega) rfl, ?_⟩
          walk_at "e"
          refine ⟨ag ts 0, _, _, _, rfl, rfl, r6, at_vi (i := gt (parted m) i) (by rw [inH_len hh0.len]; exact (parted_perm m).lt i (by omega)) rfl, ?_⟩
          exact kt _ Ext.refl
        have e6' : H6 D1 = some (.lst (((parted m).map (gt (inH (rw (netW j') 0)))).map vi)) := by
          rw [e6, tab_vi, List.length_map]
          refine congrArg (fun z => some (HO.lst z)) (tab_congr fun i hi => ?_)
          rw [gt_map hi]
        have d6 := x6.lst e5
        have b6 := x6.tup b5
        walk_at "e"
        intro fa hfa
        generalize hH7 : upd H6 fa _ = H7
        have x67 : Ext [] H6 H7 := by rw [← hH7]; exact Ext.add hfa
        have f7 := (congrFun hH7.symm fa).trans upd_same
        have x57 := x6.trans x67
        have d7 := x57.lst e5
        have b7 := x57.tup b5
        have r7 := rt5.ext x57
        walk_at "e"
        -- last
        refine ⟨D, _, _, _, rfl, rfl, d7, at_lastR (by omega), ?_⟩
        have hlr := r7.at_ (ts.length - 1) (by omega)
        rw [hrow _ (by omega)] at hlr
        have hhl := hnp _ (rw_mem (rows := netW j') (i := ts.length - 1) (by omega))
        walk_at "e"
        intro D2 hD2
        have hil := inH_len hhl.len
        have hip := inH_perm hhl
        refine lc_all hD2 (src_tupN hlr (by simp)) (fun i => vi (gt (backP m) (gt (inH (rw (netW j') (ts.length - 1))) i))) (by omega) (fun i v Ha Hb Kt hi y ⟨ev, eh⟩ kt => ?_) (fun v σ H Q Q' i h => i _ _ h) fun H8 ya x8 e8 => ?_
        · subst ev eh
          have b8 := y.tup b7
          walk_at "e"
          refine ⟨ba, _, _, _, rfl, rfl, b8, at_vi (by rw [(back_perm m).len]; exact hip.lt i (by omega)) rfl, ?_⟩
          exact kt _ Ext.refl
        have e8' : H8 D2 = some (.lst (((inH (rw (netW j') (ts.length - 1))).map (gt (backP m))).map vi)) := by
          rw [e8, tab_vi, List.length_map]
          refine congrArg (fun z => some (HO.lst z)) (tab_congr fun i hi => ?_)
          rw [gt_map hi]
        walk_at "e"
        intro la hla
        generalize hH9 : upd H8 la _ = H9
        have x89 : Ext [] H8 H9 := by rw [← hH9]; exact Ext.add hla
        have l9 := (congrFun hH9.symm la).trans upd_same
        have f9 := (x8.trans x89).tup f7
        have d9 := (x8.trans x89).lst d7
        have r9 := r7.ext (x8.trans x89)
        have x19 : Ext [] H H9 := (((x14.trans x5).trans x57).trans x8).trans x89
        walk_at "e"
        intro q1 Ha xa ea
        walk_at "e"
        intro w1 hw1
        generalize hHb : upd Ha w1 _ = Hb
        have xb : Ext [] Ha Hb := by rw [← hHb]; exact Ext.add hw1
        have w1' := (congrFun hHb.symm w1).trans upd_same
        have db := (xa.trans xb).lst d9
        walk_at "e"
        intro w2 hw2
        rw [cut_mid (by omega)]
        generalize hHc : upd Hb w2 _ = Hc
        have xc : Ext [] Hb Hc := by rw [← hHc]; exact Ext.add hw2
        have w2' := (congrFun hHc.symm w2).trans upd_same
        have w1c := xc.lst w1'
        refine ⟨w1, w2, _, _, rfl, rfl, w1c, w2', sl_of (by simp; omega), fun w3 hw3 => ?_⟩
        generalize hHd : upd Hc w3 _ = Hd
        have xd : Ext [] Hc Hd := by rw [← hHd]; exact Ext.add hw3
        have w3' := (congrFun hHd.symm w3).trans upd_same
        walk_at "e"
        intro q2 He xe ee
        walk_at "e"
        intro w4 hw4
        generalize hHf : upd He w4 _ = Hf
        have xf : Ext [] He Hf := by rw [← hHf]; exact Ext.add hw4
        have w4' := (congrFun hHf.symm w4).trans upd_same
        have w3f := (xe.trans xf).lst w3'
        refine ⟨w3, w4, _, _, rfl, rfl, w3f, w4', sl_of (by simp; omega), fun w5 hw5 => ?_⟩
        have eL : ([V.ref q1, V.ref fa] ++ ts.tail.dropLast.map V.ref ++ [V.ref la, V.ref q2]) = ([q1, fa] ++ ts.tail.dropLast ++ [la, q2]).map V.ref := by simp
        rw [eL]
        generalize hHg : upd Hf w5 _ = Hg
        have xg : Ext [] Hf Hg := by rw [← hHg]; exact Ext.add hw5
        have w5' := (congrFun hHg.symm w5).trans upd_same
        have y9 : Ext [] H9 Hg := (((((xa.trans xb).trans xc).trans xd).trans xe).trans xf).trans xg
        have ya9 : Ext [] Ha Hg := ((((xb.trans xc).trans xd).trans xe).trans xf).trans xg
        have eh : (netW j').headD [] = rw (netW j') 0 := by
          unfold rw
          cases netW j' <;> rfl
        have el : (netW j').getLastD [] = rw (netW j') (ts.length - 1) := by
          unfold rw
          rw [List.getLastD_eq_getLast?, List.getLast?_eq_getElem?, List.getD_eq_getElem?_getD, htl]
        have eN : netW (j' + 1) = [List.range n, (parted m).map (gt (inH (rw (netW j') 0)))] ++ ((netW j').map inH).tail.dropLast ++ [(inH (rw (netW j') (ts.length - 1))).map (gt (backP m)), List.range n] := by
          show [List.range (2 ^ (j' + 2)), (parted (2 ^ (j' + 1))).map (gt (inH ((netW j').headD [])))] ++ (midR (netW j')).map inH ++ [(inH ((netW j').getLastD [])).map (gt (backP (2 ^ (j' + 1)))), List.range (2 ^ (j' + 2))] = _
          rw [hmm, show 2 ^ (j' + 2) = n from hnn, eh, el]
          unfold midR
          rw [List.map_dropLast, List.map_tail]
        have RT : RowsT Hg ([q1, fa] ++ ts.tail.dropLast ++ [la, q2]) (netW (j' + 1)) := by
          rw [eN]
          exact ((RowsT.two (ya9.tup ea) (y9.tup f9)).app (r9.ext y9).mid).app (RowsT.two (y9.tup l9) ((xf.trans xg).tup ee))
        have hnp2 := netW_perm (j' + 1)
        rw [show 2 ^ (j' + 1 + 1) = n from hnn] at hnp2
        have hnl2 := netW_len (j' + 1)
        have xHg := x19.trans y9
        walk_at "e"
        intro p dx hp hdx hne
        have z1 : Ext [] Hg (upd (upd Hg dx (.own p)) p (.ins C dx [])) := (Ext.add hdx).new (by rw [upd_ne hne.symm]; exact hp)
        refine ⟨p, n, dx, w5, _, netW (j' + 1), rfl, upd_same, z1.lst w5', RT.ext z1, hnp2, by omega, by omega, hn, by omega, by omega, (xHg.trans z1).tab _ tc, (xHg.trans z1).tab _ tn, fun H' y N => ⟨rfl, ?_⟩⟩
        exact k p H' (Ext.drop (xHg.trans z1) y fun a ha => by
          have : a = p := by simpa using ha
          subst this
          exact xHg.dom _ hp) N
end
end CL
set_option Elab.async false
set_option linter.all false
set_option maxRecDepth 100000
set_option maxHeartbeats 4000000
/-! == and != of lists. -/
namespace CL
open PySem PySem.Spec PyProof.Rows L2 RX
section
variable {K : PySem.W.Frag} {H : Hp}
def pI (n : Nat) : PyData := .int (n : Int)
def pL (l : List Nat) : PyData := .list (l.map pI)
def pT (l : List Nat) : PyData := .tuple (l.map pI)
def pR (rs : List (List Nat)) : PyData := .list (rs.map pT)
theorem dp_all : ∀ l : List Nat, DpAll K H (l.map vi) (l.map pI)
  | [] => .nil
  | n :: l => .cons (.int _) (dp_all l)
theorem dp_list {a : Addr} {l : List Nat} (h : H a = some (.lst (l.map vi))) : Dp K H (.ref a) (pL l) := .lst (.of h) (dp_all l)
theorem dp_tup {a : Addr} {l : List Nat} (h : H a = some (.tup (l.map vi))) : Dp K H (.ref a) (pT l) := .tup (.of h) (dp_all l)
theorem dp_rows : ∀ {as : List Addr} {rs : List (List Nat)}, Paired (fun a r => H a = some (.tup (r.map vi))) as rs → DpAll K H (as.map V.ref) (rs.map pT)
  | _, _, .nil => .nil
  | _, _, .cons h t => .cons (dp_tup h) (dp_rows t)
theorem dp_listR {a : Addr} {as : List Addr} {rs : List (List Nat)} (h : H a = some (.lst (as.map V.ref))) (p : Paired (fun a r => H a = some (.tup (r.map vi))) as rs) : Dp K H (.ref a) (pR rs) := .lst (.of h) (dp_rows p)
theorem can_all : ∀ l : List Nat, PyData.canLayAll0 (l.map pI) = true
  | [] => rfl
  | n :: l => by
    show (PyData.canLay0 (pI n) && PyData.canLayAll0 (l.map pI)) = true
    rw [can_all l]; rfl
theorem can_rows : ∀ l : List (List Nat), PyData.canLayAll0 (l.map pT) = true
  | [] => rfl
  | n :: l => by
    show (PyData.canLayAll0 (n.map pI) && PyData.canLayAll0 (l.map pT)) = true
    rw [can_rows l, can_all n]; rfl
theorem dep_all : ∀ l : List Nat, PyData.depthAll (l.map pI) = 0
  | [] => rfl
  | n :: l => by
    show max 0 (PyData.depthAll (l.map pI)) = 0
    rw [dep_all l]; rfl
theorem dep_rows : ∀ l : List (List Nat), PyData.depthAll (l.map pT) ≤ 1
  | [] => Nat.zero_le _
  | n :: l => by
    show max (PyData.depthAll (n.map pI) + 1) (PyData.depthAll (l.map pT)) ≤ 1
    rw [dep_all n]
    have := dep_rows l
    omega
theorem sh_L (l : List Nat) : SeqAt.shaped (pL l) = true := by
  unfold SeqAt.shaped
  rw [Bool.and_eq_true]
  exact ⟨can_all l, decide_eq_true (by show PyData.depthAll (l.map pI) + 1 ≤ 64; rw [dep_all]; omega)⟩
theorem sh_T (l : List Nat) : SeqAt.shaped (pT l) = true := by
  unfold SeqAt.shaped
  rw [Bool.and_eq_true]
  exact ⟨can_all l, decide_eq_true (by show PyData.depthAll (l.map pI) + 1 ≤ 64; rw [dep_all]; omega)⟩
theorem sh_R (l : List (List Nat)) : SeqAt.shaped (pR l) = true := by
  unfold SeqAt.shaped
  rw [Bool.and_eq_true]
  exact ⟨can_rows l, decide_eq_true (by show PyData.depthAll (l.map pT) + 1 ≤ 64; have := dep_rows l; omega)⟩
theorem eq_L (l : List Nat) : PyData.eqv (pL l) (pL l) = true := SeqAt.eqv_refl _ (can_all l)
theorem eq_T (l : List Nat) : PyData.eqv (pT l) (pT l) = true := SeqAt.eqv_refl _ (can_all l)
theorem eq_R (l : List (List Nat)) : PyData.eqv (pR l) (pR l) = true := SeqAt.eqv_refl _ (can_rows l)
theorem eq_L0 (x : Nat) (l : List Nat) : PyData.eqv (pL (x :: l)) (pL []) = false := rfl
theorem eq_R0 (x : List Nat) (l : List (List Nat)) : PyData.eqv (pR (x :: l)) (pR []) = false := rfl
end
end CL
set_option Elab.async false
set_option linter.all false
set_option maxRecDepth 100000
set_option maxHeartbeats 4000000
namespace CL
open PySem PySem.Spec PyProof.Rows L2 RX

local macro_rules | `(tactic| walk_at "e") => `(tactic| (repeat (first
  | refine ⟨_, rfl, ?_⟩
  | refine ⟨_, _, rfl, rfl, ?_⟩
  | refine ⟨_, _, rfl, rfl, (by first | decide | omega | (dsimp only; omega)), ?_⟩
  | refine ⟨_, _, rfl, rfl, cmul1 (by omega), ?_⟩
  | refine ⟨_, _, rfl, rfl, cmul2 (by omega), ?_⟩
  | refine ⟨_, _, rfl, rfl, ⟨by omega, by omega⟩, ?_⟩
  | refine ⟨_, _, rfl, ‹_›, ?_⟩
  | refine ⟨_, _, _, _, rfl, rfl, ‹_›, at_vi (by assumption) rfl, ?_⟩
  | refine ⟨_, _, rfl, SqT.of ‹_›, rfl, ?_⟩
  | refine ⟨_, _, rfl, SqT.of ‹_›, ?_⟩
  | refine ⟨_, _, rfl, SqL.of ‹_›, ?_⟩
  | refine And.intro rfl ?_
  | refine ⟨_, _, rfl, ?_⟩
  | refine And.intro (by first | decide | omega | (dsimp only; omega)) ?_
  | refine And.intro (cmul1 (by omega)) ?_
  | refine And.intro (cmul2 (by omega)) ?_
  | refine And.intro ⟨by omega, by omega⟩ ?_
  | refine And.intro ⟨_, SqT.of ‹_›⟩ ?_
  | refine And.intro ⟨_, SqL.of ‹_›⟩ ?_
  | refine And.intro (Or.inl ⟨rfl, _, SqL.of ‹_›⟩) ?_
  | refine And.intro sz0 ?_
  | refine And.intro sz1 ?_
  | refine And.intro sz2 ?_
  | refine And.intro sz3 ?_
  | refine yesT ?_)))
section
variable {P : Program} {w : World} {K : PySem.W.Frag} {mg : Str → Option Value} {base : Heap}
/-! Calls -/
def cf (cl : Addr) (l r : Nat) (co : Addr) : List (Str × V) := putF "colours" (.ref co) (putF "right" (vi r) (putF "left" (vi l) (putF "calls" (.ref cl) [])))
theorem k1 : ¬ (("calls" : Str) = "colours") := by decide +kernel
theorem k2 : ¬ (("calls" : Str) = "right") := by decide +kernel
theorem k3 : ¬ (("calls" : Str) = "left") := by decide +kernel
theorem cf_calls (cl : Addr) (l r : Nat) (co : Addr) : (cf cl l r co).lookup ("calls" : Str) = some (.ref cl) := by
  unfold cf
  rw [lookup_putF, if_neg k1, lookup_putF, if_neg k2, lookup_putF, if_neg k3, lookup_putF, if_pos rfl]
theorem cf_colours (cl : Addr) (l r : Nat) (co : Addr) : (cf cl l r co).lookup ("colours" : Str) = some (.ref co) := by
  unfold cf
  rw [lookup_putF, if_pos rfl]
theorem cf_no (cl : Addr) (l r : Nat) (co : Addr) {m : Str} (h1 : ¬ m = "colours") (h2 : ¬ m = "right") (h3 : ¬ m = "left") (h4 : ¬ m = "calls") : (cf cl l r co).lookup m = none := by
  unfold cf
  rw [lookup_putF, if_neg h1, lookup_putF, if_neg h2, lookup_putF, if_neg h3, lookup_putF, if_neg h4]
  all_goals rfl
/-- the coloured calls: N of them, their ends e, their colours c, which stand at co -/
structure CallsAt (C : Addr) (H : Hp) (p co N : Nat) (e : Nat → Nat → Nat) (c : Nat → Option Nat) : Prop where
  ex : ∃ (dx cl l r : Nat) (as : List Addr), H p = some (.ins C dx (cf cl l r co)) ∧ H cl = some (.lst (as.map V.ref)) ∧ as.length = N ∧ cl ≠ co ∧ ∀ i, i < N → H (ag as i) = some (.tup [vi (e 0 i), vi (e 1 i)])
  cols : H co = some (.lst (tab N fun x => vo (c x)))
theorem CallsAt.ext {C : Addr} {H H' : Hp} {p co N : Nat} {e : Nat → Nat → Nat} {c : Nat → Option Nat} (s : CallsAt C H p co N e c) (x : Ext [] H H') : CallsAt C H' p co N e c := by
  obtain ⟨dx, cl, l, r, as, h1, h2, h3, h5, h4⟩ := s.ex
  exact ⟨⟨dx, cl, l, r, as, x.ins h1, x.lst h2, h3, h5, fun i hi => x.tup (h4 i hi)⟩, x.lst s.cols⟩
theorem CallsAt.setC {C : Addr} {H : Hp} {p co N : Nat} {e : Nat → Nat → Nat} {c c' : Nat → Option Nat} (s : CallsAt C H p co N e c) : CallsAt C (L2.upd H co (.lst (tab N fun x => vo (c' x)))) p co N e c' := by
  obtain ⟨dx, cl, l, r, as, h1, h2, h3, h5, h4⟩ := s.ex
  have hc := s.cols
  exact ⟨⟨dx, cl, l, r, as, by rw [upd_ne (fun z => by rw [z, hc] at h1; cases h1)]; exact h1, by rw [upd_ne h5]; exact h2, h3, h5, fun i hi => by
    rw [upd_ne (fun z => by have := h4 i hi; rw [z, hc] at this; cases this)]; exact h4 i hi⟩, upd_same⟩
/-! Calls.at -/
abbrev s_Calls_at : Stmt := inClass (top 24) 2
theorem sc_Calls_at : FnScope ["self", "side", "gate", "colour", "number", "call"] ["self", "side", "gate", "colour"] (defScope s_Calls_at) := ⟨rfl, rfl, rfl, by decide +kernel, rfl, by decide +kernel, by decide +kernel⟩
/-- what at tells -/
def AtR (N : Nat) (e : Nat → Nat → Nat) (c : Nat → Option Nat) (s v k : Nat) : Option Nat → Prop
  | some x => x < N ∧ e s x = v ∧ c x = some k
  | none => ∀ x, x < N → e s x = v → c x ≠ some k
def spAt (C : Addr) : Sp := fun vs H Q _ => ∃ (p co N s v k : Nat) (e : Nat → Nat → Nat) (c : Nat → Option Nat), vs = [.ref p, vi s, vi v, vi k] ∧ CallsAt C H p co N e c ∧ s ≤ 1 ∧ N ≤ 1000 ∧
  ∀ (o : Option Nat) H', Ext [] H H' → AtR N e c s v k o → Q (vo o) H'
theorem at_pair {a b s : Nat} {z : Int} (hs : s ≤ 1) (ez : z = (s : Int)) {e : Nat → Nat} (h0 : e 0 = a) (h1 : e 1 = b) : atI [vi a, vi b] z = some (vi (e s)) := by
  have : s = 0 ∨ s = 1 := by omega
  rcases this with h | h
  · subst h; subst ez; rw [h0]; rfl
  · subst h; subst ez; rw [h1]; rfl
theorem vo_vi {o : Option Nat} {n : Nat} : vo o = vi n ↔ o = some n := by
  cases o with
  | none => exact ⟨fun h => (nomatch h), fun h => (nomatch h)⟩
  | some y => exact ⟨fun h => (by have := V.int.inj h; congr 1; omega), fun h => (by cases h; rfl)⟩
theorem scal_vo (o : Option Nat) (k : Nat) : scal (vo o) (vi k) = true := by cases o <;> rfl
theorem ok_at {f C : Addr} {fd : FuncData} (F : Fun K "at" "Calls.at" s_Calls_at f fd) (B : Bts mg) (T_Calls : ClF K C ["calls", "left", "right", "colours"]) : FnOk P w K mg base CX0 1 f fd ["self", "side", "gate", "colour"] (spAt C) := by
  refine F.ok sc_Calls_at (fun vs H Q E h => ?_) (fun cdv A outer s H vs Q E hr h => ?_)
  · obtain ⟨p, co, N, s, v, k, e, c, rfl, _⟩ := h
    rfl
  · obtain ⟨p, co, N, sd, v, kk, e, c, rfl, S, hs1, hN, k⟩ := h
    obtain ⟨dx, cl, l, r, as, h1, h2, h3, h5, h4⟩ := S.ex
    refine ⟨_, (pss_cons (ps_for PassesOwn.never rfl (pi_enum (by rfl) B.enumerate (pa_cons (fldC T_Calls (by decide +kernel) (pv 0) rfl) pa_nil)) (pg_tupK (n := 2) K rfl rfl (pgs_cons (pg_name (i := 4) sc_Calls_at.nd rfl (by first | exact Or.inl rfl | exact Or.inr rfl)) (pgs_cons (pg_name (i := 5) sc_Calls_at.nd rfl (by first | exact Or.inl rfl | exact Or.inr rfl)) pgs_nil))) (pss_one (ps_if (pw_and (pt_cmpR op_eq (pe_ix ixT (pv 5) (pv 1) (fun _ _ => rfl)) (pv 2) (nomark _)) (pw_and1 (pt_cmpR op_eq (pe_ix ixL (fldC T_Calls (by decide +kernel) (pv 0) rfl) (pv 4) (fun _ _ => rfl)) (pv 3) (nomark _)))).pt (pss_one (ps_ret (pv 4))) pss_nil)))
      (pss_one (ps_ret pe_non))), ?_⟩
    walk_at "e"
    refine ⟨p, dx, _, _, rfl, h1, cf_calls _ _ _ _, ?_⟩
    walk_at "e"
    refine for_any (src_enumR (W := []) h2 (by simp)) (fun i σ H' => Ext [] H H' ∧ (∃ o4 o5, σ = [some (.ref p), some (vi sd), some (vi v), some (vi kk), o4, o5]) ∧ ∀ x, x < i → e sd x = v → c x ≠ some kk) ⟨Ext.refl, ⟨none, none, rfl⟩, fun x h => absurd h (Nat.not_lt_zero x)⟩ (fun i σ H' h => h.1) ?_ ?_
    · rintro i vv σ H' H'' hi ⟨x, ⟨o4, o5, rfl⟩, hall⟩ ⟨T, rfl, hT, rfl⟩
      generalize hH3 : L2.upd H' T _ = H3
      have x3 : Ext [] H H3 := by rw [← hH3]; exact x.trans (Ext.add hT)
      have t3 := (congrFun hH3.symm T).trans upd_same
      have c3 := x3.tup (h4 i (by omega))
      have p3 := x3.ins h1
      have q3 := x3.lst S.cols
      walk_at "e"
      refine ⟨ag as i, _, _, _, rfl, rfl, c3, at_pair (e := fun s => e s i) hs1 rfl rfl rfl, ?_⟩
      walk_at "e"
      refine ifB (fun hb => ?_) (fun hb => ?_)
      · have hb := V.int.inj (of_decide_eq_true hb)
        walk_at "e"
        refine ⟨p, dx, _, _, rfl, p3, cf_colours _ _ _ _, ?_⟩
        walk_at "e"
        refine ⟨co, _, _, _, rfl, rfl, q3, tab_at (i := i) (by omega) rfl, ?_⟩
        walk_at "e"
        refine ⟨scal_vo _ _, ?_⟩
        walk_at "e"
        refine ifB (fun hb2 => ?_) (fun hb2 => ?_)
        · have hb2 := vo_vi.mp (of_decide_eq_true hb2)
          walk_at "e"
          exact k (some i) H3 x3 ⟨by omega, by omega, hb2⟩
        · have hb2 := of_decide_eq_false hb2
          refine ⟨x3, ⟨_, _, rfl⟩, fun y hy e1 => ?_⟩
          by_cases q : y = i
          · subst q; exact fun z => hb2 (vo_vi.mpr z)
          · exact hall y (by omega) e1
      · have hb := of_decide_eq_false hb
        refine ⟨x3, ⟨_, _, rfl⟩, fun y hy e1 => ?_⟩
        by_cases q : y = i
        · subst q; exact absurd (congrArg vi e1) hb
        · exact hall y (by omega) e1
    · rintro σ H' ⟨x, ⟨o4, o5, rfl⟩, hall⟩
      walk_at "e"
      exact k none H' x (by rw [h3] at hall; exact hall)
/-! Calls.first_free -/
abbrev s_Calls_first_free : Stmt := inClass (top 24) 3
theorem sc_Calls_first_free : FnScope ["self", "side", "gate", "many", "good", "colour"] ["self", "side", "gate", "many"] (defScope s_Calls_first_free) := ⟨rfl, rfl, rfl, by decide +kernel, rfl, by decide +kernel, by decide +kernel⟩
def FreeR (N : Nat) (e : Nat → Nat → Nat) (c : Nat → Option Nat) (s v m : Nat) : Option Nat → Prop
  | some k => k < m ∧ ∀ x, x < N → e s x = v → c x ≠ some k
  | none => ∀ k, k < m → ∃ x, x < N ∧ e s x = v ∧ c x = some k
def spFree (C : Addr) : Sp := fun vs H Q _ => ∃ (p co N s v m : Nat) (e : Nat → Nat → Nat) (c : Nat → Option Nat), vs = [.ref p, vi s, vi v, vi m] ∧ CallsAt C H p co N e c ∧ s ≤ 1 ∧ N ≤ 1000 ∧ m ≤ 1000 ∧
  ∀ (o : Option Nat) H', Ext [] H H' → FreeR N e c s v m o → Q (vo o) H'
theorem ok_free {f C : Addr} {fd : FuncData} (F : Fun K "first_free" "Calls.first_free" s_Calls_first_free f fd) (B : Bts mg) (M_Calls_at : MtF P w K mg base C "at" 1 ["self", "side", "gate", "colour"] (spAt C)) : FnOk P w K mg base CX0 2 f fd ["self", "side", "gate", "many"] (spFree C) := by
  refine F.ok sc_Calls_first_free (fun vs H Q E h => ?_) (fun cdv A outer s H vs Q E hr h => ?_)
  · obtain ⟨p, co, N, s, v, k, e, c, rfl, _⟩ := h
    rfl
  · obtain ⟨p, co, N, sd, v, m, e, c, rfl, S, hs1, hN, hm, k⟩ := h
    obtain ⟨dx, cl, l, r, as, h1, h2, h3, h5, h4⟩ := S.ex
    refine ⟨_, (pss_cons (ps_setLc (i := 4) (own := [("colour", 5)]) (g := (gName 5)) rfl sc_Calls_first_free.nd rfl rfl (sw_true rfl rfl rfl (by decide +kernel)) (pi_range1 (by rfl) B.range (pa_cons (pv 3) pa_nil)) (blkOk_by (N := ["self", "side", "gate", "many", "good", "colour"]) (sc := defScope s_Calls_first_free) (by decide +kernel)) (fun _ _ _ _ _ => (pg_name (i := 5) sc_Calls_first_free.nd rfl (by first | exact Or.inl rfl | exact Or.inr rfl))) (fun _ _ _ _ _ => (pts_one (pt_cmpR op_isN (pm_call M_Calls_at (hr.mono (by omega)) (pv 0) (pa_cons (pv 1) (pa_cons (pv 2) (pa_cons (pv 5) pa_nil)))) pe_non (nomark _)))) (fun _ _ _ _ _ => (pv 5)))
      (pss_one (ps_ret (pe_ifExp (pt_cmpR (neD_K K rfl hr.units) (pv 4) (pe_lst pa_nil) (nomark _)) (pe_ix ixL (pv 4) pe_int (fun _ _ => rfl)) pe_non)))), ?_⟩
    walk_at "e"
    intro D hD
    have hmz : ((m : Nat) : Int).toNat = m := by omega
    refine lc_val (n := m) hD src_rngN (fun k => decide (∀ x, x < N → e sd x = v → c x ≠ some k)) vi (by omega) (fun i vv Ha Hb Kt Kf hi x ⟨ev, eh⟩ kt kf => ?_) fun H1 x1 x2 e2 => ?_
    · subst ev eh
      have p3 := x.ins h1
      walk_at "e"
      refine ⟨p, dx, _, rfl, p3, cf_no _ _ _ _ (by decide +kernel) (by decide +kernel) (by decide +kernel) (by decide +kernel), ?_⟩
      walk_at "e"
      refine ⟨p, co, N, sd, v, i, e, c, rfl, S.ext x, hs1, hN, fun o H' x' ho => ?_⟩
      cases o with
      | none =>
        walk_at "e"
        exact kt H' (decide_eq_true ho) x'
      | some y =>
        walk_at "e"
        exact kf H' (decide_eq_false fun h => h y ho.1 ho.2.1 ho.2.2) x'
    · walk_at "e"
      intro q hq
      have x3 : Ext [] H1 (L2.upd H1 q (.lst [])) := Ext.add hq
      have hG : ∀ y, y ∈ (List.range m).filter (fun k => decide (∀ x, x < N → e sd x = v → c x ≠ some k)) ↔ y < m ∧ ∀ x, x < N → e sd x = v → c x ≠ some y := fun y => by simp
      generalize (List.range m).filter (fun k => decide (∀ x, x < N → e sd x = v → c x ≠ some k)) = G at *
      have e3 := x3.lst e2
      refine ⟨pL G, pL [], dp_list e3, dp_list (l := []) upd_same, sh_L _, sh_L _, ?_⟩
      walk_at "e"
      cases G with
      | nil =>
        refine ifF rfl ?_
        walk_at "e"
        refine k none _ (x2.trans x3) fun kk hk => ?_
        false_or_by_contra
        rename_i hc
        have := (hG kk).mpr ⟨hk, fun x hx he hcx => hc ⟨x, hx, he, hcx⟩⟩
        simp at this
      | cons g G =>
        refine ifT rfl ?_
        walk_at "e"
        refine ⟨D, _, 0, _, rfl, rfl, e3, at_vi (i := 0) (by simp) rfl, ?_⟩
        exact k (some g) _ (x2.trans x3) ((hG g).mp List.mem_cons_self)
end
end CL
set_option Elab.async false
set_option linter.all false
set_option maxRecDepth 100000
set_option maxHeartbeats 4000000
namespace CL
open PySem PySem.Spec PyProof.Rows L2 RX

local macro_rules | `(tactic| walk_at "e") => `(tactic| (repeat (first
  | refine ⟨_, rfl, ?_⟩
  | refine ⟨_, _, rfl, rfl, ?_⟩
  | refine ⟨_, _, rfl, rfl, (by first | decide | omega | (dsimp only; omega)), ?_⟩
  | refine ⟨_, _, rfl, rfl, cmul1 (by omega), ?_⟩
  | refine ⟨_, _, rfl, rfl, cmul2 (by omega), ?_⟩
  | refine ⟨_, _, rfl, rfl, ⟨by omega, by omega⟩, ?_⟩
  | refine ⟨_, _, rfl, ‹_›, ?_⟩
  | refine ⟨_, _, _, _, rfl, rfl, ‹_›, at_vi (by assumption) rfl, ?_⟩
  | refine ⟨_, _, rfl, SqT.of ‹_›, rfl, ?_⟩
  | refine ⟨_, _, rfl, SqT.of ‹_›, ?_⟩
  | refine ⟨_, _, rfl, SqL.of ‹_›, ?_⟩
  | refine And.intro rfl ?_
  | refine ⟨_, _, rfl, ?_⟩
  | refine And.intro (by first | decide | omega | (dsimp only; omega)) ?_
  | refine And.intro (cmul1 (by omega)) ?_
  | refine And.intro (cmul2 (by omega)) ?_
  | refine And.intro ⟨by omega, by omega⟩ ?_
  | refine And.intro ⟨_, SqT.of ‹_›⟩ ?_
  | refine And.intro ⟨_, SqL.of ‹_›⟩ ?_
  | refine And.intro (Or.inl ⟨rfl, _, SqL.of ‹_›⟩) ?_
  | refine And.intro sz0 ?_
  | refine And.intro sz1 ?_
  | refine And.intro sz2 ?_
  | refine And.intro sz3 ?_
  | refine yesT ?_)))
section
variable {P : Program} {w : World} {K : PySem.W.Frag} {mg : Str → Option Value} {base : Heap}
/-! Calls.exchange -/
abbrev s_Calls_exchange : Stmt := inClass (top 24) 4
theorem sc_Calls_exchange : FnScope ["self", "start", "here", "other", "side", "gate", "colour", "found", "number"] ["self", "start", "here", "other"] (defScope s_Calls_exchange) := ⟨rfl, rfl, rfl, by decide +kernel, rfl, by decide +kernel, by decide +kernel⟩
def Supp (N : Nat) (c : Nat → Option Nat) : Prop := ∀ x k, c x = some k → x < N
def spExch (C : Addr) : Sp := fun vs H Q _ => ∃ (p co N start c1 c2 : Nat) (e : Nat → Nat → Nat) (c : Nat → Option Nat), vs = [.ref p, vi start, vi c1, vi c2] ∧ CallsAt C H p co N e c ∧ N ≤ 1000 ∧ Supp N c ∧ Proper c e ∧ c1 ≠ c2 ∧ (∀ x, c x = some c2 → e 1 x ≠ start) ∧
  ∀ (found : List Nat) (s v : Nat) (q : Addr) H', Chain c e c1 c2 start found s v → (∀ x, c x = some (nc c1 c2 s) → e s x ≠ v) → Ext [co] H H' → CallsAt C H' p co N e (swapped c c1 c2 found) → Q (.ref q) H'
theorem take_gt {l : List Nat} {i : Nat} (h : i < l.length) : l.take (i + 1) = l.take i ++ [gt l i] := by
  rw [List.take_add_one, some_gt h]; rfl
theorem not_take {l : List Nat} {i : Nat} (hn : l.Nodup) (h : i < l.length) : gt l i ∉ l.take i := fun hm => by
  obtain ⟨j, hj, e⟩ := mem_gt hm
  have hj2 : j < i := by rw [List.length_take] at hj; omega
  have e2 : gt (l.take i) j = gt l j := by
    unfold gt; rw [List.getD_eq_getElem?_getD, List.getD_eq_getElem?_getD, List.getElem?_take_of_lt hj2]
  rw [e2] at e
  have := inj_of_nodup hn j i (by omega) h e
  omega
theorem swapped_at {c : Nat → Option Nat} {c1 c2 : Nat} {found : List Nat} {i : Nat} (hn : found.Nodup) (h : i < found.length) : swapped c c1 c2 (found.take i) (gt found i) = c (gt found i) := by
  unfold swapped; rw [if_neg (not_take hn h)]
theorem swapped_next {c : Nat → Option Nat} {c1 c2 : Nat} {found : List Nat} {i : Nat} (hn : found.Nodup) (h : i < found.length) :
    swapped c c1 c2 (found.take (i + 1)) = fset (swapped c c1 c2 (found.take i)) (gt found i) (if c (gt found i) = some c1 then some c2 else some c1) := by
  funext x
  by_cases q : x = gt found i
  · subst q
    rw [fset_same]
    unfold swapped
    rw [if_pos (by rw [take_gt h]; simp)]
  · rw [fset_ne q]
    unfold swapped
    have : x ∈ found.take (i + 1) ↔ x ∈ found.take i := by rw [take_gt h]; simp [q]
    by_cases r : x ∈ found.take i
    · rw [if_pos r, if_pos (this.mpr r)]
    · rw [if_neg r, if_neg (fun z => r (this.mp z))]
theorem nc_flip {c1 c2 s : Nat} (h : c1 ≠ c2) (hs : s ≤ 1) : nc c1 c2 (1 - s) = if nc c1 c2 s = c1 then c2 else c1 := by
  rcases le1 hs with rfl | rfl
  · show c1 = if c2 = c1 then c2 else c1
    rw [if_neg (fun z => h z.symm)]
  · show c2 = if c1 = c1 then c2 else c1
    rw [if_pos rfl]
theorem ok_exch {f C : Addr} {fd : FuncData} (F : Fun K "exchange" "Calls.exchange" s_Calls_exchange f fd) (B : Bts mg) (T_Calls : ClF K C ["calls", "left", "right", "colours"])
    (M_Calls_at : MtF P w K mg base C "at" 1 ["self", "side", "gate", "colour"] (spAt C)) : FnOk P w K mg base CX0 2 f fd ["self", "start", "here", "other"] (spExch C) := by
  refine F.ok sc_Calls_exchange (fun vs H Q E h => ?_) (fun cdv A outer s H vs Q E hr h => ?_)
  · obtain ⟨p, co, N, s, v, k, e, c, rfl, _⟩ := h
    rfl
  · obtain ⟨p, co, N, start, c1, c2, e, c, rfl, S, hN, hsu, hP, hne, hfree, k⟩ := h
    obtain ⟨dx, cl, l, r, as, h1, h2, h3, h5, h4⟩ := S.ex
    refine ⟨_, (pss_cons (ps_asg (pe_tup (pa_cons pe_int (pa_cons (pv 1) (pa_cons (pv 2) (pa_cons (pe_lst pa_nil) pa_nil))))) (pg_tupK (n := 4) K rfl rfl (pgs_cons (pg_name (i := 4) sc_Calls_exchange.nd rfl (by first | exact Or.inl rfl | exact Or.inr rfl)) (pgs_cons (pg_name (i := 5) sc_Calls_exchange.nd rfl (by first | exact Or.inl rfl | exact Or.inr rfl)) (pgs_cons (pg_name (i := 6) sc_Calls_exchange.nd rfl (by first | exact Or.inl rfl | exact Or.inr rfl)) (pgs_cons (pg_name (i := 7) sc_Calls_exchange.nd rfl (by first | exact Or.inl rfl | exact Or.inr rfl)) pgs_nil))))))
      (pss_cons (ps_set (i := 8) sc_Calls_exchange.nd rfl (Or.inl rfl) (pm_call M_Calls_at (hr.mono (by omega)) (pv 0) (pa_cons (pv 4) (pa_cons (pv 5) (pa_cons (pv 6) pa_nil)))))
      (pss_cons (ps_while PassesOwn.never (pt_cmpR op_notN (pv 8) pe_non (nomark _)) (pss_cons (ps_expr (bmK K rfl PySem.F.plainAttrs_list PySem.F.slot_list_append PySem.F.type_list_append mt_append (pv 7) (pa_cons (pv 8) pa_nil)))
      (pss_cons (ps_set (i := 4) sc_Calls_exchange.nd rfl (Or.inl rfl) (pe_op op_sub pe_int (pv 4)))
      (pss_cons (ps_set (i := 5) sc_Calls_exchange.nd rfl (Or.inl rfl) (pe_ix ixT (pe_ix ixL (fldC T_Calls (by decide +kernel) (pv 0) rfl) (pv 8) (fun _ _ => rfl)) (pv 4) (fun _ _ => rfl)))
      (pss_cons (ps_set (i := 6) sc_Calls_exchange.nd rfl (Or.inl rfl) (pe_ifExp (pt_cmpR op_eq (pv 6) (pv 2) (nomark _)) (pv 3) (pv 2)))
      (pss_one (ps_set (i := 8) sc_Calls_exchange.nd rfl (Or.inl rfl) (pm_call M_Calls_at (hr.mono (by omega)) (pv 0) (pa_cons (pv 4) (pa_cons (pv 5) (pa_cons (pv 6) pa_nil)))))))))))
      (pss_cons (ps_for PassesOwn.never rfl (piL_K K rfl (pv 7)) (pg_name (i := 8) sc_Calls_exchange.nd rfl (by first | exact Or.inl rfl | exact Or.inr rfl)) (pss_one (ps_asg (pe_ifExp (pt_cmpR op_eq (pe_ix ixL (fldC T_Calls (by decide +kernel) (pv 0) rfl) (pv 8) (fun _ _ => rfl)) (pv 2) (nomark _)) (pv 3) (pv 2)) (pg_sub (fldC T_Calls (by decide +kernel) (pv 0) rfl) (pv 8) set_list))))
      (pss_one (ps_ret (tupL (by rfl) B.tuple (pv 7)))))))), ?_⟩
    walk_at "e"
    intro fl hfl
    generalize hH1 : L2.upd H fl _ = H1
    have x1 : Ext [] H H1 := by rw [← hH1]; exact Ext.add hfl
    have f1 := (congrFun hH1.symm fl).trans upd_same
    walk_at "e"
    refine ⟨by show 4 ≤ sizeLine; decide, fun t ht => ?_⟩
    generalize hH2 : L2.upd H1 t _ = H2
    have x12 : Ext [] H1 H2 := by rw [← hH2]; exact Ext.add ht
    have x2 := x1.trans x12
    have t2 := (congrFun hH2.symm t).trans upd_same
    have f2 := x12.lst f1
    have p2 := x2.ins h1
    walk_at "e"
    refine ⟨p, dx, _, rfl, p2, cf_no _ _ _ _ (by decide +kernel) (by decide +kernel) (by decide +kernel) (by decide +kernel), ?_⟩
    walk_at "e"
    refine ⟨p, co, N, 1, start, c1, e, c, rfl, S.ext x2, by omega, hN, fun o H3 x23 ho => ?_⟩
    have f3 := x23.lst f2
    have x3 := x2.trans x23
    walk_at "e"
    refine ⟨fun m σ H' => ∃ (found : List Nat) (s v : Nat) (o : Option Nat), m + found.length = N ∧ σ = [some (.ref p), some (vi start), some (vi c1), some (vi c2), some (vi s), some (vi v), some (vi (nc c1 c2 s)), some (.ref fl), some (vo o)] ∧
      H' fl = some (.lst (found.map vi)) ∧ Ext [] H H' ∧ Chain c e c1 c2 start found s v ∧ AtR N e c s v (nc c1 c2 s) o, ⟨N, [], 1, start, o, rfl, rfl, f3, x3, Chain.begin, ho⟩, ?_⟩
    rintro m σ H' ⟨found, s, v, o, hm, rfl, hf, x, Ch, hat⟩
    walk_at "e"
    cases o with
    | some y =>
      obtain ⟨hy1, hy2, hy3⟩ := hat
      obtain ⟨hnew, Ch2⟩ := Ch.step hP hne hfree hy3 hy2
      have hlen : (found ++ [y]).length ≤ N := by
        have := pigeon Ch2.nd (m := List.range N) fun z hz => List.mem_range.mpr (by
          rcases Ch2.col z hz with q | q
          · exact hsu z _ q
          · exact hsu z _ q)
        rwa [List.length_range] at this
      have hl2 : (found ++ [y]).length = found.length + 1 := by simp
      have hs1 := Ch.sle
      have hs2 : 1 - s ≤ 1 := by omega
      refine ifT rfl ⟨fun σ' H' => ∃ m', m' < m ∧ ∃ (found : List Nat) (s v : Nat) (o : Option Nat), m' + found.length = N ∧ σ' = [some (.ref p), some (vi start), some (vi c1), some (vi c2), some (vi s), some (vi v), some (vi (nc c1 c2 s)), some (.ref fl), some (vo o)] ∧
        H' fl = some (.lst (found.map vi)) ∧ Ext [] H H' ∧ Chain c e c1 c2 start found s v ∧ AtR N e c s v (nc c1 c2 s) o, fun _ _ h => h, ?_⟩
      walk_at "e"
      refine ⟨fl, _, _, rfl, rfl, hf, sl_lt (by simp; omega), ?_⟩
      generalize hH4 : L2.upd H' fl _ = H4
      have x4 : Ext [] H H4 := by rw [← hH4]; exact x.wr (.inl hfl) hf nt_lst
      have f4 : H4 fl = some (.lst ((found ++ [y]).map vi)) := by rw [← hH4, upd_same, List.map_append]; rfl
      have p4 := x4.ins h1
      have l4 := x4.lst h2
      have a4 := x4.tup (h4 y hy1)
      walk_at "e"
      refine ⟨p, dx, _, _, rfl, p4, cf_calls _ _ _ _, ?_⟩
      walk_at "e"
      refine ⟨cl, _, _, _, rfl, rfl, l4, at_ref (i := y) (by omega) rfl, ?_⟩
      walk_at "e"
      refine ⟨ag as y, _, _, _, rfl, rfl, a4, at_pair (s := 1 - s) (e := fun s => e s y) hs2 (by omega) rfl rfl, ?_⟩
      walk_at "e"
      have e1 : V.int (1 - (s : Int)) = vi (1 - s) := congrArg V.int (by omega)
      refine ifB (fun hb => ?_) (fun hb => ?_)
      · have hb : nc c1 c2 s = c1 := by have := V.int.inj (of_decide_eq_true hb); omega
        have en : nc c1 c2 (1 - s) = c2 := by rw [nc_flip hne hs1, if_pos hb]
        walk_at "e"
        refine ⟨p, dx, _, rfl, p4, cf_no _ _ _ _ (by decide +kernel) (by decide +kernel) (by decide +kernel) (by decide +kernel), ?_⟩
        walk_at "e"
        refine ⟨p, co, N, 1 - s, e (1 - s) y, c2, e, c, congrArg (fun z => [V.ref p, z, vi (e (1 - s) y), vi c2]) e1, S.ext x4, hs2, hN, fun o2 H5 x5 ho2 => ?_⟩
        refine ⟨m - 1, by omega, found ++ [y], 1 - s, e (1 - s) y, o2, by omega, ?_, x5.lst f4, x4.trans x5, Ch2, by rw [en]; exact ho2⟩
        show [some (V.ref p), some (vi start), some (vi c1), some (vi c2), some (V.int (1 - (s : Int))), some (vi (e (1 - s) y)), some (vi c2), some (V.ref fl), some (vo o2)] = _
        rw [e1, en]
      · have hb : nc c1 c2 s ≠ c1 := fun z => (of_decide_eq_false hb) (congrArg vi z)
        have en : nc c1 c2 (1 - s) = c1 := by rw [nc_flip hne hs1, if_neg hb]
        walk_at "e"
        refine ⟨p, dx, _, rfl, p4, cf_no _ _ _ _ (by decide +kernel) (by decide +kernel) (by decide +kernel) (by decide +kernel), ?_⟩
        walk_at "e"
        refine ⟨p, co, N, 1 - s, e (1 - s) y, c1, e, c, congrArg (fun z => [V.ref p, z, vi (e (1 - s) y), vi c1]) e1, S.ext x4, hs2, hN, fun o2 H5 x5 ho2 => ?_⟩
        refine ⟨m - 1, by omega, found ++ [y], 1 - s, e (1 - s) y, o2, by omega, ?_, x5.lst f4, x4.trans x5, Ch2, by rw [en]; exact ho2⟩
        show [some (V.ref p), some (vi start), some (vi c1), some (vi c2), some (V.int (1 - (s : Int))), some (vi (e (1 - s) y)), some (vi c1), some (V.ref fl), some (vo o2)] = _
        rw [e1, en]
    | none =>
      refine ifF rfl ?_
      have hend : ∀ x, c x = some (nc c1 c2 s) → e s x ≠ v := fun z hz hv => hat z (hsu z _ hz) hv hz
      have hlt : ∀ z ∈ found, z < N := fun z hz => by
        rcases Ch.col z hz with q | q
        · exact hsu z _ q
        · exact hsu z _ q
      have nfc : fl ≠ co := fun z => by rw [z, S.cols] at hfl; cases hfl
      walk_at "e"
      refine for_any (src_lstN (W := [co]) hf (by simp [nfc])) (fun i σ Hx => Ext [co] H' Hx ∧ CallsAt C Hx p co N e (swapped c c1 c2 (found.take i)) ∧ ∃ o8, σ = [some (.ref p), some (vi start), some (vi c1), some (vi c2), some (vi s), some (vi v), some (vi (nc c1 c2 s)), some (.ref fl), o8]) ?_ (fun i σ H' h => h.1) ?_ ?_
      · refine ⟨Ext.refl, ?_, _, rfl⟩
        have : swapped c c1 c2 (found.take 0) = c := by funext z; simp [swapped]
        rw [this]
        exact S.ext x
      · rintro i v σ Ha Hb hi ⟨y, Sa, o8, rfl⟩ ⟨rfl, rfl⟩
        obtain ⟨dx2, cl2, l2, r2, as2, g1, g2, g3, g5, g4⟩ := Sa.ex
        have gc := Sa.cols
        have hz := hlt _ (gt_mem hi)
        walk_at "e"
        refine ⟨p, dx2, _, _, rfl, g1, cf_colours _ _ _ _, ?_⟩
        walk_at "e"
        refine ⟨co, _, _, _, rfl, rfl, gc, tab_at (i := gt found i) hz rfl, ?_⟩
        walk_at "e"
        refine ⟨scal_vo _ _, ?_⟩
        walk_at "e"
        have hsi := swapped_at (c := c) (c1 := c1) (c2 := c2) Ch.nd hi
        refine ifB (fun hb => ?_) (fun hb => ?_)
        · have hb : c (gt found i) = some c1 := vo_vi.mp (by rw [← hsi]; exact of_decide_eq_true hb)
          walk_at "e"
          refine ⟨p, dx2, _, _, rfl, g1, cf_colours _ _ _ _, ?_⟩
          walk_at "e"
          refine ⟨co, _, _, gt found i, rfl, rfl, gc, ixN_of (by rw [tab_len]; exact hz) rfl, ?_⟩
          refine ⟨y.wr (.inr (by simp)) gc nt_lst, ?_, _, rfl⟩
          have e3 := tab_vo_fset (n := N) (i := gt found i) (v := c2) (f := swapped c c1 c2 (found.take i))
          have e4 := Sa.setC (c' := fset (swapped c c1 c2 (found.take i)) (gt found i) (some c2))
          rw [swapped_next Ch.nd hi, if_pos hb]
          rw [← e3] at e4
          exact e4
        · have hb : ¬ c (gt found i) = some c1 := fun z => (of_decide_eq_false hb) (by rw [hsi]; exact vo_vi.mpr z)
          walk_at "e"
          refine ⟨p, dx2, _, _, rfl, g1, cf_colours _ _ _ _, ?_⟩
          walk_at "e"
          refine ⟨co, _, _, gt found i, rfl, rfl, gc, ixN_of (by rw [tab_len]; exact hz) rfl, ?_⟩
          refine ⟨y.wr (.inr (by simp)) gc nt_lst, ?_, _, rfl⟩
          have e3 := tab_vo_fset (n := N) (i := gt found i) (v := c1) (f := swapped c c1 c2 (found.take i))
          have e4 := Sa.setC (c' := fset (swapped c c1 c2 (found.take i)) (gt found i) (some c1))
          rw [swapped_next Ch.nd hi, if_neg hb]
          rw [← e3] at e4
          exact e4
      · rintro σ Ha ⟨y, Sa, o8, rfl⟩
        have e2 : found.take found.length = found := List.take_length
        rw [e2] at Sa
        have fa := y.at_ _ _ hf nt_lst (by simp [nfc])
        walk_at "e"
        intro q hq
        exact k found s v q _ Ch hend ((x.wide0.trans y).trans (Ext.add hq)) (Sa.ext (Ext.add hq))
end
end CL
set_option Elab.async false
set_option linter.all false
set_option maxRecDepth 100000
set_option maxHeartbeats 4000000
namespace CL
open PySem PySem.Spec PyProof.Rows L2 RX

local macro_rules | `(tactic| walk_at "e") => `(tactic| (repeat (first
  | refine ⟨_, rfl, ?_⟩
  | refine ⟨_, _, rfl, rfl, ?_⟩
  | refine ⟨_, _, rfl, rfl, (by first | decide | omega | (dsimp only; omega)), ?_⟩
  | refine ⟨_, _, rfl, rfl, cmul1 (by omega), ?_⟩
  | refine ⟨_, _, rfl, rfl, cmul2 (by omega), ?_⟩
  | refine ⟨_, _, rfl, rfl, ⟨by omega, by omega⟩, ?_⟩
  | refine ⟨_, _, rfl, ‹_›, ?_⟩
  | refine ⟨_, _, _, _, rfl, rfl, ‹_›, at_vi (by assumption) rfl, ?_⟩
  | refine ⟨_, _, rfl, SqT.of ‹_›, rfl, ?_⟩
  | refine ⟨_, _, rfl, SqT.of ‹_›, ?_⟩
  | refine ⟨_, _, rfl, SqL.of ‹_›, ?_⟩
  | refine And.intro rfl ?_
  | refine ⟨_, _, rfl, ?_⟩
  | refine And.intro (by first | decide | omega | (dsimp only; omega)) ?_
  | refine And.intro (cmul1 (by omega)) ?_
  | refine And.intro (cmul2 (by omega)) ?_
  | refine And.intro ⟨by omega, by omega⟩ ?_
  | refine And.intro ⟨_, SqT.of ‹_›⟩ ?_
  | refine And.intro ⟨_, SqL.of ‹_›⟩ ?_
  | refine And.intro (Or.inl ⟨rfl, _, SqL.of ‹_›⟩) ?_
  | refine And.intro sz0 ?_
  | refine And.intro sz1 ?_
  | refine And.intro sz2 ?_
  | refine And.intro sz3 ?_
  | refine yesT ?_)))
section
variable {P : Program} {w : World} {K : PySem.W.Frag} {mg : Str → Option Value} {base : Heap}
/-! Calls.colour -/
abbrev s_Calls_colour : Stmt := inClass (top 24) 5
theorem sc_Calls_colour : FnScope ["self", "number", "many", "one", "other", "mine", "theirs", "moved"] ["self", "number", "many"] (defScope s_Calls_colour) := ⟨rfl, rfl, rfl, by decide +kernel, rfl, by decide +kernel, by decide +kernel⟩
def spColour (C : Addr) : Sp := fun vs H Q _ => ∃ (p co N x m : Nat) (e : Nat → Nat → Nat) (c : Nat → Option Nat), vs = [.ref p, vi x, vi m] ∧ CallsAt C H p co N e c ∧ N ≤ 1000 ∧ m ≤ 1000 ∧ x < N ∧ c x = none ∧ Supp N c ∧ Proper c e ∧ (∀ y k, c y = some k → k < m) ∧
  (∃ k, k < m ∧ ∀ y, c y = some k → e 0 y ≠ e 0 x) ∧ (∃ k, k < m ∧ ∀ y, c y = some k → e 1 y ≠ e 1 x) ∧
  ∀ (c' : Nat → Option Nat) (v : V) H', Ext [co] H H' → CallsAt C H' p co N e c' → Supp N c' → Proper c' e → (∀ y k, c' y = some k → k < m) → (∀ y, c' y = none ↔ (c y = none ∧ y ≠ x)) → Q v H'
theorem swapped_none {c : Nat → Option Nat} {c1 c2 : Nat} {found : List Nat} (h : ∀ x ∈ found, c x = some c1 ∨ c x = some c2) (y : Nat) : swapped c c1 c2 found y = none ↔ c y = none := by
  unfold swapped
  by_cases r : y ∈ found
  · rw [if_pos r]
    constructor
    · intro z; split at z <;> cases z
    · intro z; rcases h y r with q | q <;> rw [z] at q <;> cases q
  · rw [if_neg r]
theorem swapped_lt {c : Nat → Option Nat} {c1 c2 m : Nat} {found : List Nat} (h1 : c1 < m) (h2 : c2 < m) (h : ∀ y k, c y = some k → k < m) : ∀ y k, swapped c c1 c2 found y = some k → k < m := by
  intro y k e
  unfold swapped at e
  split at e
  · split at e
    · cases e; exact h2
    · cases e; exact h1
  · exact h y k e
theorem colour_end {N x k m : Nat} {e : Nat → Nat → Nat} {c c0 : Nat → Option Nat} (hx : x < N) (hk : k < m) (hs : Supp N c) (hP : Proper c e) (hm : ∀ y k, c y = some k → k < m) (h0 : ∀ y, c y = some k → e 0 y ≠ e 0 x) (h1 : ∀ y, c y = some k → e 1 y ≠ e 1 x) (hn : ∀ y, c y = none ↔ c0 y = none) (hx0 : c0 x = none) :
    Supp N (fset c x (some k)) ∧ Proper (fset c x (some k)) e ∧ (∀ y j, fset c x (some k) y = some j → j < m) ∧ ∀ y, fset c x (some k) y = none ↔ (c0 y = none ∧ y ≠ x) := by
  refine ⟨fun y j e1 => ?_, hP.add h0 h1, fun y j e1 => ?_, fun y => ?_⟩
  · by_cases q : y = x
    · rw [q]; exact hx
    · rw [fset_ne q] at e1; exact hs y j e1
  · by_cases q : y = x
    · subst q; rw [fset_same] at e1; cases e1; exact hk
    · rw [fset_ne q] at e1; exact hm y j e1
  · by_cases q : y = x
    · subst q; rw [fset_same]; simp
    · rw [fset_ne q, hn y]; simp [q]
theorem ok_colour {f C : Addr} {fd : FuncData} (F : Fun K "colour" "Calls.colour" s_Calls_colour f fd) (B : Bts mg) (T_Calls : ClF K C ["calls", "left", "right", "colours"])
    (M_Calls_at : MtF P w K mg base C "at" 1 ["self", "side", "gate", "colour"] (spAt C)) (M_Calls_first_free : MtF P w K mg base C "first_free" 2 ["self", "side", "gate", "many"] (spFree C))
    (M_Calls_exchange : MtF P w K mg base C "exchange" 2 ["self", "start", "here", "other"] (spExch C)) : FnOk P w K mg base CX0 3 f fd ["self", "number", "many"] (spColour C) := by
  refine F.ok sc_Calls_colour (fun vs H Q E h => ?_) (fun cdv A outer s H vs Q E hr h => ?_)
  · obtain ⟨p, co, N, x, m, e, c, rfl, _⟩ := h
    rfl
  · obtain ⟨p, co, N, x, m, e, c, rfl, S, hN, hm, hx, hcx, hsu, hP, hlt, hf0, hf1, k⟩ := h
    obtain ⟨dx, cl, l, r, as, h1, h2, h3, h5, h4⟩ := S.ex
    refine ⟨_, (pss_cons (ps_asg (pe_ix ixL (fldC T_Calls (by decide +kernel) (pv 0) rfl) (pv 1) (fun _ _ => rfl)) (pg_tupK (n := 2) K rfl rfl (pgs_cons (pg_name (i := 3) sc_Calls_colour.nd rfl (by first | exact Or.inl rfl | exact Or.inr rfl)) (pgs_cons (pg_name (i := 4) sc_Calls_colour.nd rfl (by first | exact Or.inl rfl | exact Or.inr rfl)) pgs_nil))))
      (pss_cons (ps_par (i := 5) (j := 6) rfl sc_Calls_colour.nd rfl rfl (by decide) rfl rfl (pa_cons (pm_call M_Calls_first_free (hr.mono (by omega)) (pv 0) (pa_cons pe_int (pa_cons (pv 3) (pa_cons (pv 2) pa_nil)))) (pa_cons (pm_call M_Calls_first_free (hr.mono (by omega)) (pv 0) (pa_cons pe_int (pa_cons (pv 4) (pa_cons (pv 2) pa_nil)))) pa_nil)) (by rfl))
      (pss_cons (ps_if (pw_or (pt_cmpR op_isN (pv 5) pe_non (nomark _)) (pw_or1 (pt_cmpR op_isN (pv 6) pe_non (nomark _)))).pt (pss_one ps_never) pss_nil)
      (pss_cons (ps_set (i := 7) sc_Calls_colour.nd rfl (Or.inl rfl) (pe_tup pa_nil))
      (pss_cons (ps_if (pt_cmpR op_notN (pm_call M_Calls_at (hr.mono (by omega)) (pv 0) (pa_cons pe_int (pa_cons (pv 4) (pa_cons (pv 5) pa_nil)))) pe_non (nomark _)) (pss_one (ps_set (i := 7) sc_Calls_colour.nd rfl (Or.inl rfl) (pm_call M_Calls_exchange (hr.mono (by omega)) (pv 0) (pa_cons (pv 4) (pa_cons (pv 5) (pa_cons (pv 6) pa_nil)))))) pss_nil)
      (pss_cons (ps_asg (pv 5) (pg_sub (fldC T_Calls (by decide +kernel) (pv 0) rfl) (pv 1) set_list))
      (pss_one (ps_ret (pv 7))))))))), ?_⟩
    have noA : ∀ {m : Str}, ¬ m = "colours" → ¬ m = "right" → ¬ m = "left" → ¬ m = "calls" → (cf cl l r co).lookup m = none := fun a b c d => cf_no _ _ _ _ a b c d
    have hp4 := h4 x hx
    walk_at "e"
    refine ⟨p, dx, _, _, rfl, h1, cf_calls _ _ _ _, ?_⟩
    walk_at "e"
    refine ⟨cl, _, _, _, rfl, rfl, h2, at_ref (i := x) (by omega) rfl, ?_⟩
    walk_at "e"
    refine ⟨p, dx, _, rfl, h1, noA (by decide +kernel) (by decide +kernel) (by decide +kernel) (by decide +kernel), ?_⟩
    walk_at "e"
    refine ⟨p, co, N, 0, e 0 x, m, e, c, rfl, S, by omega, hN, hm, fun o1 H1 x1 ho1 => ?_⟩
    have p1 := x1.ins h1
    walk_at "e"
    refine ⟨p, dx, _, rfl, p1, noA (by decide +kernel) (by decide +kernel) (by decide +kernel) (by decide +kernel), ?_⟩
    walk_at "e"
    refine ⟨p, co, N, 1, e 1 x, m, e, c, rfl, S.ext x1, by omega, hN, hm, fun o2 H2 x12 ho2 => ?_⟩
    have x2 := x1.trans x12
    have p2 := x2.ins h1
    obtain ⟨mine, rfl, hmi, hm0⟩ : ∃ k, o1 = some k ∧ k < m ∧ ∀ y, c y = some k → e 0 y ≠ e 0 x := by
      cases o1 with
      | none =>
        obtain ⟨k, hk, q⟩ := hf0
        obtain ⟨y, _, q2, q3⟩ := ho1 k hk
        exact absurd q2 (q y q3)
      | some k => exact ⟨k, rfl, ho1.1, fun y q z => ho1.2 y (hsu y _ q) z q⟩
    obtain ⟨theirs, rfl, hti, ht1⟩ : ∃ k, o2 = some k ∧ k < m ∧ ∀ y, c y = some k → e 1 y ≠ e 1 x := by
      cases o2 with
      | none =>
        obtain ⟨k, hk, q⟩ := hf1
        obtain ⟨y, _, q2, q3⟩ := ho2 k hk
        exact absurd q2 (q y q3)
      | some k => exact ⟨k, rfl, ho2.1, fun y q z => ho2.2 y (hsu y _ q) z q⟩
    have fin : ∀ (c2 : Nat → Option Nat) (H5 : Hp) (v : V), Ext [co] H H5 → CallsAt C H5 p co N e c2 → Supp N c2 → Proper c2 e → (∀ y k, c2 y = some k → k < m) → (∀ y, c2 y = some mine → e 0 y ≠ e 0 x) → (∀ y, c2 y = some mine → e 1 y ≠ e 1 x) → (∀ y, c2 y = none ↔ c y = none) →
        Q v (L2.upd H5 co (.lst ((tab N fun z => vo (c2 z)).set x (vi mine)))) := by
      intro c2 H5 v y5 S5 su5 P5 m5 a0 a1 n5
      obtain ⟨g1, g2, g3, g4⟩ := colour_end hx hmi su5 P5 m5 a0 a1 n5 hcx
      have e3 := tab_vo_fset (n := N) (i := x) (v := mine) (f := c2)
      have e4 := S5.setC (c' := fset c2 x (some mine))
      rw [← e3] at e4
      exact k (fset c2 x (some mine)) v _ (y5.wr (.inr (by simp)) S5.cols nt_lst) e4 g1 g2 g3 g4
    walk_at "e"
    intro t ht
    generalize hH3 : L2.upd H2 t _ = H3
    have x23 : Ext [] H2 H3 := by rw [← hH3]; exact Ext.add ht
    have x3 := x2.trans x23
    have p3 := x3.ins h1
    walk_at "e"
    refine ⟨p, dx, _, rfl, p3, noA (by decide +kernel) (by decide +kernel) (by decide +kernel) (by decide +kernel), ?_⟩
    walk_at "e"
    refine ⟨p, co, N, 1, e 1 x, mine, e, c, rfl, S.ext x3, by omega, hN, fun o H4 x34 ho => ?_⟩
    have x4 := x3.trans x34
    have p4 := x4.ins h1
    have S4 := S.ext x4
    have c4 := S4.cols
    walk_at "e"
    cases o with
    | none =>
      refine ifF rfl ?_
      walk_at "e"
      refine ⟨p, _, _, _, rfl, p4, cf_colours _ _ _ _, ?_⟩
      walk_at "e"
      refine ⟨co, _, _, x, rfl, rfl, c4, ixN_of (by rw [tab_len]; exact hx) rfl, ?_⟩
      walk_at "e"
      exact fin c H4 _ x4.wide0 S4 hsu hP hlt hm0 (fun y q z => ho y (hsu y _ q) z q) fun y => Iff.rfl
    | some y =>
      refine ifT rfl ?_
      have hne : mine ≠ theirs := fun z => ht1 y (by rw [← z]; exact ho.2.2) ho.2.1
      walk_at "e"
      refine ⟨p, dx, _, rfl, p4, noA (by decide +kernel) (by decide +kernel) (by decide +kernel) (by decide +kernel), ?_⟩
      walk_at "e"
      refine ⟨p, co, N, e 1 x, mine, theirs, e, c, rfl, S4, hN, hsu, hP, hne, ht1, fun found s v q H5 Ch hend y5 S5 => ?_⟩
      obtain ⟨dx5, cl5, l5, r5, as5, g1, _⟩ := S5.ex
      have c5 := S5.cols
      have hf5 := swapped_none Ch.col
      walk_at "e"
      refine ⟨p, _, _, _, rfl, g1, cf_colours _ _ _ _, ?_⟩
      walk_at "e"
      refine ⟨co, _, _, x, rfl, rfl, c5, ixN_of (by rw [tab_len]; exact hx) rfl, ?_⟩
      walk_at "e"
      refine fin _ H5 _ (x4.wide0.trans y5) S5 (fun z j ez => ?_) (Ch.proper hP hne ht1 hend) (swapped_lt hmi hti hlt) (Ch.free0 hne hm0) (Ch.free1 hP hne ht1 hend) hf5
      cases q : c z with
      | none => rw [(hf5 z).mpr q] at ez; cases ez
      | some j => exact hsu z j q
end
end CL
set_option Elab.async false
set_option linter.all false
set_option maxRecDepth 100000
set_option maxHeartbeats 4000000
namespace CL
open PySem PySem.Spec PyProof.Rows L2 RX

local macro_rules | `(tactic| walk_at "e") => `(tactic| (repeat (first
  | refine ⟨_, rfl, ?_⟩
  | refine ⟨_, _, rfl, rfl, ?_⟩
  | refine ⟨_, _, rfl, rfl, (by first | decide | omega | (dsimp only; omega)), ?_⟩
  | refine ⟨_, _, rfl, rfl, cmul1 (by omega), ?_⟩
  | refine ⟨_, _, rfl, rfl, cmul2 (by omega), ?_⟩
  | refine ⟨_, _, rfl, rfl, ⟨by omega, by omega⟩, ?_⟩
  | refine ⟨_, _, rfl, ‹_›, ?_⟩
  | refine ⟨_, _, _, _, rfl, rfl, ‹_›, at_vi (by assumption) rfl, ?_⟩
  | refine ⟨_, _, rfl, SqT.of ‹_›, rfl, ?_⟩
  | refine ⟨_, _, rfl, SqT.of ‹_›, ?_⟩
  | refine ⟨_, _, rfl, SqL.of ‹_›, ?_⟩
  | refine And.intro rfl ?_
  | refine ⟨_, _, rfl, ?_⟩
  | refine And.intro (by first | decide | omega | (dsimp only; omega)) ?_
  | refine And.intro (cmul1 (by omega)) ?_
  | refine And.intro (cmul2 (by omega)) ?_
  | refine And.intro ⟨by omega, by omega⟩ ?_
  | refine And.intro ⟨_, SqT.of ‹_›⟩ ?_
  | refine And.intro ⟨_, SqL.of ‹_›⟩ ?_
  | refine And.intro (Or.inl ⟨rfl, _, SqL.of ‹_›⟩) ?_
  | refine And.intro sz0 ?_
  | refine And.intro sz1 ?_
  | refine And.intro sz2 ?_
  | refine And.intro sz3 ?_
  | refine yesT ?_)))
section
variable {P : Program} {w : World} {K : PySem.W.Frag} {mg : Str → Option Value} {base : Heap}
theorem putF_len (f : Str) (y : V) : ∀ fs : List (Str × V), (putF f y fs).length ≤ fs.length + 1
  | [] => Nat.le_refl _
  | p :: fs => by
    unfold putF
    split
    · simp
    · have := putF_len f y fs
      simp; omega
/-! Calls.__init__ -/
abbrev s_Calls___init : Stmt := inClass (top 24) 0
theorem sc_Calls___init : FnScope ["self", "calls", "left", "right", "call", "one", "other"] ["self", "calls", "left", "right"] (defScope s_Calls___init) := ⟨rfl, rfl, rfl, by decide +kernel, rfl, by decide +kernel, by decide +kernel⟩
def spCallsI (C PA : Addr) : Sp := fun vs H Q _ => ∃ (p dx cl l r N : Nat) (as : List Addr) (e : Nat → Nat → Nat), vs = [.ref p, .ref cl, vi l, vi r] ∧ H p = some (.ins C dx []) ∧ H cl = some (.lst (as.map V.ref)) ∧ as.length = N ∧ N ≤ 1000 ∧
  (∀ i, i < N → H (ag as i) = some (.tup [vi (e 0 i), vi (e 1 i)]) ∧ e 0 i < l ∧ e 1 i < r) ∧ GxR.TabG H PA ∧ ∀ co H', Ext [p] H H' → H co = none → CallsAt C H' p co N e (fun _ => none) → Q .non H'
theorem ok_callsi {f c C PA : Addr} {fd : FuncData} (F : Fun K "__init__" "Calls.__init__" s_Calls___init f fd) (hfc : fd.code = .ref c) (TB : LamX.TabB base mg c PA) (B : Bts mg) (T_Calls : ClF K C ["calls", "left", "right", "colours"]) :
    FnOk P w K mg base CX0 4 f fd ["self", "calls", "left", "right"] (spCallsI C PA) := by
  refine okC F hfc sc_Calls___init (fun vs H Q E h => ?_) (fun A outer s H vs Q E hr h => ?_)
  · obtain ⟨p, dx, cl, l, r, N, as, e, rfl, _⟩ := h
    rfl
  · obtain ⟨p, dx, cl, l, r, N, as, e, rfl, h1, h2, h3, hN, h4, tb, k⟩ := h
    have hr3 : Room (0 + 3) _ := hr
    have hcode : (envOfC "Calls.__init__" (defScope s_Calls___init) s.heap.objs.size f (.ref c)).code = .ref c := rfl
    refine ⟨_, (pss_cons (sfldC T_Calls (by decide +kernel) (pv 0) (pe_lc (own := [("call", 4)]) (g := (gName 4)) (tt := tYes) rfl sc_Calls___init.nd (piL_K K rfl (pv 1)) (blkOk_by (N := ["self", "calls", "left", "right", "call", "one", "other"]) (sc := defScope s_Calls___init) (by decide +kernel)) (fun _ _ _ _ _ => (pg_name (i := 4) sc_Calls___init.nd rfl (by first | exact Or.inl rfl | exact Or.inr rfl))) (fun _ _ _ _ _ => pts_nil) (fun _ _ _ _ _ => (tupT (by rfl) B.tuple (pv 4)))) rfl)
      (pss_cons (ps_if (pt_val (GX.pe_any1 (k := 0) (own := [("one", 5), ("other", 6)]) hr3 (by rfl) B.any TB hcode rfl sc_Calls___init.nd (piL_K K rfl (fldC T_Calls (by decide +kernel) (pv 0) rfl)) (blkOk_by (N := ["self", "calls", "left", "right", "call", "one", "other"]) (sc := defScope s_Calls___init) (by decide +kernel)) (gsc_by (by decide +kernel)) (fun _ _ _ _ _ => (pg_tupK (n := 2) K rfl rfl (pgs_cons (pg_name (i := 5) sc_Calls___init.nd rfl (by first | exact Or.inl rfl | exact Or.inr rfl)) (pgs_cons (pg_name (i := 6) sc_Calls___init.nd rfl (by first | exact Or.inl rfl | exact Or.inr rfl)) pgs_nil)))) (fun _ _ _ _ _ hg => (pe_or (pe_not (pe_chain op_le op_lt pe_int (pv 5) (pv 2))) (pe_one (pe_not (pe_chain op_le op_lt pe_int (pv 6) (pv 3)))))))) (pss_one ps_never) pss_nil)
      (pss_cons (sfldC T_Calls (by decide +kernel) (pv 0) (pv 2) rfl)
      (pss_cons (sfldC T_Calls (by decide +kernel) (pv 0) (pv 3) rfl)
      (pss_one (sfldC T_Calls (by decide +kernel) (pv 0) (pe_op op_rep (pe_lst (pa_cons pe_non pa_nil)) (pe_callB lenL (by rfl) B.len PySem.boot_len (pa_cons (fldC T_Calls (by decide +kernel) (pv 0) rfl) pa_nil))) rfl)))))), ?_⟩
    walk_at "e"
    intro D hD
    refine lc_all hD (src_refs h2 (by simp)) (fun i => .ref (ag as i)) (by omega) (fun i v Ha Hb Kt hi x ⟨ev, eh⟩ kt => ?_) (fun v σ H Q Q' i h => i _ _ h) fun H1 x0 x1 e1 => ?_
    · subst ev eh
      have t1 := x.tup (h4 i (by omega)).1
      walk_at "e"
      exact kt _ Ext.refl
    rw [map_ag] at e1
    have p1 := x1.ins h1
    have npD : D ≠ p := fun z => by rw [z, h1] at hD; cases hD
    walk_at "e"
    refine ⟨p, dx, _, rfl, p1, by show 0 < 1000; decide, ?_⟩
    generalize hH2 : L2.upd H1 p _ = H2
    have y2 : Ext [p] H H2 := by rw [← hH2]; exact x1.wide0.wr (.inr (by simp)) p1 nt_ins
    have p2 := (congrFun hH2.symm p).trans upd_same
    have d2 : H2 D = some (.lst (as.map V.ref)) := by rw [← hH2, upd_ne npD]; exact e1
    have tb2 := y2.tab _ tb
    have r2 : ∀ i, i < N → H2 (ag as i) = some (.tup [vi (e 0 i), vi (e 1 i)]) := fun i hi => y2.at_ _ _ (h4 i hi).1 nt_tup fun m => by
      have : ag as i = p := by simpa using m
      have q := (h4 i hi).1
      rw [this, h1] at q; cases q
    walk_at "e"
    refine ⟨p, dx, _, _, rfl, p2, by rw [lookup_putF, if_pos rfl], ?_⟩
    walk_at "e"
    try refine And.intro tb2 ?_
    refine any1_of (src_refs d2 (by simp)) tb2 (fun i v Ha Hb Kt hi x ⟨ev, eh⟩ kt => ?_) fun H3 x3 => ?_
    · subst ev eh
      have t1 := x.tup (r2 i (by omega))
      have q := (h4 i (by omega)).2
      have ha : decide (((e 0 i : Nat) : Int) < (l : Int)) = true := decide_eq_true (by omega)
      have hb : decide (((e 1 i : Nat) : Int) < (r : Int)) = true := decide_eq_true (by omega)
      walk_at "e"
      refine ifF (by rw [ha]; rfl) ?_
      walk_at "e"
      show Kt (V.bl (!decide (((e 1 i : Nat) : Int) < (r : Int)))) Hb
      rw [hb]
      exact kt _ Ext.refl
    · have p3 := x3.ins p2
      have d3 := x3.lst d2
      walk_at "e"
      refine ⟨p, dx, _, rfl, p3, by show 1 < 1000; decide, ?_⟩
      generalize hH4 : L2.upd H3 p _ = H4
      have y34 : Ext [p] H3 H4 := by rw [← hH4]; exact Ext.refl.wr (.inr (by simp)) p3 nt_ins
      have p4 := (congrFun hH4.symm p).trans upd_same
      walk_at "e"
      refine ⟨p, dx, _, rfl, p4, Nat.lt_of_le_of_lt (putF_len _ _ _) (by show 1 + 1 < 1000; decide), ?_⟩
      generalize hH5 : L2.upd H4 p _ = H5
      have y45 : Ext [p] H4 H5 := by rw [← hH5]; exact Ext.refl.wr (.inr (by simp)) p4 nt_ins
      have p5 := (congrFun hH5.symm p).trans upd_same
      have y5 : Ext [p] H H5 := ((y2.trans x3.wide0).trans y34).trans y45
      have d5 : H5 D = some (.lst (as.map V.ref)) := (y34.trans y45).at_ _ _ d3 nt_lst (by simp [npD])
      walk_at "e"
      intro u hu
      generalize hH6 : L2.upd H5 u _ = H6
      have y56 : Ext [] H5 H6 := by rw [← hH6]; exact Ext.add hu
      have u6 := (congrFun hH6.symm u).trans upd_same
      have p6 := y56.ins p5
      have d6 := y56.lst d5
      walk_at "e"
      refine ⟨p, dx, _, _, rfl, p6, by rw [lookup_putF, if_neg k2, lookup_putF, if_neg k3, lookup_putF, if_pos rfl], ?_⟩
      walk_at "e"
      have el : (((as.map V.ref).length : Nat) : Int).toNat = N := by simp [h3]
      refine ⟨u, _, _, rfl, rfl, u6, by omega, by simp [h3]; omega, by rw [el]; simp; exact sl_of (by omega), fun co hco => ?_⟩
      rw [el, rep_tab]
      generalize hH7 : L2.upd H6 co _ = H7
      have y67 : Ext [] H6 H7 := by rw [← hH7]; exact Ext.add hco
      have c7 := (congrFun hH7.symm co).trans upd_same
      have p7 := y67.ins p6
      have d7 := y67.lst d6
      walk_at "e"
      refine ⟨p, dx, _, rfl, p7, Nat.lt_of_le_of_lt (putF_len _ _ _) (Nat.lt_of_le_of_lt (Nat.succ_le_succ (putF_len _ _ _)) (by show 1 + 1 + 1 < 1000; decide)), ?_⟩
      have nco : H co = none := y5.dom _ (y56.dom _ hco)
      have npc : co ≠ p := fun z => by rw [z, h1] at nco; cases nco
      have y7 : Ext [p] H H7 := y5.trans (y56.trans y67).wide0
      generalize hH8 : L2.upd H7 p _ = H8
      have y78 : Ext [p] H7 H8 := by rw [← hH8]; exact Ext.refl.wr (.inr (by simp)) p7 nt_ins
      have p8 := (congrFun hH8.symm p).trans upd_same
      refine k co _ (y7.trans y78) nco ⟨⟨dx, D, l, r, as, p8, y78.at_ _ _ d7 nt_lst (by simp [npD]), h3, (fun z => by rw [← z, d6] at hco; cases hco), fun i hi => ?_⟩, y78.at_ _ _ c7 nt_lst (by simp [npc])⟩
      refine (y7.trans y78).at_ _ _ (h4 i hi).1 nt_tup fun m => ?_
      have : ag as i = p := by simpa using m
      have q := (h4 i hi).1
      rw [this, h1] at q; cases q
end
end CL
set_option Elab.async false
set_option linter.all false
set_option maxRecDepth 100000
set_option maxHeartbeats 4000000
namespace CL
open PySem PySem.Spec PyProof.Rows L2 RX

local macro_rules | `(tactic| walk_at "e") => `(tactic| (repeat (first
  | refine ⟨_, rfl, ?_⟩
  | refine ⟨_, _, rfl, rfl, ?_⟩
  | refine ⟨_, _, rfl, rfl, (by first | decide | omega | (dsimp only; omega)), ?_⟩
  | refine ⟨_, _, rfl, rfl, cmul1 (by omega), ?_⟩
  | refine ⟨_, _, rfl, rfl, cmul2 (by omega), ?_⟩
  | refine ⟨_, _, rfl, rfl, ⟨by omega, by omega⟩, ?_⟩
  | refine ⟨_, _, rfl, ‹_›, ?_⟩
  | refine ⟨_, _, _, _, rfl, rfl, ‹_›, at_vi (by assumption) rfl, ?_⟩
  | refine ⟨_, _, rfl, SqT.of ‹_›, rfl, ?_⟩
  | refine ⟨_, _, rfl, SqT.of ‹_›, ?_⟩
  | refine ⟨_, _, rfl, SqL.of ‹_›, ?_⟩
  | refine And.intro rfl ?_
  | refine ⟨_, _, rfl, ?_⟩
  | refine And.intro (by first | decide | omega | (dsimp only; omega)) ?_
  | refine And.intro (cmul1 (by omega)) ?_
  | refine And.intro (cmul2 (by omega)) ?_
  | refine And.intro ⟨by omega, by omega⟩ ?_
  | refine And.intro ⟨_, SqT.of ‹_›⟩ ?_
  | refine And.intro ⟨_, SqL.of ‹_›⟩ ?_
  | refine And.intro (Or.inl ⟨rfl, _, SqL.of ‹_›⟩) ?_
  | refine And.intro sz0 ?_
  | refine And.intro sz1 ?_
  | refine And.intro sz2 ?_
  | refine And.intro sz3 ?_
  | refine yesT ?_)))
section
variable {P : Program} {w : World} {K : PySem.W.Frag} {mg : Str → Option Value} {base : Heap}
/-! a net of three rows -/
def clf (m g s : Nat) (d : Addr) : List (Str × V) := putF "calls" (.ref d) (putF "switches" (vi s) (putF "gates" (vi g) (putF "middle" (vi m) [])))
theorem o1 : ¬ (("middle" : Str) = "calls") := by decide +kernel
theorem o2 : ¬ (("middle" : Str) = "switches") := by decide +kernel
theorem o3 : ¬ (("middle" : Str) = "gates") := by decide +kernel
theorem o4 : ¬ (("gates" : Str) = "calls") := by decide +kernel
theorem o5 : ¬ (("gates" : Str) = "switches") := by decide +kernel
theorem o6 : ¬ (("switches" : Str) = "calls") := by decide +kernel
section
variable (m g s : Nat) (d : Addr)
theorem clf_middle : (clf m g s d).lookup ("middle" : Str) = some (vi m) := by
  unfold clf
  rw [lookup_putF, if_neg o1, lookup_putF, if_neg o2, lookup_putF, if_neg o3, lookup_putF, if_pos rfl]
theorem clf_gates : (clf m g s d).lookup ("gates" : Str) = some (vi g) := by
  unfold clf
  rw [lookup_putF, if_neg o4, lookup_putF, if_neg o5, lookup_putF, if_pos rfl]
theorem clf_switches : (clf m g s d).lookup ("switches" : Str) = some (vi s) := by
  unfold clf
  rw [lookup_putF, if_neg o6, lookup_putF, if_pos rfl]
theorem clf_calls : (clf m g s d).lookup ("calls" : Str) = some (.ref d) := by
  unfold clf
  rw [lookup_putF, if_pos rfl]
theorem clf_no {f : Str} (h1 : ¬ f = "calls") (h2 : ¬ f = "switches") (h3 : ¬ f = "gates") (h4 : ¬ f = "middle") : (clf m g s d).lookup f = none := by
  unfold clf
  rw [lookup_putF, if_neg h1, lookup_putF, if_neg h2, lookup_putF, if_neg h3, lookup_putF, if_neg h4]
  all_goals rfl
end
/-- the dict of the calls: the gates ks, their pairs at ad -/
def kd (ks : List Nat) (ad : Nat → Addr) : List (Key × V) := ks.map fun k => ((Sum.inl ((k : Nat) : Int) : Key), V.ref (ad k))
/-- a net of three rows with its calls, the dict at d: goals ot, middle ones nu -/
structure ClosAt (C : Addr) (H : Hp) (p d m g s : Nat) (ks : List Nat) (ot nu : Nat → Nat) : Prop where
  ex : ∃ (dx : Addr) (ad : Nat → Addr), H p = some (.ins C dx (clf m g s d)) ∧ H d = some (.dK (kd ks ad)) ∧ ∀ k ∈ ks, H (ad k) = some (.tup [vi (ot k), vi (nu k)])
theorem ClosAt.ext {C : Addr} {H H' : Hp} {p d m g s : Nat} {ks : List Nat} {ot nu : Nat → Nat} (c : ClosAt C H p d m g s ks ot nu) (x : Ext [] H H') : ClosAt C H' p d m g s ks ot nu := by
  obtain ⟨dx, ad, h, h2, h3⟩ := c.ex
  exact ⟨dx, ad, x.ins h, x.dK h2, fun c hc => x.tup (h3 c hc)⟩
/-- what holds of the calls of a net -/
structure Sound (m g s : Nat) (ks : List Nat) (ot nu : Nat → Nat) : Prop where
  nd : ks.Nodup
  nd2 : ∀ a ∈ ks, ∀ b ∈ ks, ot a = ot b → a = b
  lt1 : ∀ a ∈ ks, a < g * s
  lt2 : ∀ a ∈ ks, ot a < g * s
  ltm : ∀ a ∈ ks, nu a < m
  in_ : ∀ a ∈ ks, ∀ b ∈ ks, nu a = nu b → a / g = b / g → a = b
  out : ∀ a ∈ ks, ∀ b ∈ ks, nu a = nu b → ot a / g = ot b / g → a = b
theorem kd_get {ks : List Nat} {ad : Nat → Addr} {k : Nat} (h : k ∈ ks) (hn : ks.Nodup) : valV (kd ks ad) (Sum.inl ((k : Nat) : Int) : Key) = some (.ref (ad k)) := by
  unfold kd
  induction ks with
  | nil => cases h
  | cons a ks ih =>
    rw [List.map_cons]
    unfold valV
    by_cases q : a = k
    · subst q
      simp
    · rw [List.find?_cons_of_neg (by simp; omega)]
      rcases List.mem_cons.mp h with z | z
      · exact absurd z.symm q
      · exact ih z (List.nodup_cons.mp hn).2
theorem kd_none {ks : List Nat} {ad : Nat → Addr} {k : Nat} (h : k ∉ ks) : valV (kd ks ad) (Sum.inl ((k : Nat) : Int) : Key) = none := by
  unfold kd valV
  rw [List.find?_eq_none.mpr]
  · rfl
  · intro x hx
    obtain ⟨a, ha, rfl⟩ := List.mem_map.mp hx
    have : a ≠ k := fun z => h (z ▸ ha)
    simp; omega
theorem kd_put {ks : List Nat} {ad : Nat → Addr} {k : Nat} {b : Addr} (h : k ∉ ks) : putK (kd ks ad) (Sum.inl ((k : Nat) : Int) : Key) (.ref b) = kd (ks ++ [k]) (fset ad k b) := by
  rw [putK_new _ (kd_none h)]
  unfold kd
  rw [List.map_append]
  have : ks.map (fun x => ((Sum.inl ((x : Nat) : Int) : Key), V.ref (fset ad k b x))) = ks.map (fun x => ((Sum.inl ((x : Nat) : Int) : Key), V.ref (ad x))) := List.map_congr_left fun x hx => by
    have hne : x ≠ k := fun z => h (by rw [← z]; exact hx)
    rw [fset_ne hne]
  rw [this]
  simp [fset]
theorem kd_set {ks : List Nat} {ad : Nat → Addr} {k : Nat} {b : Addr} (h : k ∈ ks) (hn : ks.Nodup) : putK (kd ks ad) (Sum.inl ((k : Nat) : Int) : Key) (.ref b) = kd ks (fset ad k b) := by
  unfold putK
  rw [if_pos (by rw [valV_any, kd_get h hn]; rfl)]
  unfold kd
  rw [List.map_map]
  refine List.map_congr_left fun x hx => ?_
  by_cases q : x = k
  · subst q; simp [fset]
  · have : ¬ ((x : Int) = (k : Int)) := by omega
    simp [fset, q, this]
theorem kd_drop {ks : List Nat} {ad : Nat → Addr} {k : Nat} : dropK (kd ks ad) (Sum.inl ((k : Nat) : Int) : Key) = kd (ks.filter fun x => decide (x ≠ k)) ad := by
  unfold dropK kd
  rw [List.filter_map]
  refine congrArg (List.map _) (List.filter_congr fun x hx => ?_)
  by_cases q : x = k
  · simp [q]
  · have : ¬ ((x : Int) = (k : Int)) := by omega
    simp [q, this]
/-! walks over the dict, locked -/
section
variable {W : List Addr} {H : Hp} {d : Addr} {o : Obj} {ks : List Nat} {ad : Nat → Addr}
theorem kd_at {i : Nat} (h : i < ks.length) : (kd ks ad)[i]? = some ((Sum.inl ((gt ks i : Nat) : Int) : Key), V.ref (ad (gt ks i))) := by
  unfold kd
  rw [List.getElem?_map, some_gt h]; rfl
theorem kd_len : (kd ks ad).length = ks.length := List.length_map _
theorem src_vals (e : H d = some (.frz o (.dK (kd ks ad)))) (hw : d ∉ W) : Src (Itd d o (kd ks ad)) ks.length W H (YV fun i => .ref (ad (gt ks i))) :=
  ⟨fun i H1 x h => ⟨x.at_ _ _ e nt_frz hw, by rw [kd_len]; exact h⟩, fun H1 x => ⟨x.at_ _ _ e nt_frz hw, by rw [kd_len]; exact Nat.le_refl _⟩, fun i H1 v H2 x h ⟨e1, k, e2⟩ => by
    rw [kd_at h] at e2
    have := Option.some.inj e2
    exact ⟨(congrArg Prod.snd this).symm, e1⟩⟩
theorem src_keysD (e : H d = some (.frz o (.dK (kd ks ad)))) (hw : d ∉ W) : Src (Itk d o (kd ks ad)) ks.length W H (YV fun i => vi (gt ks i)) :=
  ⟨fun i H1 x h => ⟨x.at_ _ _ e nt_frz hw, by rw [kd_len]; exact h⟩, fun H1 x => ⟨x.at_ _ _ e nt_frz hw, by rw [kd_len]; exact Nat.le_refl _⟩, fun i H1 v H2 x h ⟨e1, k, y, e2, e3⟩ => by
    rw [kd_at h] at e2
    have e4 : (Sum.inl ((gt ks i : Nat) : Int) : Key) = k := congrArg Prod.fst (Option.some.inj e2)
    exact ⟨by rw [e3, ← e4]; rfl, e1⟩⟩
theorem src_items (e : H d = some (.frz o (.dK (kd ks ad)))) (hw : d ∉ W) : Src (Iti d o (kd ks ad)) ks.length W H (YP (fun i => vi (gt ks i)) fun i => .ref (ad (gt ks i))) :=
  ⟨fun i H1 x h => ⟨x.at_ _ _ e nt_frz hw, by rw [kd_len]; exact h⟩, fun H1 x => ⟨x.at_ _ _ e nt_frz hw, by rw [kd_len]; exact Nat.le_refl _⟩, fun i H1 v H2 x h ⟨T, k, y, e2, e3, e4, e5⟩ => by
    rw [kd_at h] at e2
    have q := Option.some.inj e2
    have q1 : (Sum.inl ((gt ks i : Nat) : Int) : Key) = k := congrArg Prod.fst q
    have q2 : V.ref (ad (gt ks i)) = y := congrArg Prod.snd q
    refine ⟨T, e3, e4, ?_⟩
    rw [e5, ← q1, ← q2]
    rfl⟩
theorem Ext.lock {H : Hp} {d : Addr} {o : Obj} {u : HO} (hd : H d = some u) (nt : NT u) : Ext [d] H (L2.upd H d (.frz o u)) := Ext.refl.wr (.inr (by simp)) hd nt
theorem Ext.unlock {H H' : Hp} {d : Addr} {o : Obj} {u : HO} (hd : H d = some u) (nt : NT u) (x : Ext [] (L2.upd H d (.frz o u)) H') : Ext [] H (L2.upd H' d u) := by
  have hd' : H' d = some (.frz o u) := x.at_ d _ upd_same nt_frz (by simp)
  refine ⟨fun a v e n _ => ?_, fun P ⟨ps, e, t⟩ => ?_, fun a e => ?_⟩
  · by_cases q : a = d
    · subst q; rw [upd_same, ← hd]; exact e
    · rw [upd_ne q]; exact x.at_ a v (by rw [upd_ne q]; exact e) n (by simp)
  · have q : P ≠ d := fun z => by rw [z, hd] at e; exact nt _ (Option.some.inj e)
    obtain ⟨qs, e2, t2⟩ := x.tab P ⟨ps, by rw [upd_ne q]; exact e, t⟩
    exact ⟨qs, by rw [upd_ne q]; exact e2, t2⟩
  · by_cases q : a = d
    · subst q; rw [upd_same] at e; cases e
    · rw [upd_ne q] at e
      have := x.dom a e
      rw [upd_ne q] at this; exact this
end
/-! Clos.__init__ -/
abbrev s_Clos___init : Stmt := inClass (top 26) 0
theorem sc_Clos___init : FnScope ["self", "middle", "gates", "switches"] ["self", "middle", "gates", "switches"] (defScope s_Clos___init) := ⟨rfl, rfl, rfl, by decide +kernel, rfl, by decide +kernel, by decide +kernel⟩
def spClosI (C : Addr) : Sp := fun vs H Q _ => ∃ (p dx m g s : Nat), vs = [.ref p, vi m, vi g, vi s] ∧ H p = some (.ins C dx []) ∧ 1 ≤ m ∧ 1 ≤ g ∧ 1 ≤ s ∧ ∀ d H', Ext [p] H H' → H d = none → (∀ ot nu, ClosAt C H' p d m g s [] ot nu) → Q .non H'
theorem putF_len2 (f : Str) (y : V) : ∀ fs : List (Str × V), (putF f y fs).length ≤ fs.length + 1
  | [] => Nat.le_refl _
  | p :: fs => by
    unfold putF
    split
    · simp
    · have := putF_len2 f y fs
      simp; omega
theorem ok_closi {f C : Addr} {fd : FuncData} (F : Fun K "__init__" "Clos.__init__" s_Clos___init f fd) (T_Clos : ClF K C ["middle", "gates", "switches", "calls"]) : FnOk P w K mg base CX0 1 f fd ["self", "middle", "gates", "switches"] (spClosI C) := by
  refine F.ok sc_Clos___init (fun vs H Q E h => ?_) (fun cdv A outer sh H vs Q E hr h => ?_)
  · obtain ⟨p, dx, m, g, s, rfl, _⟩ := h
    rfl
  · obtain ⟨p, dx, m, g, s, rfl, h1, hm, hg, hs, k⟩ := h
    refine ⟨_, (pss_cons (ps_if (pw_or (pt_cmpR op_lt (pv 1) pe_int (nomark _)) (pw_or (pt_cmpR op_lt (pv 2) pe_int (nomark _)) (pw_or1 (pt_cmpR op_lt (pv 3) pe_int (nomark _))))).pt (pss_one ps_never) pss_nil)
      (pss_cons (sfldC T_Clos (by decide +kernel) (pv 0) (pv 1) rfl)
      (pss_cons (sfldC T_Clos (by decide +kernel) (pv 0) (pv 2) rfl)
      (pss_cons (sfldC T_Clos (by decide +kernel) (pv 0) (pv 3) rfl)
      (pss_one (sfldC T_Clos (by decide +kernel) (pv 0) pe_dnewK rfl)))))), ?_⟩
    walk_at "e"
    refine ifF (decide_eq_false (by omega)) ?_
    walk_at "e"
    refine ifF (decide_eq_false (by omega)) ?_
    walk_at "e"
    refine ifF (decide_eq_false (by omega)) ?_
    walk_at "e"
    refine ⟨p, dx, _, rfl, h1, by show 0 < 1000; decide, ?_⟩
    generalize hH1 : upd H p _ = H1
    have y1 : Ext [p] H H1 := by rw [← hH1]; exact Ext.refl.wr (.inr (by simp)) h1 nt_ins
    have p1 := (congrFun hH1.symm p).trans upd_same
    walk_at "e"
    refine ⟨p, dx, _, rfl, p1, by show 1 < 1000; decide, ?_⟩
    generalize hH2 : upd H1 p _ = H2
    have y2 : Ext [p] H H2 := by rw [← hH2]; exact y1.wr (.inr (by simp)) p1 nt_ins
    have p2 := (congrFun hH2.symm p).trans upd_same
    walk_at "e"
    refine ⟨p, dx, _, rfl, p2, Nat.lt_of_le_of_lt (putF_len2 _ _ _) (by show 1 + 1 < 1000; decide), ?_⟩
    generalize hH3 : upd H2 p _ = H3
    have y3 : Ext [p] H H3 := by rw [← hH3]; exact y2.wr (.inr (by simp)) p2 nt_ins
    have p3 := (congrFun hH3.symm p).trans upd_same
    walk_at "e"
    intro d hd
    have nd : H d = none := y3.dom _ hd
    have npd : d ≠ p := fun z => by rw [z, h1] at nd; cases nd
    generalize hH4 : upd H3 d _ = H4
    have y34 : Ext [] H3 H4 := by rw [← hH4]; exact Ext.add hd
    have d4 := (congrFun hH4.symm d).trans upd_same
    have p4 := y34.ins p3
    walk_at "e"
    refine ⟨p, dx, _, rfl, p4, Nat.lt_of_le_of_lt (putF_len2 _ _ _) (Nat.lt_of_le_of_lt (Nat.succ_le_succ (putF_len2 _ _ _)) (by show 1 + 1 + 1 < 1000; decide)), ?_⟩
    refine k d _ ((y3.trans y34.wide0).wr (.inr (by simp)) p4 nt_ins) nd fun ot nu => ⟨dx, fun _ => 0, upd_same, by rw [upd_ne npd]; exact d4, fun c hc => nomatch hc⟩
/-! Clos.size, Clos.ends -/
abbrev s_Clos_size : Stmt := inClass (top 26) 1
theorem sc_Clos_size : FnScope ["self"] ["self"] (defScope s_Clos_size) := ⟨rfl, rfl, rfl, by decide +kernel, rfl, by decide +kernel, by decide +kernel⟩
def spSize (C : Addr) : Sp := fun vs H Q _ => ∃ (p d m g s : Nat) (ks : List Nat) (ot nu : Nat → Nat), vs = [.ref p] ∧ ClosAt C H p d m g s ks ot nu ∧ g ≤ 1000 ∧ Q (vi (g * s)) H
theorem ok_size {f C : Addr} {fd : FuncData} (F : Fun K "size" "Clos.size" s_Clos_size f fd) (T_Clos : ClF K C ["middle", "gates", "switches", "calls"]) : FnOk P w K mg base CX0 1 f fd ["self"] (spSize C) := by
  refine F.ok sc_Clos_size (fun vs H Q E h => ?_) (fun cdv A outer sh H vs Q E hr h => ?_)
  · obtain ⟨p, d, m, g, s, ks, ot, nu, rfl, _⟩ := h
    rfl
  · obtain ⟨p, d, m, g, s, ks, ot, nu, rfl, S, hg, k⟩ := h
    obtain ⟨dx, ad, h1, h2, h3⟩ := S.ex
    refine ⟨_, (pss_one (ps_ret (pe_op op_mul (fldC T_Clos (by decide +kernel) (pv 0) rfl) (fldC T_Clos (by decide +kernel) (pv 0) rfl)))), ?_⟩
    walk_at "e"
    refine ⟨p, dx, _, _, rfl, h1, clf_gates _ _ _ _, ?_⟩
    walk_at "e"
    refine ⟨p, dx, _, _, rfl, h1, clf_switches _ _ _ _, ?_⟩
    refine ⟨_, _, rfl, rfl, cmul1 (by omega), ?_⟩
    have e : V.int ((g : Int) * (s : Int)) = vi (g * s) := congrArg V.int (by push_cast; rfl)
    show Q (V.int ((g : Int) * (s : Int))) H
    rw [e]
    exact k
abbrev s_Clos_ends : Stmt := inClass (top 26) 3
theorem sc_Clos_ends : FnScope ["self", "one", "other"] ["self", "one", "other"] (defScope s_Clos_ends) := ⟨rfl, rfl, rfl, by decide +kernel, rfl, by decide +kernel, by decide +kernel⟩
def spEnds (C : Addr) : Sp := fun vs H Q _ => ∃ (p d m g s a b : Nat) (ks : List Nat) (ot nu : Nat → Nat), vs = [.ref p, vi a, vi b] ∧ ClosAt C H p d m g s ks ot nu ∧ 1 ≤ g ∧ g ≤ 1000 ∧ ∀ q H', Ext [] H H' → H' q = some (.tup [vi (a / g), vi (b / g)]) → Q (.ref q) H'
theorem ok_ends {f C : Addr} {fd : FuncData} (F : Fun K "ends" "Clos.ends" s_Clos_ends f fd) (T_Clos : ClF K C ["middle", "gates", "switches", "calls"]) : FnOk P w K mg base CX0 1 f fd ["self", "one", "other"] (spEnds C) := by
  refine F.ok sc_Clos_ends (fun vs H Q E h => ?_) (fun cdv A outer sh H vs Q E hr h => ?_)
  · obtain ⟨p, d, m, g, s, a, b, ks, ot, nu, rfl, _⟩ := h
    rfl
  · obtain ⟨p, d, m, g, s, a, b, ks, ot, nu, rfl, S, hg1, hg, k⟩ := h
    obtain ⟨dx, ad, h1, h2, h3⟩ := S.ex
    refine ⟨_, (pss_one (ps_ret (pe_tup (pa_cons (pe_op op_fdiv (pv 1) (fldC T_Clos (by decide +kernel) (pv 0) rfl)) (pa_cons (pe_op op_fdiv (pv 2) (fldC T_Clos (by decide +kernel) (pv 0) rfl)) pa_nil))))), ?_⟩
    walk_at "e"
    refine ⟨p, dx, _, _, rfl, h1, clf_gates _ _ _ _, ?_⟩
    walk_at "e"
    refine ⟨p, dx, _, _, rfl, h1, clf_gates _ _ _ _, ?_⟩
    walk_at "e"
    intro q hq
    have e1 : V.int ((a : Int) / (g : Int)) = vi (a / g) := congrArg V.int (by push_cast; rfl)
    have e2 : V.int ((b : Int) / (g : Int)) = vi (b / g) := congrArg V.int (by push_cast; rfl)
    refine k q _ (Ext.add hq) ?_
    rw [upd_same]
    show some (HO.tup [V.int ((a : Int) / (g : Int)), V.int ((b : Int) / (g : Int))]) = _
    rw [e1, e2]
end
end CL
set_option Elab.async false
set_option linter.all false
set_option maxRecDepth 100000
set_option maxHeartbeats 4000000
namespace CL
open PySem PySem.Spec PyProof.Rows L2 RX

local macro_rules | `(tactic| walk_at "e") => `(tactic| (repeat (first
  | refine ⟨_, rfl, ?_⟩
  | refine ⟨_, _, rfl, rfl, ?_⟩
  | refine ⟨_, _, rfl, rfl, (by first | decide | omega | (dsimp only; omega)), ?_⟩
  | refine ⟨_, _, rfl, rfl, cmul1 (by omega), ?_⟩
  | refine ⟨_, _, rfl, rfl, cmul2 (by omega), ?_⟩
  | refine ⟨_, _, rfl, rfl, ⟨by omega, by omega⟩, ?_⟩
  | refine ⟨_, _, rfl, ‹_›, ?_⟩
  | refine ⟨_, _, _, _, rfl, rfl, ‹_›, at_vi (by assumption) rfl, ?_⟩
  | refine ⟨_, _, rfl, SqT.of ‹_›, rfl, ?_⟩
  | refine ⟨_, _, rfl, SqT.of ‹_›, ?_⟩
  | refine ⟨_, _, rfl, SqL.of ‹_›, ?_⟩
  | refine And.intro rfl ?_
  | refine ⟨_, _, rfl, ?_⟩
  | refine And.intro (by first | decide | omega | (dsimp only; omega)) ?_
  | refine And.intro (cmul1 (by omega)) ?_
  | refine And.intro (cmul2 (by omega)) ?_
  | refine And.intro ⟨by omega, by omega⟩ ?_
  | refine And.intro ⟨_, SqT.of ‹_›⟩ ?_
  | refine And.intro ⟨_, SqL.of ‹_›⟩ ?_
  | refine And.intro (Or.inl ⟨rfl, _, SqL.of ‹_›⟩) ?_
  | refine And.intro sz0 ?_
  | refine And.intro sz1 ?_
  | refine And.intro sz2 ?_
  | refine And.intro sz3 ?_
  | refine yesT ?_)))
section
variable {P : Program} {w : World} {K : PySem.W.Frag} {mg : Str → Option Value} {base : Heap}
theorem mem_ksw {ks : List Nat} {i : Nat} (h : i < ks.length) : gt ks i ∈ ks := gt_mem h
theorem filt_map (l : List Nat) (q : Nat → Bool) (G : Nat → V) : ((List.range l.length).filter fun i => q (gt l i)).map (fun i => G (gt l i)) = (l.filter q).map G := by
  have h1 : ((List.range l.length).filter fun i => q (gt l i)).map (fun i => G (gt l i)) = (((List.range l.length).map (gt l)).filter q).map G := by
    rw [List.filter_map, List.map_map]; rfl
  rw [h1, map_gt]
theorem all_map (l : List Nat) (G : Nat → V) : (List.range l.length).map (fun i => G (gt l i)) = l.map G := by
  have h1 : (List.range l.length).map (fun i => G (gt l i)) = ((List.range l.length).map (gt l)).map G := by rw [List.map_map]; rfl
  rw [h1, map_gt]
theorem vi_ints (l : List Nat) : l.map vi = (l.map fun n => ((n : Nat) : Int)).map V.int := by rw [List.map_map]; rfl
theorem ints_back {ns : List Int} {l : List Nat} (h : ns.Perm (l.map fun n => ((n : Nat) : Int))) : ∃ us : List Nat, us.Perm l ∧ ns.map V.int = us.map vi := by
  refine ⟨ns.map Int.toNat, ?_, ?_⟩
  · have := h.map Int.toNat
    rw [List.map_map] at this
    have e : l.map (Int.toNat ∘ fun n => ((n : Nat) : Int)) = l := by
      have : (Int.toNat ∘ fun n => ((n : Nat) : Int)) = id := by funext n; simp
      rw [this, List.map_id]
    rwa [e] at this
  · rw [List.map_map]
    refine List.map_congr_left fun n hn => ?_
    obtain ⟨k, _, e⟩ := List.mem_map.mp (h.mem_iff.mp hn)
    subst e
    rfl
/-- what stands behind a lock -/
theorem lock_facts {C : Addr} {H : Hp} {p d m g s dx : Nat} {ks : List Nat} {ot nu : Nat → Nat} {ad : Nat → Addr} {od : Obj} (h1 : H p = some (.ins C dx (clf m g s d))) (h2 : H d = some (.dK (kd ks ad))) (h3 : ∀ k ∈ ks, H (ad k) = some (.tup [vi (ot k), vi (nu k)])) :
    L2.upd H d (.frz od (.dK (kd ks ad))) p = some (.ins C dx (clf m g s d)) ∧ ∀ k ∈ ks, L2.upd H d (.frz od (.dK (kd ks ad))) (ad k) = some (.tup [vi (ot k), vi (nu k)]) :=
  ⟨by rw [upd_ne (fun z => by rw [z, h2] at h1; cases h1)]; exact h1, fun k hk => by
    rw [upd_ne (fun z => by have := h3 k hk; rw [z, h2] at this; cases this)]; exact h3 k hk⟩
/-! Clos.check -/
abbrev s_Clos_check : Stmt := inClass (top 26) 2
theorem sc_Clos_check : FnScope ["self", "one", "other", "call"] ["self", "one", "other"] (defScope s_Clos_check) := ⟨rfl, rfl, rfl, by decide +kernel, rfl, by decide +kernel, by decide +kernel⟩
def spClosK (C : Addr) : Sp := fun vs H Q _ => ∃ (p d m g s a b : Nat) (ks : List Nat) (ot nu : Nat → Nat), vs = [.ref p, vi a, vi b] ∧ ClosAt C H p d m g s ks ot nu ∧ g ≤ 1000 ∧ ks.length ≤ 1000 ∧ a < g * s ∧ b < g * s ∧ a ∉ ks ∧ (∀ k ∈ ks, ot k ≠ b) ∧ ∀ H', Ext [] H H' → Q .non H'
theorem ok_closk {f C : Addr} {fd : FuncData} (F : Fun K "check" "Clos.check" s_Clos_check f fd) (T_Clos : ClF K C ["middle", "gates", "switches", "calls"])
    (M_Clos_size : MtF P w K mg base C "size" 1 ["self"] (spSize C)) : FnOk P w K mg base CX0 2 f fd ["self", "one", "other"] (spClosK C) := by
  refine F.ok sc_Clos_check (fun vs H Q E h => ?_) (fun cdv A outer sh H vs Q E hr h => ?_)
  · obtain ⟨p, d, m, g, s, a, b, ks, ot, nu, rfl, _⟩ := h
    rfl
  · obtain ⟨p, d, m, g, s, a, b, ks, ot, nu, rfl, S, hg, hkl, ha, hb, hak, hbk, k⟩ := h
    obtain ⟨dx, ad, h1, h2, h3⟩ := S.ex
    refine ⟨_, (pss_cons (ps_if (pw_or (pt_not (pt_chain op_le op_lt pe_int (pv 1) (pm_call0 M_Clos_size (hr.mono (by omega)) (pv 0)))) (pw_or1 (pt_not (pt_chain op_le op_lt pe_int (pv 2) (pm_call0 M_Clos_size (hr.mono (by omega)) (pv 0)))))).pt (pss_one ps_never) pss_nil)
      (pss_one (ps_if (pw_or (pt_cmp (pc_din (hu_of hr) (pv 1) (fldC T_Clos (by decide +kernel) (pv 0) rfl))) (pw_or1 (pt_cmpR inS (pv 2) (pe_lock (pe_lc (own := [("call", 3)]) (g := (gName 3)) (tt := tYes) rfl sc_Clos_check.nd (pi_values (fldC T_Clos (by decide +kernel) (pv 0) rfl)) (blkOk_by (N := ["self", "one", "other", "call"]) (sc := defScope s_Clos_check) (by decide +kernel)) (fun _ _ _ _ _ => (pg_name (i := 3) sc_Clos_check.nd rfl (by first | exact Or.inl rfl | exact Or.inr rfl))) (fun _ _ _ _ _ => pts_nil) (fun _ _ _ _ _ => (pe_ix ixT (pv 3) pe_int (fun _ _ => rfl))))) (by rfl)))).pt (pss_one ps_never) pss_nil))), ?_⟩
    walk_at "e"
    refine ⟨p, dx, _, rfl, h1, clf_no _ _ _ _ (by decide +kernel) (by decide +kernel) (by decide +kernel) (by decide +kernel), ?_⟩
    walk_at "e"
    refine ⟨p, d, m, g, s, ks, ot, nu, rfl, S, hg, ?_⟩
    walk_at "e"
    refine ifF (by rw [decide_eq_true (by omega)]; rfl) ?_
    walk_at "e"
    refine ⟨p, dx, _, rfl, h1, clf_no _ _ _ _ (by decide +kernel) (by decide +kernel) (by decide +kernel) (by decide +kernel), ?_⟩
    walk_at "e"
    refine ⟨p, d, m, g, s, ks, ot, nu, rfl, S, hg, ?_⟩
    walk_at "e"
    refine ifF (by rw [decide_eq_true (by omega)]; rfl) ?_
    walk_at "e"
    refine ⟨p, dx, _, _, rfl, h1, clf_calls _ _ _ _, ?_⟩
    refine ⟨d, _, rfl, DGet.k (k := Sum.inl ((a : Nat) : Int)) h2, ?_⟩
    rw [kd_none hak]
    walk_at "e"
    refine ⟨d, _, h2, trivial, fun od => ?_⟩
    obtain ⟨l1, l3⟩ := lock_facts (od := od) h1 h2 h3
    walk_at "e"
    refine ⟨p, dx, _, _, rfl, l1, clf_calls _ _ _ _, ?_⟩
    refine ⟨d, od, _, rfl, upd_same, ?_⟩
    intro D hD
    refine lc_all hD (src_vals upd_same (by simp)) (fun i => vi (ot (gt ks i))) (by omega) (fun i v Ha Hb Kt hi x ⟨ev, eh⟩ kt => ?_) (fun v σ H Q Q' i h => i _ _ h) fun H1 x0 x1 e1 => ?_
    · subst ev eh
      have t1 := x.tup (l3 _ (mem_ksw hi))
      walk_at "e"
      refine ⟨ad (gt ks i), _, 0, _, rfl, rfl, t1, rfl, ?_⟩
      exact kt _ Ext.refl
    · have e2 : H1 D = some (.lst ((ks.map ot).map vi)) := by
        rw [e1, all_map ks (fun y => vi (ot y)), List.map_map]; rfl
      refine ⟨x1.at_ d _ upd_same nt_frz (by simp), ?_⟩
      have xu := Ext.unlock h2 nt_dK x1
      have ndD : D ≠ d := fun z => by rw [z, upd_same] at hD; cases hD
      generalize hH2 : L2.upd H1 d _ = H2 at *
      have e3 : H2 D = some (.lst ((ks.map ot).map vi)) := by rw [← hH2, upd_ne ndD]; exact e2
      refine ⟨D, _, rfl, .inl e3, rfl, flat_vi _, ?_⟩
      have hin : inV (vi b) ((ks.map ot).map vi) = false := by
        unfold inV
        rw [List.any_eq_false]
        intro y hy
        obtain ⟨z, hz, rfl⟩ := List.mem_map.mp hy
        obtain ⟨k', hk', rfl⟩ := List.mem_map.mp hz
        have := hbk k' hk'
        show ¬ decide (((ot k' : Nat) : Int) = (b : Int)) = true
        rw [decide_eq_true_eq]; omega
      rw [show (if false = true then !inV (vi b) ((ks.map ot).map vi) else inV (vi b) ((ks.map ot).map vi)) = false from hin]
      walk_at "e"
      exact k _ xu
/-! Clos.used_in, Clos.used_out -/
abbrev s_Clos_used_in : Stmt := inClass (top 26) 4
theorem sc_Clos_used_in : FnScope ["self", "switch", "one", "call"] ["self", "switch"] (defScope s_Clos_used_in) := ⟨rfl, rfl, rfl, by decide +kernel, rfl, by decide +kernel, by decide +kernel⟩
def spUsed (C : Addr) (e : (Nat → Nat) → Nat → Nat) : Sp := fun vs H Q _ => ∃ (p d m g s x : Nat) (ks : List Nat) (ot nu : Nat → Nat), vs = [.ref p, vi x] ∧ ClosAt C H p d m g s ks ot nu ∧ 1 ≤ g ∧ g ≤ 1000 ∧ ks.length < 64 ∧
  ∀ (us : List Nat) q H', us.Perm ((ks.filter fun k => decide (e ot k / g = x)).map nu) → Ext [] H H' → H' q = some (.lst (us.map vi)) → Q (.ref q) H'
theorem ok_usedin {f C : Addr} {fd : FuncData} (F : Fun K "used_in" "Clos.used_in" s_Clos_used_in f fd) (B : Bts mg) (T_Clos : ClF K C ["middle", "gates", "switches", "calls"]) : FnOk P w K mg base CX0 1 f fd ["self", "switch"] (spUsed C fun _ k => k) := by
  refine F.ok sc_Clos_used_in (fun vs H Q E h => ?_) (fun cdv A outer sh H vs Q E hr h => ?_)
  · obtain ⟨p, d, m, g, s, x, ks, ot, nu, rfl, _⟩ := h
    rfl
  · obtain ⟨p, d, m, g, s, x, ks, ot, nu, rfl, S, hg1, hg, hkl, k⟩ := h
    obtain ⟨dx, ad, h1, h2, h3⟩ := S.ex
    refine ⟨_, (pss_one (ps_ret (pe_callB cr_sorted (by rfl) B.sorted (by decide +kernel) (pa_cons (pe_lock (pe_lc (own := [("one", 2), ("call", 3)]) (g := _) rfl sc_Clos_used_in.nd (pi_items (fldC T_Clos (by decide +kernel) (pv 0) rfl)) (blkOk_by (N := ["self", "switch", "one", "call"]) (sc := defScope s_Clos_used_in) (by decide +kernel)) (fun _ _ _ _ _ => (pg_tupK (n := 2) K rfl rfl (pgs_cons (pg_name (i := 2) sc_Clos_used_in.nd rfl (by first | exact Or.inl rfl | exact Or.inr rfl)) (pgs_cons (pg_name (i := 3) sc_Clos_used_in.nd rfl (by first | exact Or.inl rfl | exact Or.inr rfl)) pgs_nil)))) (fun _ _ _ _ _ => (pts_one (pt_cmpR op_eq (pe_op op_fdiv (pv 2) (fldC T_Clos (by decide +kernel) (pv 0) rfl)) (pv 1) (nomark _)))) (fun _ _ _ _ _ => (pe_ix ixT (pv 3) pe_int (fun _ _ => rfl))))) pa_nil)))), ?_⟩
    walk_at "e"
    refine ⟨d, _, h2, trivial, fun od => ?_⟩
    obtain ⟨l1, l3⟩ := lock_facts (od := od) h1 h2 h3
    walk_at "e"
    refine ⟨p, dx, _, _, rfl, l1, clf_calls _ _ _ _, ?_⟩
    refine ⟨d, od, _, rfl, upd_same, ?_⟩
    intro D hD
    refine lc_val hD (src_items upd_same (by simp)) (fun i => decide ( (gt ks i) / g = x)) (fun i => vi (nu (gt ks i))) (by omega) (fun i v Ha Hb Kt Kf hi y YY0 kt kf => ?_) fun H1 x0 x1 e1 => ?_
    · obtain ⟨T, ev, hT, eh⟩ := YY0
      subst ev eh
      have hk := mem_ksw hi
      generalize hHb : L2.upd Ha T _ = Hb at *
      have y2 : Ext [] Ha Hb := by rw [← hHb]; exact Ext.add hT
      have T2 := (congrFun hHb.symm T).trans upd_same
      have l1b := (y.trans y2).ins l1
      have t1 := (y.trans y2).tup (l3 _ hk)
      walk_at "e"
      refine ⟨p, dx, _, _, rfl, l1b, clf_gates _ _ _ _, ?_⟩
      walk_at "e"
      have ee : V.int (((gt ks i : Nat) : Int) / (g : Int)) = vi (gt ks i / g) := congrArg V.int (by push_cast; rfl)
      refine ifB (fun hb => ?_) (fun hb => ?_)
      · have hb : gt ks i / g = x := by
          have := V.int.inj (ee.symm.trans (of_decide_eq_true hb))
          omega
        walk_at "e"
        refine ⟨ad (gt ks i), _, 1, _, rfl, rfl, t1, rfl, ?_⟩
        exact kt _ (decide_eq_true hb) y2
      · have hb : ¬ gt ks i / g = x := fun z => (of_decide_eq_false hb) (ee.trans (congrArg vi z))
        exact kf _ (decide_eq_false hb) y2
    · have e2 : H1 D = some (.lst (((ks.filter fun k => decide ( k / g = x)).map nu).map vi)) := by
        rw [e1, filt_map ks (fun y => decide ( y / g = x)) (fun y => vi (nu y)), List.map_map]; rfl
      refine ⟨x1.at_ d _ upd_same nt_frz (by simp), ?_⟩
      have xu := Ext.unlock h2 nt_dK x1
      have ndD : D ≠ d := fun z => by rw [z, upd_same] at hD; cases hD
      generalize hH2 : L2.upd H1 d _ = H2 at *
      have e3 : H2 D = some (.lst (((ks.filter fun k => decide ( k / g = x)).map nu).map vi)) := by rw [← hH2, upd_ne ndD]; exact e2
      have hfl := List.length_filter_le (fun k => decide ( k / g = x)) ks
      refine ⟨D, _, rfl, .of (by rw [e3, vi_ints]), by simp; omega, fun ns' q hperm _ hq => ?_⟩
      obtain ⟨us, hu1, hu2⟩ := ints_back hperm
      rw [hu2]
      exact k us q _ hu1 (xu.trans (Ext.add hq)) upd_same
abbrev s_Clos_used_out : Stmt := inClass (top 26) 5
theorem sc_Clos_used_out : FnScope ["self", "switch", "call"] ["self", "switch"] (defScope s_Clos_used_out) := ⟨rfl, rfl, rfl, by decide +kernel, rfl, by decide +kernel, by decide +kernel⟩
theorem ok_usedout {f C : Addr} {fd : FuncData} (F : Fun K "used_out" "Clos.used_out" s_Clos_used_out f fd) (B : Bts mg) (T_Clos : ClF K C ["middle", "gates", "switches", "calls"]) : FnOk P w K mg base CX0 1 f fd ["self", "switch"] (spUsed C fun ot k => ot k) := by
  refine F.ok sc_Clos_used_out (fun vs H Q E h => ?_) (fun cdv A outer sh H vs Q E hr h => ?_)
  · obtain ⟨p, d, m, g, s, x, ks, ot, nu, rfl, _⟩ := h
    rfl
  · obtain ⟨p, d, m, g, s, x, ks, ot, nu, rfl, S, hg1, hg, hkl, k⟩ := h
    obtain ⟨dx, ad, h1, h2, h3⟩ := S.ex
    refine ⟨_, (pss_one (ps_ret (pe_callB cr_sorted (by rfl) B.sorted (by decide +kernel) (pa_cons (pe_lock (pe_lc (own := [("call", 2)]) (g := (gName 2)) rfl sc_Clos_used_out.nd (pi_values (fldC T_Clos (by decide +kernel) (pv 0) rfl)) (blkOk_by (N := ["self", "switch", "call"]) (sc := defScope s_Clos_used_out) (by decide +kernel)) (fun _ _ _ _ _ => (pg_name (i := 2) sc_Clos_used_out.nd rfl (by first | exact Or.inl rfl | exact Or.inr rfl))) (fun _ _ _ _ _ => (pts_one (pt_cmpR op_eq (pe_op op_fdiv (pe_ix ixT (pv 2) pe_int (fun _ _ => rfl)) (fldC T_Clos (by decide +kernel) (pv 0) rfl)) (pv 1) (nomark _)))) (fun _ _ _ _ _ => (pe_ix ixT (pv 2) pe_int (fun _ _ => rfl))))) pa_nil)))), ?_⟩
    walk_at "e"
    refine ⟨d, _, h2, trivial, fun od => ?_⟩
    obtain ⟨l1, l3⟩ := lock_facts (od := od) h1 h2 h3
    walk_at "e"
    refine ⟨p, dx, _, _, rfl, l1, clf_calls _ _ _ _, ?_⟩
    refine ⟨d, od, _, rfl, upd_same, ?_⟩
    intro D hD
    refine lc_val hD (src_vals upd_same (by simp)) (fun i => decide (ot (gt ks i) / g = x)) (fun i => vi (nu (gt ks i))) (by omega) (fun i v Ha Hb Kt Kf hi y ⟨ev, eh⟩ kt kf => ?_) fun H1 x0 x1 e1 => ?_
    · subst ev eh
      have hk := mem_ksw hi
      have l1b := y.ins l1
      have t1 := y.tup (l3 _ hk)
      walk_at "e"
      refine ⟨ad (gt ks i), _, 0, _, rfl, rfl, t1, rfl, ?_⟩
      walk_at "e"
      refine ⟨p, dx, _, _, rfl, l1b, clf_gates _ _ _ _, ?_⟩
      walk_at "e"
      have ee : V.int (((ot (gt ks i) : Nat) : Int) / (g : Int)) = vi (ot (gt ks i) / g) := congrArg V.int (by push_cast; rfl)
      refine ifB (fun hb => ?_) (fun hb => ?_)
      · have hb : ot (gt ks i) / g = x := by
          have := V.int.inj (ee.symm.trans (of_decide_eq_true hb))
          omega
        walk_at "e"
        refine ⟨ad (gt ks i), _, 1, _, rfl, rfl, t1, rfl, ?_⟩
        exact kt _ (decide_eq_true hb) Ext.refl
      · have hb : ¬ ot (gt ks i) / g = x := fun z => (of_decide_eq_false hb) (ee.trans (congrArg vi z))
        exact kf _ (decide_eq_false hb) Ext.refl
    · have e2 : H1 D = some (.lst (((ks.filter fun k => decide (ot k / g = x)).map nu).map vi)) := by
        rw [e1, filt_map ks (fun y => decide (ot y / g = x)) (fun y => vi (nu y)), List.map_map]; rfl
      refine ⟨x1.at_ d _ upd_same nt_frz (by simp), ?_⟩
      have xu := Ext.unlock h2 nt_dK x1
      have ndD : D ≠ d := fun z => by rw [z, upd_same] at hD; cases hD
      generalize hH2 : L2.upd H1 d _ = H2 at *
      have e3 : H2 D = some (.lst (((ks.filter fun k => decide (ot k / g = x)).map nu).map vi)) := by rw [← hH2, upd_ne ndD]; exact e2
      have hfl := List.length_filter_le (fun k => decide (ot k / g = x)) ks
      refine ⟨D, _, rfl, .of (by rw [e3, vi_ints]), by simp; omega, fun ns' q hperm _ hq => ?_⟩
      obtain ⟨us, hu1, hu2⟩ := ints_back hperm
      rw [hu2]
      exact k us q _ hu1 (xu.trans (Ext.add hq)) upd_same
end
end CL
set_option Elab.async false
set_option linter.all false
set_option maxRecDepth 100000
set_option maxHeartbeats 4000000
namespace CL
open PySem PySem.Spec PyProof.Rows L2 RX

local macro_rules | `(tactic| walk_at "e") => `(tactic| (repeat (first
  | refine ⟨_, rfl, ?_⟩
  | refine ⟨_, _, rfl, rfl, ?_⟩
  | refine ⟨_, _, rfl, rfl, (by first | decide | omega | (dsimp only; omega)), ?_⟩
  | refine ⟨_, _, rfl, rfl, cmul1 (by omega), ?_⟩
  | refine ⟨_, _, rfl, rfl, cmul2 (by omega), ?_⟩
  | refine ⟨_, _, rfl, rfl, ⟨by omega, by omega⟩, ?_⟩
  | refine ⟨_, _, rfl, ‹_›, ?_⟩
  | refine ⟨_, _, _, _, rfl, rfl, ‹_›, at_vi (by assumption) rfl, ?_⟩
  | refine ⟨_, _, rfl, SqT.of ‹_›, rfl, ?_⟩
  | refine ⟨_, _, rfl, SqT.of ‹_›, ?_⟩
  | refine ⟨_, _, rfl, SqL.of ‹_›, ?_⟩
  | refine And.intro rfl ?_
  | refine ⟨_, _, rfl, ?_⟩
  | refine And.intro (by first | decide | omega | (dsimp only; omega)) ?_
  | refine And.intro (cmul1 (by omega)) ?_
  | refine And.intro (cmul2 (by omega)) ?_
  | refine And.intro ⟨by omega, by omega⟩ ?_
  | refine And.intro ⟨_, SqT.of ‹_›⟩ ?_
  | refine And.intro ⟨_, SqL.of ‹_›⟩ ?_
  | refine And.intro (Or.inl ⟨rfl, _, SqL.of ‹_›⟩) ?_
  | refine And.intro sz0 ?_
  | refine And.intro sz1 ?_
  | refine And.intro sz2 ?_
  | refine And.intro sz3 ?_
  | refine yesT ?_)))
section
variable {P : Program} {w : World} {K : PySem.W.Frag} {mg : Str → Option Value} {base : Heap}
theorem in_vi (l : List Nat) (i : Nat) : inV (vi i) (l.map vi) = decide (i ∈ l) := by
  unfold inV
  induction l with
  | nil => rfl
  | cons x l ih =>
    rw [List.map_cons, List.any_cons, ih]
    have : eqV (vi x) (vi i) = decide (x = i) := by
      show decide ((x : Int) = (i : Int)) = decide (x = i)
      by_cases h : x = i
      · subst h; simp
      · rw [decide_eq_false h, decide_eq_false (by omega)]
    rw [this]
    by_cases h : x = i
    · subst h; simp
    · simp [h, show ¬ i = x from fun z => h z.symm]
theorem used_mem {us ks : List Nat} {q : Nat → Bool} {nu : Nat → Nat} (h : us.Perm ((ks.filter q).map nu)) (i : Nat) : i ∈ us ↔ ∃ k ∈ ks, q k = true ∧ nu k = i := by
  rw [h.mem_iff, List.mem_map]
  constructor
  · rintro ⟨k, hk, e⟩
    obtain ⟨h1, h2⟩ := List.mem_filter.mp hk
    exact ⟨k, h1, h2, e⟩
  · rintro ⟨k, h1, h2, e⟩
    exact ⟨k, List.mem_filter.mpr ⟨h1, h2⟩, e⟩
/-- what is free between the switches u and v -/
def FreeG (m g : Nat) (ks : List Nat) (ot nu : Nat → Nat) (a b : Nat) (G : List Nat) : Prop := ∀ y, y ∈ G ↔ y < m ∧ (∀ k ∈ ks, k / g = a / g → nu k ≠ y) ∧ (∀ k ∈ ks, ot k / g = b / g → nu k ≠ y)
theorem clf_meth {m g s : Nat} {d : Addr} {f : Str} (h1 : ¬ f = "calls" := by decide +kernel) (h2 : ¬ f = "switches" := by decide +kernel) (h3 : ¬ f = "gates" := by decide +kernel) (h4 : ¬ f = "middle" := by decide +kernel) : (clf m g s d).lookup f = none := clf_no _ _ _ _ h1 h2 h3 h4
/-! Clos.free_middle -/
abbrev s_Clos_free_middle : Stmt := inClass (top 26) 6
theorem sc_Clos_free_middle : FnScope ["self", "one", "other", "here", "there", "mine", "theirs", "number"] ["self", "one", "other"] (defScope s_Clos_free_middle) := ⟨rfl, rfl, rfl, by decide +kernel, rfl, by decide +kernel, by decide +kernel⟩
def spFreeM (C : Addr) : Sp := fun vs H Q _ => ∃ (p d m g s a b : Nat) (ks : List Nat) (ot nu : Nat → Nat), vs = [.ref p, vi a, vi b] ∧ ClosAt C H p d m g s ks ot nu ∧ 1 ≤ g ∧ g ≤ 1000 ∧ m ≤ 1000 ∧ ks.length < 64 ∧
  ∀ G q H', FreeG m g ks ot nu a b G → Ext [] H H' → H' q = some (.lst (G.map vi)) → Q (.ref q) H'
theorem ok_freem {f C : Addr} {fd : FuncData} (F : Fun K "free_middle" "Clos.free_middle" s_Clos_free_middle f fd) (B : Bts mg) (T_Clos : ClF K C ["middle", "gates", "switches", "calls"])
    (M_Clos_ends : MtF P w K mg base C "ends" 1 ["self", "one", "other"] (spEnds C)) (M_Clos_used_in : MtF P w K mg base C "used_in" 1 ["self", "switch"] (spUsed C fun _ k => k)) (M_Clos_used_out : MtF P w K mg base C "used_out" 1 ["self", "switch"] (spUsed C fun ot k => ot k)) :
    FnOk P w K mg base CX0 2 f fd ["self", "one", "other"] (spFreeM C) := by
  refine F.ok sc_Clos_free_middle (fun vs H Q E h => ?_) (fun cdv A outer sh H vs Q E hr h => ?_)
  · obtain ⟨p, d, m, g, s, a, b, ks, ot, nu, rfl, _⟩ := h
    rfl
  · obtain ⟨p, d, m, g, s, a, b, ks, ot, nu, rfl, S, hg1, hg, hm, hkl, k⟩ := h
    obtain ⟨dx, ad, h1, h2, h3⟩ := S.ex
    refine ⟨_, (pss_cons (ps_asg (pm_call M_Clos_ends (hr.mono (by omega)) (pv 0) (pa_cons (pv 1) (pa_cons (pv 2) pa_nil))) (pg_tupK (n := 2) K rfl rfl (pgs_cons (pg_name (i := 3) sc_Clos_free_middle.nd rfl (by first | exact Or.inl rfl | exact Or.inr rfl)) (pgs_cons (pg_name (i := 4) sc_Clos_free_middle.nd rfl (by first | exact Or.inl rfl | exact Or.inr rfl)) pgs_nil))))
      (pss_cons (ps_asg (pe_tup (pa_cons (pm_call M_Clos_used_in (hr.mono (by omega)) (pv 0) (pa_cons (pv 3) pa_nil)) (pa_cons (pm_call M_Clos_used_out (hr.mono (by omega)) (pv 0) (pa_cons (pv 4) pa_nil)) pa_nil))) (pg_tupK (n := 2) K rfl rfl (pgs_cons (pg_name (i := 5) sc_Clos_free_middle.nd rfl (by first | exact Or.inl rfl | exact Or.inr rfl)) (pgs_cons (pg_name (i := 6) sc_Clos_free_middle.nd rfl (by first | exact Or.inl rfl | exact Or.inr rfl)) pgs_nil))))
      (pss_one (ps_ret (pe_lc (own := [("number", 7)]) (g := (gName 7)) rfl sc_Clos_free_middle.nd (pi_range1 (by rfl) B.range (pa_cons (fldC T_Clos (by decide +kernel) (pv 0) rfl) pa_nil)) (blkOk_by (N := ["self", "one", "other", "here", "there", "mine", "theirs", "number"]) (sc := defScope s_Clos_free_middle) (by decide +kernel)) (fun _ _ _ _ _ => (pg_name (i := 7) sc_Clos_free_middle.nd rfl (by first | exact Or.inl rfl | exact Or.inr rfl))) (fun _ _ _ _ _ => (pts_one (pw_and (pt_cmpR notInS (pv 7) (pv 5) (by rfl)) (pw_and1 (pt_cmpR notInS (pv 7) (pv 6) (by rfl)))).pt)) (fun _ _ _ _ _ => (pv 7))))))), ?_⟩
    walk_at "e"
    refine ⟨p, dx, _, rfl, h1, clf_meth, ?_⟩
    walk_at "e"
    refine ⟨p, d, m, g, s, a, b, ks, ot, nu, rfl, S, hg1, hg, fun q1 H1 x1 e1 => ?_⟩
    have p1 := x1.ins h1
    walk_at "e"
    refine ⟨p, dx, _, rfl, p1, clf_meth, ?_⟩
    walk_at "e"
    refine ⟨p, d, m, g, s, a / g, ks, ot, nu, rfl, S.ext x1, hg1, hg, hkl, fun us u1 H2 hu1 x12 e2 => ?_⟩
    have x2 := x1.trans x12
    have p2 := x2.ins h1
    walk_at "e"
    refine ⟨p, dx, _, rfl, p2, clf_meth, ?_⟩
    walk_at "e"
    refine ⟨p, d, m, g, s, b / g, ks, ot, nu, rfl, S.ext x2, hg1, hg, hkl, fun ws u2 H3 hu2 x23 e3 => ?_⟩
    have x3 := x2.trans x23
    have p3 := x3.ins h1
    have e2' := x23.lst e2
    walk_at "e"
    intro t ht
    generalize hH4 : L2.upd H3 t _ = H4
    have x34 : Ext [] H3 H4 := by rw [← hH4]; exact Ext.add ht
    have x4 := x3.trans x34
    have t4 := (congrFun hH4.symm t).trans upd_same
    have p4 := x34.ins p3
    have e24 := x34.lst e2'
    have e34 := x34.lst e3
    walk_at "e"
    refine ⟨p, dx, _, _, rfl, p4, clf_middle _ _ _ _, ?_⟩
    walk_at "e"
    intro D hD
    have hmz : ((m : Nat) : Int).toNat = m := by omega
    refine lc_val (n := m) hD src_rngN (fun i => !decide (i ∈ us) && !decide (i ∈ ws)) vi (by omega) (fun i v Ha Hb Kt Kf hi x ⟨ev, eh⟩ kt kf => ?_) fun H5 x0 x5 e5 => ?_
    · subst ev eh
      have e2a := x.lst e24
      have e3a := x.lst e34
      walk_at "e"
      refine ⟨u1, _, rfl, .inl e2a, rfl, flat_vi _, ?_⟩
      rw [in_vi]
      refine ⟨_, rfl, ?_⟩
      refine ifB (fun hb => ?_) (fun hb => ?_)
      · walk_at "e"
        refine ⟨u2, _, rfl, .inl e3a, rfl, flat_vi _, ?_⟩
        rw [in_vi]
        refine ⟨_, rfl, ?_⟩
        have hb1 : (!decide (i ∈ us)) = true := hb
        refine ifB (fun hb2 => ?_) (fun hb2 => ?_)
        · have hb2 : (!decide (i ∈ ws)) = true := hb2
          walk_at "e"
          exact kt _ (by rw [hb1, hb2]; rfl) Ext.refl
        · have hb2 : (!decide (i ∈ ws)) = false := hb2
          exact kf _ (by rw [hb1, hb2]; rfl) Ext.refl
      · have hb1 : (!decide (i ∈ us)) = false := hb
        refine ifF rfl ?_
        exact kf _ (by rw [hb1]; rfl) Ext.refl
    · refine k _ D H5 (fun y => ?_) (x4.trans x5) e5
      have m1 := used_mem hu1 y
      have m2 := used_mem hu2 y
      rw [List.mem_filter, List.mem_range, Bool.and_eq_true, Bool.not_eq_true', Bool.not_eq_true', decide_eq_false_iff_not, decide_eq_false_iff_not, m1, m2]
      constructor
      · rintro ⟨g1, g2, g3⟩
        exact ⟨g1, fun z hz q e => g2 ⟨z, hz, decide_eq_true q, e⟩, fun z hz q e => g3 ⟨z, hz, decide_eq_true q, e⟩⟩
      · rintro ⟨g1, g2, g3⟩
        exact ⟨g1, fun ⟨z, hz, q, e⟩ => g2 z hz (of_decide_eq_true q) e, fun ⟨z, hz, q, e⟩ => g3 z hz (of_decide_eq_true q) e⟩
/-! Clos.end -/
abbrev s_Clos_end : Stmt := inClass (top 26) 9
theorem sc_Clos_end : FnScope ["self", "one"] ["self", "one"] (defScope s_Clos_end) := ⟨rfl, rfl, rfl, by decide +kernel, rfl, by decide +kernel, by decide +kernel⟩
def spEnd (C : Addr) : Sp := fun vs H Q _ => ∃ (p d m g s a : Nat) (ks : List Nat) (ot nu : Nat → Nat), vs = [.ref p, vi a] ∧ ClosAt C H p d m g s ks ot nu ∧ ks.Nodup ∧ a ∈ ks ∧ ∀ H', Ext [d] H H' → ClosAt C H' p d m g s (ks.filter fun x => decide (x ≠ a)) ot nu → Q .non H'
theorem ok_end {f C : Addr} {fd : FuncData} (F : Fun K "end" "Clos.end" s_Clos_end f fd) (T_Clos : ClF K C ["middle", "gates", "switches", "calls"]) : FnOk P w K mg base CX0 1 f fd ["self", "one"] (spEnd C) := by
  refine F.ok sc_Clos_end (fun vs H Q E h => ?_) (fun cdv A outer sh H vs Q E hr h => ?_)
  · obtain ⟨p, d, m, g, s, a, ks, ot, nu, rfl, _⟩ := h
    rfl
  · obtain ⟨p, d, m, g, s, a, ks, ot, nu, rfl, S, hnd, ha, k⟩ := h
    obtain ⟨dx, ad, h1, h2, h3⟩ := S.ex
    refine ⟨_, (pss_cons (ps_if (pt_cmp (pc_dnotin (hu_of hr) (pv 1) (fldC T_Clos (by decide +kernel) (pv 0) rfl))) (pss_one ps_never) pss_nil)
      (pss_one (ps_ddel (fldC T_Clos (by decide +kernel) (pv 0) rfl) (pv 1)))), ?_⟩
    walk_at "e"
    refine ⟨p, dx, _, _, rfl, h1, clf_calls _ _ _ _, ?_⟩
    refine ⟨d, _, rfl, DGet.k (k := Sum.inl ((a : Nat) : Int)) h2, ?_⟩
    rw [kd_get ha hnd]
    walk_at "e"
    refine ⟨p, dx, _, _, rfl, h1, clf_calls _ _ _ _, ?_⟩
    walk_at "e"
    refine ⟨d, _, (Sum.inl ((a : Nat) : Int) : Key), rfl, h2, rfl, by rw [kd_get ha hnd]; rfl, ?_⟩
    rw [kd_drop]
    refine k _ (Ext.refl.wr (.inr (by simp)) h2 nt_dK) ⟨dx, ad, ?_, upd_same, fun x hx => ?_⟩
    · rw [upd_ne (fun z => by rw [z, h2] at h1; cases h1)]; exact h1
    · have q := h3 x (List.mem_filter.mp hx).1
      rw [upd_ne (fun z => by rw [z, h2] at q; cases q)]; exact q
/-! Clos.put_by -/
abbrev s_Clos_put_by : Stmt := inClass (top 26) 8
theorem sc_Clos_put_by : FnScope ["self", "one", "other", "number"] ["self", "one", "other", "number"] (defScope s_Clos_put_by) := ⟨rfl, rfl, rfl, by decide +kernel, rfl, by decide +kernel, by decide +kernel⟩
def spPutBy (C : Addr) : Sp := fun vs H Q _ => ∃ (p d m g s a b n : Nat) (ks : List Nat) (ot nu : Nat → Nat), vs = [.ref p, vi a, vi b, vi n] ∧ ClosAt C H p d m g s ks ot nu ∧ 1 ≤ g ∧ g ≤ 1000 ∧ m ≤ 1000 ∧ ks.length < 64 ∧ a < g * s ∧ b < g * s ∧ a ∉ ks ∧ (∀ k ∈ ks, ot k ≠ b) ∧
  n < m ∧ (∀ k ∈ ks, k / g = a / g → nu k ≠ n) ∧ (∀ k ∈ ks, ot k / g = b / g → nu k ≠ n) ∧ ∀ H', Ext [d] H H' → ClosAt C H' p d m g s (ks ++ [a]) (fset ot a b) (fset nu a n) → Q .non H'
/-- a call more, in the heap -/
theorem clos_put {C : Addr} {H H1 : Hp} {p d m g s a b n : Nat} {ks : List Nat} {ot nu : Nat → Nat} {t : Addr} (S : ClosAt C H p d m g s ks ot nu) (ha : a ∉ ks) (x1 : Ext [] H H1) (ht : H1 t = none) :
    ∃ ad, (L2.upd H1 t (.tup [vi b, vi n])) d = some (.dK (kd ks ad)) ∧ ClosAt C (L2.upd (L2.upd H1 t (.tup [vi b, vi n])) d (.dK (kd (ks ++ [a]) (fset ad a t)))) p d m g s (ks ++ [a]) (fset ot a b) (fset nu a n) := by
  obtain ⟨dx, ad, h1, h2, h3⟩ := S.ex
  have x2 : Ext [] H (L2.upd H1 t (.tup [vi b, vi n])) := x1.trans (Ext.add ht)
  have d2 := x2.dK h2
  have p2 := x2.ins h1
  refine ⟨ad, d2, dx, fset ad a t, ?_, upd_same, fun x hx => ?_⟩
  · rw [upd_ne (fun z => by rw [z, d2] at p2; cases p2)]; exact p2
  · by_cases q : x = a
    · subst q
      rw [fset_same, fset_same, fset_same]
      have td : t ≠ d := fun z => by rw [z, x1.dK h2] at ht; cases ht
      rw [upd_ne td, upd_same]
    · rw [fset_ne q, fset_ne q, fset_ne q]
      have hx2 : x ∈ ks := by
        rcases List.mem_append.mp hx with z | z
        · exact z
        · exact absurd (by simpa using z) q
      have r := x2.tup (h3 x hx2)
      rw [upd_ne (fun z => by rw [z, d2] at r; cases r)]; exact r
theorem ok_putby {f C : Addr} {fd : FuncData} (F : Fun K "put_by" "Clos.put_by" s_Clos_put_by f fd) (T_Clos : ClF K C ["middle", "gates", "switches", "calls"])
    (M_Clos_check : MtF P w K mg base C "check" 2 ["self", "one", "other"] (spClosK C)) (M_Clos_free_middle : MtF P w K mg base C "free_middle" 2 ["self", "one", "other"] (spFreeM C)) : FnOk P w K mg base CX0 3 f fd ["self", "one", "other", "number"] (spPutBy C) := by
  refine F.ok sc_Clos_put_by (fun vs H Q E h => ?_) (fun cdv A outer sh H vs Q E hr h => ?_)
  · obtain ⟨p, d, m, g, s, a, b, n, ks, ot, nu, rfl, _⟩ := h
    rfl
  · obtain ⟨p, d, m, g, s, a, b, n, ks, ot, nu, rfl, S, hg1, hg, hm, hkl, ha, hb, hak, hbk, hn, hf1, hf2, k⟩ := h
    obtain ⟨dx, ad, h1, h2, h3⟩ := S.ex
    refine ⟨_, (pss_cons (ps_expr (pm_call M_Clos_check (hr.mono (by omega)) (pv 0) (pa_cons (pv 1) (pa_cons (pv 2) pa_nil))))
      (pss_cons (ps_if (pt_cmpR notInS (pv 3) (pm_call M_Clos_free_middle (hr.mono (by omega)) (pv 0) (pa_cons (pv 1) (pa_cons (pv 2) pa_nil))) (by rfl)) (pss_one ps_never) pss_nil)
      (pss_one (ps_dput (hu_of hr) (fldC T_Clos (by decide +kernel) (pv 0) rfl) (pv 1) (pe_tup (pa_cons (pv 2) (pa_cons (pv 3) pa_nil))) rfl)))), ?_⟩
    walk_at "e"
    refine ⟨p, dx, _, rfl, h1, clf_meth, ?_⟩
    walk_at "e"
    refine ⟨p, d, m, g, s, a, b, ks, ot, nu, rfl, S, hg, by omega, ha, hb, hak, hbk, fun H1 x1 => ?_⟩
    have p1 := x1.ins h1
    walk_at "e"
    refine ⟨p, dx, _, rfl, p1, clf_meth, ?_⟩
    walk_at "e"
    refine ⟨p, d, m, g, s, a, b, ks, ot, nu, rfl, S.ext x1, hg1, hg, hm, hkl, fun G q H2 hG x12 e2 => ?_⟩
    have x2 := x1.trans x12
    have p2 := x2.ins h1
    walk_at "e"
    refine ⟨q, _, rfl, .inl e2, rfl, flat_vi _, ?_⟩
    rw [in_vi]
    have hin : n ∈ G := (hG n).mpr ⟨hn, hf1, hf2⟩
    refine ⟨_, rfl, ?_⟩
    refine ifF (by rw [decide_eq_true hin]; rfl) ?_
    walk_at "e"
    intro t ht
    obtain ⟨ad2, d3, S3⟩ := clos_put (n := n) (b := b) S hak x2 ht
    have x3 : Ext [] H (L2.upd H2 t (.tup [vi b, vi n])) := x2.trans (Ext.add ht)
    have p3 := x3.ins h1
    walk_at "e"
    refine ⟨p, dx, _, _, rfl, p3, clf_calls _ _ _ _, ?_⟩
    walk_at "e"
    refine ⟨d, _, rfl, DPut.k (k := Sum.inl ((a : Nat) : Int)) d3 (by rw [kd_len]; exact sl_lt (by omega)), ?_⟩
    rw [kd_put hak]
    exact k _ (x3.wide0.wr (.inr (by simp)) d3 nt_dK) S3
end
end CL
set_option Elab.async false
set_option linter.all false
set_option maxRecDepth 100000
set_option maxHeartbeats 4000000
namespace CL
open PySem PySem.Spec PyProof.Rows L2 RX

local macro_rules | `(tactic| walk_at "e") => `(tactic| (repeat (first
  | refine ⟨_, rfl, ?_⟩
  | refine ⟨_, _, rfl, rfl, ?_⟩
  | refine ⟨_, _, rfl, rfl, (by first | decide | omega | (dsimp only; omega)), ?_⟩
  | refine ⟨_, _, rfl, rfl, cmul1 (by omega), ?_⟩
  | refine ⟨_, _, rfl, rfl, cmul2 (by omega), ?_⟩
  | refine ⟨_, _, rfl, rfl, ⟨by omega, by omega⟩, ?_⟩
  | refine ⟨_, _, rfl, ‹_›, ?_⟩
  | refine ⟨_, _, _, _, rfl, rfl, ‹_›, at_vi (by assumption) rfl, ?_⟩
  | refine ⟨_, _, rfl, SqT.of ‹_›, rfl, ?_⟩
  | refine ⟨_, _, rfl, SqT.of ‹_›, ?_⟩
  | refine ⟨_, _, rfl, SqL.of ‹_›, ?_⟩
  | refine And.intro rfl ?_
  | refine ⟨_, _, rfl, ?_⟩
  | refine And.intro (by first | decide | omega | (dsimp only; omega)) ?_
  | refine And.intro (cmul1 (by omega)) ?_
  | refine And.intro (cmul2 (by omega)) ?_
  | refine And.intro ⟨by omega, by omega⟩ ?_
  | refine And.intro ⟨_, SqT.of ‹_›⟩ ?_
  | refine And.intro ⟨_, SqL.of ‹_›⟩ ?_
  | refine And.intro (Or.inl ⟨rfl, _, SqL.of ‹_›⟩) ?_
  | refine And.intro sz0 ?_
  | refine And.intro sz1 ?_
  | refine And.intro sz2 ?_
  | refine And.intro sz3 ?_
  | refine yesT ?_)))
section
variable {P : Program} {w : World} {K : PySem.W.Frag} {mg : Str → Option Value} {base : Heap}
theorem dget_kd {H : Hp} {d : Addr} {ks : List Nat} {ad : Nat → Addr} {k : Nat} (h : Rd H d (.dK (kd ks ad))) (hk : k ∈ ks) (hn : ks.Nodup) : DGet H d (vi k) (some (.ref (ad k))) := by
  rw [← kd_get (ad := ad) hk hn]
  exact .inl ⟨_, _, h, rfl, rfl⟩
/-- the ends of the call of the gate x -/
def eC (ot : Nat → Nat) (g s x : Nat) : Nat := (if s = 0 then x else ot x) / g
def cC (ks : List Nat) (nu : Nat → Nat) : Nat → Option Nat := fun x => if x ∈ ks then some (nu x) else none
theorem cC_some {ks : List Nat} {nu : Nat → Nat} {x k : Nat} : cC ks nu x = some k ↔ x ∈ ks ∧ nu x = k := by
  unfold cC
  by_cases h : x ∈ ks
  · rw [if_pos h]; simp [h]
  · rw [if_neg h]; simp [h]
def AtC (ks : List Nat) (ot nu : Nat → Nat) (g s v k : Nat) : Option Nat → Prop
  | some x => x ∈ ks ∧ eC ot g s x = v ∧ nu x = k
  | none => ∀ x, x ∈ ks → eC ot g s x = v → nu x ≠ k
/-! Clos.at -/
abbrev s_Clos_at : Stmt := inClass (top 26) 12
theorem sc_Clos_at : FnScope ["self", "side", "switch", "number", "gate"] ["self", "side", "switch", "number"] (defScope s_Clos_at) := ⟨rfl, rfl, rfl, by decide +kernel, rfl, by decide +kernel, by decide +kernel⟩
def spClosAt (C : Addr) : Sp := fun vs H Q _ => ∃ (p d m g sw s v n : Nat) (ks : List Nat) (ot nu : Nat → Nat), vs = [.ref p, vi s, vi v, vi n] ∧ ClosAt C H p d m g sw ks ot nu ∧ ks.Nodup ∧ ks.length < 64 ∧ 1 ≤ g ∧ g ≤ 1000 ∧ s ≤ 1 ∧
  ∀ (o : Option Nat) H', Ext [] H H' → AtC ks ot nu g s v n o → Q (vo o) H'
theorem ok_closat {f C : Addr} {fd : FuncData} (F : Fun K "at" "Clos.at" s_Clos_at f fd) (B : Bts mg) (T_Clos : ClF K C ["middle", "gates", "switches", "calls"])
    (M_Clos_ends : MtF P w K mg base C "ends" 1 ["self", "one", "other"] (spEnds C)) : FnOk P w K mg base CX0 2 f fd ["self", "side", "switch", "number"] (spClosAt C) := by
  refine F.ok sc_Clos_at (fun vs H Q E h => ?_) (fun cdv A outer sh H vs Q E hr h => ?_)
  · obtain ⟨p, d, m, g, sw, s, v, n, ks, ot, nu, rfl, _⟩ := h
    rfl
  · obtain ⟨p, d, m, g, sw, s, v, n, ks, ot, nu, rfl, S, hnd, hkl, hg1, hg, hs, k⟩ := h
    obtain ⟨dx, ad, h1, h2, h3⟩ := S.ex
    refine ⟨_, (pss_cons (ps_for PassesOwn.never rfl (piL_K K rfl (pe_callB (call_sortedDI rfl) (by rfl) B.sorted (by decide +kernel) (pa_cons (fldC T_Clos (by decide +kernel) (pv 0) rfl) pa_nil))) (pg_name (i := 4) sc_Clos_at.nd rfl (by first | exact Or.inl rfl | exact Or.inr rfl)) (pss_one (ps_if (pw_and (pt_cmpR op_eq (pe_ix ixT (pm_call M_Clos_ends (hr.mono (by omega)) (pv 0) (pa_cons (pv 4) (pa_cons (pe_ix ixT (pe_dget (hu_of hr) (fldC T_Clos (by decide +kernel) (pv 0) rfl) (pv 4) (fun _ _ => rfl)) pe_int (fun _ _ => rfl)) pa_nil))) (pv 1) (fun _ _ => rfl)) (pv 2) (nomark _)) (pw_and1 (pt_cmpR op_eq (pe_ix ixT (pe_dget (hu_of hr) (fldC T_Clos (by decide +kernel) (pv 0) rfl) (pv 4) (fun _ _ => rfl)) pe_int (fun _ _ => rfl)) (pv 3) (nomark _)))).pt (pss_one (ps_ret (pv 4))) pss_nil)))
      (pss_one (ps_ret pe_non))), ?_⟩
    walk_at "e"
    refine ⟨p, dx, _, _, rfl, h1, clf_calls _ _ _ _, ?_⟩
    walk_at "e"
    refine ⟨d, _, ks.map fun k => ((k : Nat) : Int), rfl, .inl h2, by unfold kd; rw [List.map_map, List.map_map]; rfl, by simp; omega, fun ys q hperm _ hq => ?_⟩
    obtain ⟨us, hu1, hu2⟩ := ints_back hperm
    rw [hu2]
    generalize hH1 : L2.upd H q _ = H1
    have x1 : Ext [] H H1 := by rw [← hH1]; exact Ext.add hq
    have e1 := (congrFun hH1.symm q).trans upd_same
    have hul := hu1.length_eq
    walk_at "e"
    refine for_any (src_lstN (W := []) e1 (by simp)) (fun i σ H' => Ext [] H1 H' ∧ (∃ o4, σ = [some (.ref p), some (vi s), some (vi v), some (vi n), o4]) ∧ ∀ x, x ∈ us.take i → eC ot g s x = v → nu x ≠ n) ⟨Ext.refl, ⟨none, rfl⟩, fun x h => by simp at h⟩ (fun i σ H' h => h.1) ?_ ?_
    · rintro i vv σ H' H'' hi ⟨x, ⟨o4, rfl⟩, hall⟩ ⟨rfl, rfl⟩
      have xx := x1.trans x
      have hk : gt us i ∈ ks := hu1.mem_iff.mp (gt_mem hi)
      have p3 := xx.ins h1
      have d3 := xx.dK h2
      have a3 := xx.tup (h3 _ hk)
      have hnx : ∀ (b : Bool), (eC ot g s (gt us i) = v → nu (gt us i) = n → False) → ∀ x, x ∈ us.take (i + 1) → eC ot g s x = v → nu x ≠ n := fun _ hno y hy ey => by
        rw [take_gt hi] at hy
        rcases List.mem_append.mp hy with z | z
        · exact hall y z ey
        · have : y = gt us i := by simpa using z
          subst this
          exact hno ey
      walk_at "e"
      refine ⟨p, dx, _, rfl, p3, clf_meth, ?_⟩
      walk_at "e"
      refine ⟨p, dx, _, _, rfl, p3, clf_calls _ _ _ _, ?_⟩
      refine ⟨_, rfl, d, _, rfl, dget_kd (.inl d3) hk hnd, ?_⟩
      walk_at "e"
      refine ⟨ad (gt us i), _, 0, _, rfl, rfl, a3, rfl, ?_⟩
      walk_at "e"
      refine ⟨p, d, m, g, sw, gt us i, ot (gt us i), ks, ot, nu, rfl, S.ext xx, hg1, hg, fun t H2 x2 e2 => ?_⟩
      have p4 := x2.ins p3
      have d4 := x2.dK d3
      have a4 := x2.tup a3
      walk_at "e"
      refine ⟨t, _, _, _, rfl, rfl, e2, at_pair (s := s) (e := fun s => eC ot g s (gt us i)) hs rfl rfl rfl, ?_⟩
      walk_at "e"
      refine ifB (fun hb => ?_) (fun hb => ?_)
      · have hb : eC ot g s (gt us i) = v := by have := V.int.inj (of_decide_eq_true hb); omega
        walk_at "e"
        refine ⟨p, dx, _, _, rfl, p4, clf_calls _ _ _ _, ?_⟩
        refine ⟨_, rfl, d, _, rfl, dget_kd (.inl d4) hk hnd, ?_⟩
        walk_at "e"
        refine ⟨ad (gt us i), _, 1, _, rfl, rfl, a4, rfl, ?_⟩
        walk_at "e"
        refine ifB (fun hb2 => ?_) (fun hb2 => ?_)
        · have hb2 : nu (gt us i) = n := by have := V.int.inj (of_decide_eq_true hb2); omega
          walk_at "e"
          exact k (some (gt us i)) H2 (xx.trans x2) ⟨hk, hb, hb2⟩
        · have hb2 : nu (gt us i) ≠ n := fun z => (of_decide_eq_false hb2) (congrArg vi z)
          exact ⟨x.trans x2, ⟨_, rfl⟩, hnx true fun _ z => hb2 z⟩
      · have hb : eC ot g s (gt us i) ≠ v := fun z => (of_decide_eq_false hb) (congrArg vi z)
        exact ⟨x.trans x2, ⟨_, rfl⟩, hnx true fun z _ => hb z⟩
    · rintro σ H' ⟨x, ⟨o4, rfl⟩, hall⟩
      walk_at "e"
      exact k none H' (x1.trans x) fun y hy => hall y (by rw [List.take_length]; exact hu1.mem_iff.mpr hy)
end
end CL
set_option Elab.async false
set_option linter.all false
set_option maxRecDepth 100000
set_option maxHeartbeats 4000000
namespace CL
open PySem PySem.Spec PyProof.Rows L2 RX

local macro_rules | `(tactic| walk_at "e") => `(tactic| (repeat (first
  | refine ⟨_, rfl, ?_⟩
  | refine ⟨_, _, rfl, rfl, ?_⟩
  | refine ⟨_, _, rfl, rfl, (by first | decide | omega | (dsimp only; omega)), ?_⟩
  | refine ⟨_, _, rfl, rfl, cmul1 (by omega), ?_⟩
  | refine ⟨_, _, rfl, rfl, cmul2 (by omega), ?_⟩
  | refine ⟨_, _, rfl, rfl, ⟨by omega, by omega⟩, ?_⟩
  | refine ⟨_, _, rfl, ‹_›, ?_⟩
  | refine ⟨_, _, _, _, rfl, rfl, ‹_›, at_vi (by assumption) rfl, ?_⟩
  | refine ⟨_, _, rfl, SqT.of ‹_›, rfl, ?_⟩
  | refine ⟨_, _, rfl, SqT.of ‹_›, ?_⟩
  | refine ⟨_, _, rfl, SqL.of ‹_›, ?_⟩
  | refine And.intro rfl ?_
  | refine ⟨_, _, rfl, ?_⟩
  | refine And.intro (by first | decide | omega | (dsimp only; omega)) ?_
  | refine And.intro (cmul1 (by omega)) ?_
  | refine And.intro (cmul2 (by omega)) ?_
  | refine And.intro ⟨by omega, by omega⟩ ?_
  | refine And.intro ⟨_, SqT.of ‹_›⟩ ?_
  | refine And.intro ⟨_, SqL.of ‹_›⟩ ?_
  | refine And.intro (Or.inl ⟨rfl, _, SqL.of ‹_›⟩) ?_
  | refine And.intro sz0 ?_
  | refine And.intro sz1 ?_
  | refine And.intro sz2 ?_
  | refine And.intro sz3 ?_
  | refine yesT ?_)))
section
variable {P : Program} {w : World} {K : PySem.W.Frag} {mg : Str → Option Value} {base : Heap}
def nuS (nu : Nat → Nat) (c1 c2 : Nat) (found : List Nat) : Nat → Nat := fun x => if x ∈ found then (if nu x = c1 then c2 else c1) else nu x
theorem nuS_at {nu : Nat → Nat} {c1 c2 : Nat} {found : List Nat} {i : Nat} (hn : found.Nodup) (h : i < found.length) : nuS nu c1 c2 (found.take i) (gt found i) = nu (gt found i) := by
  unfold nuS; rw [if_neg (not_take hn h)]
theorem nuS_next {nu : Nat → Nat} {c1 c2 : Nat} {found : List Nat} {i : Nat} (hn : found.Nodup) (h : i < found.length) :
    nuS nu c1 c2 (found.take (i + 1)) = fset (nuS nu c1 c2 (found.take i)) (gt found i) (if nu (gt found i) = c1 then c2 else c1) := by
  funext x
  by_cases q : x = gt found i
  · subst q
    rw [fset_same]
    unfold nuS
    rw [if_pos (by rw [take_gt h]; simp)]
  · rw [fset_ne q]
    unfold nuS
    have : x ∈ found.take (i + 1) ↔ x ∈ found.take i := by rw [take_gt h]; simp [q]
    by_cases r : x ∈ found.take i
    · rw [if_pos r, if_pos (this.mpr r)]
    · rw [if_neg r, if_neg (fun z => r (this.mp z))]
theorem clos_set {C : Addr} {H : Hp} {p d m g s n k : Nat} {ks : List Nat} {ot nu : Nat → Nat} {t : Addr} {ad : Nat → Addr} {dx : Addr} (h1 : H p = some (.ins C dx (clf m g s d))) (h2 : H d = some (.dK (kd ks ad))) (h3 : ∀ k ∈ ks, H (ad k) = some (.tup [vi (ot k), vi (nu k)])) (hk : k ∈ ks) (ht : H t = none) :
    ClosAt C (L2.upd (L2.upd H t (.tup [vi (ot k), vi n])) d (.dK (kd ks (fset ad k t)))) p d m g s ks ot (fset nu k n) := by
  have x2 : Ext [] H (L2.upd H t (.tup [vi (ot k), vi n])) := Ext.add ht
  have d2 := x2.dK h2
  have p2 := x2.ins h1
  refine ⟨dx, fset ad k t, ?_, upd_same, fun x hx => ?_⟩
  · rw [upd_ne (fun z => by rw [z, d2] at p2; cases p2)]; exact p2
  · by_cases q : x = k
    · subst q
      rw [fset_same, fset_same]
      have td : t ≠ d := fun z => by rw [z, h2] at ht; cases ht
      rw [upd_ne td, upd_same]
    · rw [fset_ne q, fset_ne q]
      have r := x2.tup (h3 x hx)
      rw [upd_ne (fun z => by rw [z, d2] at r; cases r)]; exact r
/-! Clos.exchange -/
abbrev s_Clos_exchange : Stmt := inClass (top 26) 11
theorem sc_Clos_exchange : FnScope ["self", "start", "one", "other", "side", "switch", "number", "found", "gate", "goal"] ["self", "start", "one", "other"] (defScope s_Clos_exchange) := ⟨rfl, rfl, rfl, by decide +kernel, rfl, by decide +kernel, by decide +kernel⟩
def spClosX (C : Addr) : Sp := fun vs H Q _ => ∃ (p d m g sw start c1 c2 : Nat) (ks : List Nat) (ot nu : Nat → Nat), vs = [.ref p, vi start, vi c1, vi c2] ∧ ClosAt C H p d m g sw ks ot nu ∧ ks.Nodup ∧ ks.length < 64 ∧ 1 ≤ g ∧ g ≤ 1000 ∧ Proper (cC ks nu) (eC ot g) ∧ c1 ≠ c2 ∧ (∀ x, cC ks nu x = some c2 → eC ot g 1 x ≠ start) ∧
  ∀ (found : List Nat) (s v : Nat) (q : Addr) H', Chain (cC ks nu) (eC ot g) c1 c2 start found s v → (∀ x, cC ks nu x = some (nc c1 c2 s) → eC ot g s x ≠ v) → Ext [d] H H' → ClosAt C H' p d m g sw ks ot (nuS nu c1 c2 found) → Q (.ref q) H'
theorem ok_closx {f C : Addr} {fd : FuncData} (F : Fun K "exchange" "Clos.exchange" s_Clos_exchange f fd) (B : Bts mg) (T_Clos : ClF K C ["middle", "gates", "switches", "calls"])
    (M_Clos_at : MtF P w K mg base C "at" 2 ["self", "side", "switch", "number"] (spClosAt C)) (M_Clos_ends : MtF P w K mg base C "ends" 1 ["self", "one", "other"] (spEnds C)) : FnOk P w K mg base CX0 3 f fd ["self", "start", "one", "other"] (spClosX C) := by
  refine F.ok sc_Clos_exchange (fun vs H Q E h => ?_) (fun cdv A outer sh H vs Q E hr h => ?_)
  · obtain ⟨p, d, m, g, sw, s, v, n, ks, ot, nu, rfl, _⟩ := h
    rfl
  · obtain ⟨p, d, m, g, sw, start, c1, c2, ks, ot, nu, rfl, S, hnd, hkl, hg1, hg, hP, hne, hfree, k⟩ := h
    obtain ⟨dx, ad, h1, h2, h3⟩ := S.ex
    refine ⟨_, (pss_cons (ps_asg (pe_tup (pa_cons pe_int (pa_cons (pv 1) (pa_cons (pv 2) (pa_cons (pe_lst pa_nil) pa_nil))))) (pg_tupK (n := 4) K rfl rfl (pgs_cons (pg_name (i := 4) sc_Clos_exchange.nd rfl (by first | exact Or.inl rfl | exact Or.inr rfl)) (pgs_cons (pg_name (i := 5) sc_Clos_exchange.nd rfl (by first | exact Or.inl rfl | exact Or.inr rfl)) (pgs_cons (pg_name (i := 6) sc_Clos_exchange.nd rfl (by first | exact Or.inl rfl | exact Or.inr rfl)) (pgs_cons (pg_name (i := 7) sc_Clos_exchange.nd rfl (by first | exact Or.inl rfl | exact Or.inr rfl)) pgs_nil))))))
      (pss_cons (ps_set (i := 8) sc_Clos_exchange.nd rfl (Or.inl rfl) (pm_call M_Clos_at (hr.mono (by omega)) (pv 0) (pa_cons (pv 4) (pa_cons (pv 5) (pa_cons (pv 6) pa_nil)))))
      (pss_cons (ps_while PassesOwn.never (pt_cmpR op_notN (pv 8) pe_non (nomark _)) (pss_cons (ps_expr (bmK K rfl PySem.F.plainAttrs_list PySem.F.slot_list_append PySem.F.type_list_append mt_append (pv 7) (pa_cons (pv 8) pa_nil)))
      (pss_cons (ps_set (i := 5) sc_Clos_exchange.nd rfl (Or.inl rfl) (pe_ix ixT (pm_call M_Clos_ends (hr.mono (by omega)) (pv 0) (pa_cons (pv 8) (pa_cons (pe_ix ixT (pe_dget (hu_of hr) (fldC T_Clos (by decide +kernel) (pv 0) rfl) (pv 8) (fun _ _ => rfl)) pe_int (fun _ _ => rfl)) pa_nil))) (pe_op op_sub pe_int (pv 4)) (fun _ _ => rfl)))
      (pss_cons (ps_set (i := 4) sc_Clos_exchange.nd rfl (Or.inl rfl) (pe_op op_sub pe_int (pv 4)))
      (pss_cons (ps_set (i := 6) sc_Clos_exchange.nd rfl (Or.inl rfl) (pe_ifExp (pt_cmpR op_eq (pv 6) (pv 2) (nomark _)) (pv 3) (pv 2)))
      (pss_one (ps_set (i := 8) sc_Clos_exchange.nd rfl (Or.inl rfl) (pm_call M_Clos_at (hr.mono (by omega)) (pv 0) (pa_cons (pv 4) (pa_cons (pv 5) (pa_cons (pv 6) pa_nil)))))))))))
      (pss_cons (ps_for PassesOwn.never rfl (piL_K K rfl (pv 7)) (pg_name (i := 8) sc_Clos_exchange.nd rfl (by first | exact Or.inl rfl | exact Or.inr rfl)) (pss_cons (ps_asg (pe_dget (hu_of hr) (fldC T_Clos (by decide +kernel) (pv 0) rfl) (pv 8) (fun _ _ => rfl)) (pg_tupK (n := 2) K rfl rfl (pgs_cons (pg_name (i := 9) sc_Clos_exchange.nd rfl (by first | exact Or.inl rfl | exact Or.inr rfl)) (pgs_cons (pg_name (i := 6) sc_Clos_exchange.nd rfl (by first | exact Or.inl rfl | exact Or.inr rfl)) pgs_nil))))
      (pss_one (ps_dput (hu_of hr) (fldC T_Clos (by decide +kernel) (pv 0) rfl) (pv 8) (pe_tup (pa_cons (pv 9) (pa_cons (pe_ifExp (pt_cmpR op_eq (pv 6) (pv 2) (nomark _)) (pv 3) (pv 2)) pa_nil))) rfl))))
      (pss_one (ps_ret (tupL (by rfl) B.tuple (pe_callB cr_sorted (by rfl) B.sorted (by decide +kernel) (pa_cons (pv 7) pa_nil))))))))), ?_⟩
    walk_at "e"
    intro fl hfl
    generalize hH1 : L2.upd H fl _ = H1
    have x1 : Ext [] H H1 := by rw [← hH1]; exact Ext.add hfl
    have f1 := (congrFun hH1.symm fl).trans upd_same
    walk_at "e"
    refine ⟨by show 4 ≤ sizeLine; decide, fun t ht => ?_⟩
    generalize hH2 : L2.upd H1 t _ = H2
    have x12 : Ext [] H1 H2 := by rw [← hH2]; exact Ext.add ht
    have x2 := x1.trans x12
    have t2 := (congrFun hH2.symm t).trans upd_same
    have f2 := x12.lst f1
    have p2 := x2.ins h1
    walk_at "e"
    refine ⟨p, dx, _, rfl, p2, clf_meth, ?_⟩
    walk_at "e"
    refine ⟨p, d, m, g, sw, 1, start, c1, ks, ot, nu, rfl, S.ext x2, hnd, hkl, hg1, hg, by omega, fun o H3 x23 ho => ?_⟩
    have f3 := x23.lst f2
    have x3 := x2.trans x23
    walk_at "e"
    refine ⟨fun mm σ H' => ∃ (found : List Nat) (s v : Nat) (o : Option Nat) (o9 : Option V), mm + found.length = ks.length ∧ σ = [some (.ref p), some (vi start), some (vi c1), some (vi c2), some (vi s), some (vi v), some (vi (nc c1 c2 s)), some (.ref fl), some (vo o), o9] ∧
      H' fl = some (.lst (found.map vi)) ∧ Ext [] H H' ∧ Chain (cC ks nu) (eC ot g) c1 c2 start found s v ∧ AtC ks ot nu g s v (nc c1 c2 s) o, ⟨ks.length, [], 1, start, o, none, rfl, rfl, f3, x3, Chain.begin, ho⟩, ?_⟩
    rintro mm σ H' ⟨found, s, v, o, o9, hm, rfl, hf, x, Ch, hat⟩
    have hlt : ∀ z ∈ found, z ∈ ks := fun z hz => by
      rcases Ch.col z hz with q | q
      · exact (cC_some.mp q).1
      · exact (cC_some.mp q).1
    walk_at "e"
    cases o with
    | some y =>
      obtain ⟨hy1, hy2, hy3⟩ := hat
      obtain ⟨hnew, Ch2⟩ := Ch.step hP hne hfree (cC_some.mpr ⟨hy1, hy3⟩) hy2
      have hlen : (found ++ [y]).length ≤ ks.length := pigeon Ch2.nd fun z hz => by
          rcases Ch2.col z hz with q | q
          · exact (cC_some.mp q).1
          · exact (cC_some.mp q).1
      have hl2 : (found ++ [y]).length = found.length + 1 := by simp
      have hs1 := Ch.sle
      have hs2 : 1 - s ≤ 1 := by omega
      refine ifT rfl ⟨fun σ' H' => ∃ m', m' < mm ∧ ∃ (found : List Nat) (s v : Nat) (o : Option Nat) (o9 : Option V), m' + found.length = ks.length ∧ σ' = [some (.ref p), some (vi start), some (vi c1), some (vi c2), some (vi s), some (vi v), some (vi (nc c1 c2 s)), some (.ref fl), some (vo o), o9] ∧
        H' fl = some (.lst (found.map vi)) ∧ Ext [] H H' ∧ Chain (cC ks nu) (eC ot g) c1 c2 start found s v ∧ AtC ks ot nu g s v (nc c1 c2 s) o, fun _ _ h => h, ?_⟩
      walk_at "e"
      refine ⟨fl, _, _, rfl, rfl, hf, sl_lt (by simp; omega), ?_⟩
      generalize hH4 : L2.upd H' fl _ = H4
      have x4 : Ext [] H H4 := by rw [← hH4]; exact x.wr (.inl hfl) hf nt_lst
      have f4 : H4 fl = some (.lst ((found ++ [y]).map vi)) := by rw [← hH4, upd_same, List.map_append]; rfl
      have p4 := x4.ins h1
      have d4 := x4.dK h2
      have a4 := x4.tup (h3 y hy1)
      walk_at "e"
      refine ⟨p, dx, _, rfl, p4, clf_meth, ?_⟩
      walk_at "e"
      refine ⟨p, dx, _, _, rfl, p4, clf_calls _ _ _ _, ?_⟩
      refine ⟨_, rfl, d, _, rfl, dget_kd (.inl d4) hy1 hnd, ?_⟩
      walk_at "e"
      refine ⟨ad y, _, 0, _, rfl, rfl, a4, rfl, ?_⟩
      walk_at "e"
      refine ⟨p, d, m, g, sw, y, ot y, ks, ot, nu, rfl, S.ext x4, hg1, hg, fun t H5 x45 e5 => ?_⟩
      have x5 := x4.trans x45
      have p5 := x5.ins h1
      have f5 := x45.lst f4
      walk_at "e"
      refine ⟨t, _, _, _, rfl, rfl, e5, at_pair (s := 1 - s) (e := fun s => eC ot g s y) hs2 (by omega) rfl rfl, ?_⟩
      walk_at "e"
      have e1 : V.int (1 - (s : Int)) = vi (1 - s) := congrArg V.int (by omega)
      refine ifB (fun hb => ?_) (fun hb => ?_)
      · have hb : nc c1 c2 s = c1 := by have := V.int.inj (of_decide_eq_true hb); omega
        have en : nc c1 c2 (1 - s) = c2 := by rw [nc_flip hne hs1, if_pos hb]
        walk_at "e"
        refine ⟨p, dx, _, rfl, p5, clf_meth, ?_⟩
        walk_at "e"
        refine ⟨p, d, m, g, sw, 1 - s, eC ot g (1 - s) y, c2, ks, ot, nu, congrArg (fun z => [V.ref p, z, vi (eC ot g (1 - s) y), vi c2]) e1, S.ext x5, hnd, hkl, hg1, hg, hs2, fun o2 H6 x6 ho2 => ?_⟩
        refine ⟨mm - 1, by omega, found ++ [y], 1 - s, eC ot g (1 - s) y, o2, o9, by omega, ?_, x6.lst f5, x5.trans x6, Ch2, by rw [en]; exact ho2⟩
        show [some (V.ref p), some (vi start), some (vi c1), some (vi c2), some (V.int (1 - (s : Int))), some (vi (eC ot g (1 - s) y)), some (vi c2), some (V.ref fl), some (vo o2), o9] = _
        rw [e1, en]
      · have hb : nc c1 c2 s ≠ c1 := fun z => (of_decide_eq_false hb) (congrArg vi z)
        have en : nc c1 c2 (1 - s) = c1 := by rw [nc_flip hne hs1, if_neg hb]
        walk_at "e"
        refine ⟨p, dx, _, rfl, p5, clf_meth, ?_⟩
        walk_at "e"
        refine ⟨p, d, m, g, sw, 1 - s, eC ot g (1 - s) y, c1, ks, ot, nu, congrArg (fun z => [V.ref p, z, vi (eC ot g (1 - s) y), vi c1]) e1, S.ext x5, hnd, hkl, hg1, hg, hs2, fun o2 H6 x6 ho2 => ?_⟩
        refine ⟨mm - 1, by omega, found ++ [y], 1 - s, eC ot g (1 - s) y, o2, o9, by omega, ?_, x6.lst f5, x5.trans x6, Ch2, by rw [en]; exact ho2⟩
        show [some (V.ref p), some (vi start), some (vi c1), some (vi c2), some (V.int (1 - (s : Int))), some (vi (eC ot g (1 - s) y)), some (vi c1), some (V.ref fl), some (vo o2), o9] = _
        rw [e1, en]
    | none =>
      refine ifF rfl ?_
      have hend : ∀ x, cC ks nu x = some (nc c1 c2 s) → eC ot g s x ≠ v := fun z hz hv => hat z (cC_some.mp hz).1 hv (cC_some.mp hz).2
      have nfd : fl ≠ d := fun z => by rw [z, h2] at hfl; cases hfl
      have hfl64 : found.length < 64 := Nat.lt_of_le_of_lt (pigeon Ch.nd hlt) hkl
      walk_at "e"
      refine for_any (src_lstN (W := [d]) hf (by simp [nfd])) (fun i σ Hx => Ext [d] H' Hx ∧ ClosAt C Hx p d m g sw ks ot (nuS nu c1 c2 (found.take i)) ∧ ∃ o6 o8 o9, σ = [some (.ref p), some (vi start), some (vi c1), some (vi c2), some (vi s), some (vi v), o6, some (.ref fl), o8, o9]) ?_ (fun i σ H' h => h.1) ?_ ?_
      · refine ⟨Ext.refl, ?_, _, _, _, rfl⟩
        have : nuS nu c1 c2 (found.take 0) = nu := by funext z; simp [nuS]
        rw [this]
        exact S.ext x
      · rintro i vv σ Ha Hb hi ⟨y, Sa, o6, o8, o9, rfl⟩ ⟨rfl, rfl⟩
        obtain ⟨dx2, ad2, g1, g2, g3⟩ := Sa.ex
        have hz := hlt _ (gt_mem hi)
        have g3z := g3 _ hz
        have hsi := nuS_at (nu := nu) (c1 := c1) (c2 := c2) Ch.nd hi
        rw [hsi] at g3z
        walk_at "e"
        refine ⟨p, dx2, _, _, rfl, g1, clf_calls _ _ _ _, ?_⟩
        refine ⟨_, rfl, d, _, rfl, dget_kd (.inl g2) hz hnd, ?_⟩
        walk_at "e"
        refine ifB (fun hb => ?_) (fun hb => ?_)
        · have hb : nu (gt found i) = c1 := by have := V.int.inj (of_decide_eq_true hb); omega
          walk_at "e"
          intro t ht
          have S3 := clos_set (n := c2) g1 g2 g3 hz ht
          have z1 : Ext [] Hb (L2.upd Hb t (.tup [vi (ot (gt found i)), vi c2])) := Ext.add ht
          walk_at "e"
          refine ⟨p, dx2, _, _, rfl, z1.ins g1, clf_calls _ _ _ _, ?_⟩
          refine ⟨_, rfl, d, _, rfl, DPut.k (k := Sum.inl ((gt found i : Nat) : Int)) (z1.dK g2) (by rw [kd_len]; exact sl_lt (by omega)), ?_⟩
          rw [kd_set hz hnd]
          refine ⟨(y.trans z1.wide0).wr (.inr (by simp)) (z1.dK g2) nt_dK, ?_, _, _, _, rfl⟩
          rw [nuS_next Ch.nd hi, if_pos hb]
          exact S3
        · have hb : ¬ nu (gt found i) = c1 := fun z => (of_decide_eq_false hb) (congrArg vi z)
          walk_at "e"
          intro t ht
          have S3 := clos_set (n := c1) g1 g2 g3 hz ht
          have z1 : Ext [] Hb (L2.upd Hb t (.tup [vi (ot (gt found i)), vi c1])) := Ext.add ht
          walk_at "e"
          refine ⟨p, dx2, _, _, rfl, z1.ins g1, clf_calls _ _ _ _, ?_⟩
          refine ⟨_, rfl, d, _, rfl, DPut.k (k := Sum.inl ((gt found i : Nat) : Int)) (z1.dK g2) (by rw [kd_len]; exact sl_lt (by omega)), ?_⟩
          rw [kd_set hz hnd]
          refine ⟨(y.trans z1.wide0).wr (.inr (by simp)) (z1.dK g2) nt_dK, ?_, _, _, _, rfl⟩
          rw [nuS_next Ch.nd hi, if_neg hb]
          exact S3
      · rintro σ Ha ⟨y, Sa, o6, o8, o9, rfl⟩
        have e2 : found.take found.length = found := List.take_length
        rw [e2] at Sa
        have fa := y.at_ _ _ hf nt_lst (by simp [nfd])
        walk_at "e"
        refine ⟨fl, _, rfl, .of (by rw [fa, vi_ints]), by simp; omega, fun ns' q hperm _ hq => ?_⟩
        have y2 : Ext [] Ha (L2.upd Ha q (.lst (ns'.map V.int))) := Ext.add hq
        walk_at "e"
        refine ⟨q, _, rfl, upd_same, fun q2 hq2 => ?_⟩
        exact k found s v q2 _ Ch hend ((x.wide0.trans y).trans (y2.trans (Ext.add hq2)).wide0) (Sa.ext (y2.trans (Ext.add hq2)))
end
end CL
set_option Elab.async false
set_option linter.all false
set_option maxRecDepth 100000
set_option maxHeartbeats 4000000
namespace CL
open PySem PySem.Spec PyProof.Rows L2 RX

local macro_rules | `(tactic| walk_at "e") => `(tactic| (repeat (first
  | refine ⟨_, rfl, ?_⟩
  | refine ⟨_, _, rfl, rfl, ?_⟩
  | refine ⟨_, _, rfl, rfl, (by first | decide | omega | (dsimp only; omega)), ?_⟩
  | refine ⟨_, _, rfl, rfl, cmul1 (by omega), ?_⟩
  | refine ⟨_, _, rfl, rfl, cmul2 (by omega), ?_⟩
  | refine ⟨_, _, rfl, rfl, ⟨by omega, by omega⟩, ?_⟩
  | refine ⟨_, _, rfl, ‹_›, ?_⟩
  | refine ⟨_, _, _, _, rfl, rfl, ‹_›, at_vi (by assumption) rfl, ?_⟩
  | refine ⟨_, _, rfl, SqT.of ‹_›, rfl, ?_⟩
  | refine ⟨_, _, rfl, SqT.of ‹_›, ?_⟩
  | refine ⟨_, _, rfl, SqL.of ‹_›, ?_⟩
  | refine And.intro rfl ?_
  | refine ⟨_, _, rfl, ?_⟩
  | refine And.intro (by first | decide | omega | (dsimp only; omega)) ?_
  | refine And.intro (cmul1 (by omega)) ?_
  | refine And.intro (cmul2 (by omega)) ?_
  | refine And.intro ⟨by omega, by omega⟩ ?_
  | refine And.intro ⟨_, SqT.of ‹_›⟩ ?_
  | refine And.intro ⟨_, SqL.of ‹_›⟩ ?_
  | refine And.intro (Or.inl ⟨rfl, _, SqL.of ‹_›⟩) ?_
  | refine And.intro sz0 ?_
  | refine And.intro sz1 ?_
  | refine And.intro sz2 ?_
  | refine And.intro sz3 ?_
  | refine yesT ?_)))
section
variable {P : Program} {w : World} {K : PySem.W.Frag} {mg : Str → Option Value} {base : Heap}
section
variable {m g s : Nat} {ks : List Nat} {ot nu : Nat → Nat}
theorem sound_proper (S : Sound m g s ks ot nu) : Proper (cC ks nu) (eC ot g) := by
  intro t a b k ht ha hb he
  obtain ⟨a1, a2⟩ := cC_some.mp ha
  obtain ⟨b1, b2⟩ := cC_some.mp hb
  rcases le1 ht with z | z <;> subst z
  · exact S.in_ a a1 b b1 (by rw [a2, b2]) he
  · exact S.out a a1 b b1 (by rw [a2, b2]) he
theorem proper_sound (S : Sound m g s ks ot nu) {nu' : Nat → Nat} (P : Proper (cC ks nu') (eC ot g)) (hm : ∀ a ∈ ks, nu' a < m) : Sound m g s ks ot nu' :=
  ⟨S.nd, S.nd2, S.lt1, S.lt2, hm, fun a ha b hb e1 e2 => P 0 a b (nu' b) (by omega) (cC_some.mpr ⟨ha, e1⟩) (cC_some.mpr ⟨hb, rfl⟩) e2, fun a ha b hb e1 e2 => P 1 a b (nu' b) (by omega) (cC_some.mpr ⟨ha, e1⟩) (cC_some.mpr ⟨hb, rfl⟩) e2⟩
theorem sound_add (S : Sound m g s ks ot nu) {a b n : Nat} (ha : a ∉ ks) (hal : a < g * s) (hbl : b < g * s) (hb : ∀ k ∈ ks, ot k ≠ b) (hn : n < m) (h0 : ∀ k ∈ ks, k / g = a / g → nu k ≠ n) (h1 : ∀ k ∈ ks, ot k / g = b / g → nu k ≠ n) :
    Sound m g s (ks ++ [a]) (fset ot a b) (fset nu a n) := by
  have mem : ∀ x, x ∈ ks ++ [a] ↔ x ∈ ks ∨ x = a := fun x => by simp
  have ne : ∀ x, x ∈ ks → x ≠ a := fun x hx z => ha (by rw [← z]; exact hx)
  refine ⟨?_, fun x hx y hy e => ?_, fun x hx => ?_, fun x hx => ?_, fun x hx => ?_, fun x hx y hy e1 e2 => ?_, fun x hx y hy e1 e2 => ?_⟩
  · exact List.nodup_append.mpr ⟨S.nd, by simp, fun x hx y hy z => by
      have : y = a := by simpa using hy
      subst this; subst z; exact ha hx⟩
  · rcases (mem x).mp hx with gx | gx <;> rcases (mem y).mp hy with gy | gy
    · rw [fset_ne (ne x gx), fset_ne (ne y gy)] at e; exact S.nd2 x gx y gy e
    · subst gy; rw [fset_ne (ne x gx), fset_same] at e; exact absurd e (hb x gx)
    · subst gx; rw [fset_ne (ne y gy), fset_same] at e; exact absurd e.symm (hb y gy)
    · rw [gx, gy]
  · rcases (mem x).mp hx with gx | gx
    · exact S.lt1 x gx
    · rw [gx]; exact hal
  · rcases (mem x).mp hx with gx | gx
    · rw [fset_ne (ne x gx)]; exact S.lt2 x gx
    · rw [gx, fset_same]; exact hbl
  · rcases (mem x).mp hx with gx | gx
    · rw [fset_ne (ne x gx)]; exact S.ltm x gx
    · rw [gx, fset_same]; exact hn
  · rcases (mem x).mp hx with gx | gx <;> rcases (mem y).mp hy with gy | gy
    · rw [fset_ne (ne x gx), fset_ne (ne y gy)] at e1; exact S.in_ x gx y gy e1 e2
    · subst gy; rw [fset_ne (ne x gx), fset_same] at e1; exact absurd e1 (h0 x gx e2)
    · subst gx; rw [fset_ne (ne y gy), fset_same] at e1; exact absurd e1.symm (h0 y gy e2.symm)
    · rw [gx, gy]
  · rcases (mem x).mp hx with gx | gx <;> rcases (mem y).mp hy with gy | gy
    · rw [fset_ne (ne x gx), fset_ne (ne y gy)] at e1 e2; exact S.out x gx y gy e1 e2
    · subst gy; rw [fset_ne (ne x gx), fset_same] at e1 e2; exact absurd e1 (h1 x gx e2)
    · subst gx; rw [fset_ne (ne y gy), fset_same] at e1 e2; exact absurd e1.symm (h1 y gy e2.symm)
    · rw [gx, gy]
theorem sound_drop (S : Sound m g s ks ot nu) (q : Nat → Bool) : Sound m g s (ks.filter q) ot nu := by
  have h : ∀ x, x ∈ ks.filter q → x ∈ ks := fun x hx => (List.mem_filter.mp hx).1
  exact ⟨S.nd.filter _, fun a ha b hb => S.nd2 a (h a ha) b (h b hb), fun a ha => S.lt1 a (h a ha), fun a ha => S.lt2 a (h a ha), fun a ha => S.ltm a (h a ha), fun a ha b hb => S.in_ a (h a ha) b (h b hb), fun a ha b hb => S.out a (h a ha) b (h b hb)⟩
theorem sound_other (S : Sound m g s ks ot nu) {ot' nu' : Nat → Nat} (h : ∀ x ∈ ks, ot' x = ot x ∧ nu' x = nu x) : Sound m g s ks ot' nu' :=
  ⟨S.nd, fun a ha b hb e => S.nd2 a ha b hb (by rw [← (h a ha).1, ← (h b hb).1]; exact e), S.lt1, fun a ha => by rw [(h a ha).1]; exact S.lt2 a ha, fun a ha => by rw [(h a ha).2]; exact S.ltm a ha,
    fun a ha b hb e1 e2 => S.in_ a ha b hb (by rw [← (h a ha).2, ← (h b hb).2]; exact e1) e2, fun a ha b hb e1 e2 => S.out a ha b hb (by rw [← (h a ha).2, ← (h b hb).2]; exact e1) (by rw [← (h a ha).1, ← (h b hb).1]; exact e2)⟩
/-- used at a switch -/
def usedB (ks : List Nat) (nu : Nat → Nat) (ev : Nat → Nat) (v k : Nat) : Bool := decide (∃ x ∈ ks, nu x = k ∧ ev x = v)
theorem used_in_le (S : Sound m g s ks ot nu) (hg : 0 < g) {a : Nat} (ha : a ∉ ks) : ((List.range m).filter (usedB ks nu (fun x => x / g) (a / g))).length + 1 ≤ g := by
  refine used_le (c := cC ks nu) (ev := fun x => x / g) (inp := fun x => x) (z := a) hg (fun x k _ => rfl) (fun x y k j _ _ e => e) rfl (fun x k hx z => ha (by rw [← z]; exact (cC_some.mp hx).1)) _ (List.nodup_range.filter _) fun k hk => ?_
  obtain ⟨x, hx, e1, e2⟩ := of_decide_eq_true (List.mem_filter.mp hk).2
  exact ⟨x, cC_some.mpr ⟨hx, e1⟩, e2⟩
theorem used_out_le (S : Sound m g s ks ot nu) (hg : 0 < g) {b : Nat} (hb : ∀ k ∈ ks, ot k ≠ b) : ((List.range m).filter (usedB ks nu (fun x => ot x / g) (b / g))).length + 1 ≤ g := by
  refine used_le (c := cC ks nu) (ev := fun x => ot x / g) (inp := ot) (z := b) hg (fun x k _ => rfl) (fun x y k j hx hy e => S.nd2 x (cC_some.mp hx).1 y (cC_some.mp hy).1 e) rfl (fun x k hx => hb x (cC_some.mp hx).1) _ (List.nodup_range.filter _) fun k hk => ?_
  obtain ⟨x, hx, e1, e2⟩ := of_decide_eq_true (List.mem_filter.mp hk).2
  exact ⟨x, cC_some.mpr ⟨hx, e1⟩, e2⟩
theorem usedB_false {ev : Nat → Nat} {v k : Nat} (h : usedB ks nu ev v k = false) : ∀ x ∈ ks, ev x = v → nu x ≠ k := fun x hx e1 e2 => (of_decide_eq_false h) ⟨x, hx, e2, e1⟩
theorem cC_swap {c1 c2 : Nat} {found : List Nat} (h : ∀ x ∈ found, x ∈ ks) : cC ks (nuS nu c1 c2 found) = swapped (cC ks nu) c1 c2 found := by
  funext x
  unfold swapped
  by_cases r : x ∈ found
  · rw [if_pos r]
    have hx := h x r
    have e1 : cC ks nu x = some (nu x) := cC_some.mpr ⟨hx, rfl⟩
    have e2 : cC ks (nuS nu c1 c2 found) x = some (nuS nu c1 c2 found x) := cC_some.mpr ⟨hx, rfl⟩
    rw [e1, e2]
    unfold nuS
    rw [if_pos r]
    by_cases q : nu x = c1
    · rw [if_pos q, if_pos (by rw [q])]
    · rw [if_neg q, if_neg (fun z => q (Option.some.inj z))]
  · rw [if_neg r]
    unfold cC nuS
    by_cases hx : x ∈ ks
    · rw [if_pos hx, if_pos hx, if_neg r]
    · rw [if_neg hx, if_neg hx]
end
/-! Clos.put_moving -/
abbrev s_Clos_put_moving : Stmt := inClass (top 26) 10
theorem sc_Clos_put_moving : FnScope ["self", "one", "other", "free", "here", "there", "mine", "theirs", "moved", "number"] ["self", "one", "other"] (defScope s_Clos_put_moving) := ⟨rfl, rfl, rfl, by decide +kernel, rfl, by decide +kernel, by decide +kernel⟩
def spPutM (C : Addr) : Sp := fun vs H Q _ => ∃ (p d m g sw a b : Nat) (ks : List Nat) (ot nu : Nat → Nat), vs = [.ref p, vi a, vi b] ∧ ClosAt C H p d m g sw ks ot nu ∧ Sound m g sw ks ot nu ∧ 1 ≤ g ∧ g ≤ 1000 ∧ g ≤ m ∧ m ≤ 1000 ∧ ks.length < 64 ∧ a < g * sw ∧ b < g * sw ∧ a ∉ ks ∧ (∀ k ∈ ks, ot k ≠ b) ∧
  ∀ nu' v H', Ext [d] H H' → ClosAt C H' p d m g sw (ks ++ [a]) (fset ot a b) nu' → Sound m g sw (ks ++ [a]) (fset ot a b) nu' → (2 * g - 1 ≤ m → ∃ q, v = .ref q ∧ H' q = some (.tup [])) → Q v H'
theorem ok_putm {f C : Addr} {fd : FuncData} (F : Fun K "put_moving" "Clos.put_moving" s_Clos_put_moving f fd) (B : Bts mg) (T_Clos : ClF K C ["middle", "gates", "switches", "calls"])
    (M_Clos_check : MtF P w K mg base C "check" 2 ["self", "one", "other"] (spClosK C)) (M_Clos_free_middle : MtF P w K mg base C "free_middle" 2 ["self", "one", "other"] (spFreeM C))
    (M_Clos_ends : MtF P w K mg base C "ends" 1 ["self", "one", "other"] (spEnds C)) (M_Clos_used_in : MtF P w K mg base C "used_in" 1 ["self", "switch"] (spUsed C fun _ k => k)) (M_Clos_used_out : MtF P w K mg base C "used_out" 1 ["self", "switch"] (spUsed C fun ot k => ot k))
    (M_Clos_exchange : MtF P w K mg base C "exchange" 3 ["self", "start", "one", "other"] (spClosX C)) : FnOk P w K mg base CX0 4 f fd ["self", "one", "other"] (spPutM C) := by
  refine F.ok sc_Clos_put_moving (fun vs H Q E h => ?_) (fun cdv A outer sh H vs Q E hr h => ?_)
  · obtain ⟨p, d, m, g, s, a, b, ks, ot, nu, rfl, _⟩ := h
    rfl
  · obtain ⟨p, d, m, g, sw, a, b, ks, ot, nu, rfl, S, hS, hg1, hg, hgm, hm, hkl, ha, hb, hak, hbk, k⟩ := h
    obtain ⟨dx, ad, h1, h2, h3⟩ := S.ex
    have u0 := used_in_le hS hg1 hak
    have u1 := used_out_le hS hg1 hbk
    refine ⟨_, (pss_cons (ps_expr (pm_call M_Clos_check (hr.mono (by omega)) (pv 0) (pa_cons (pv 1) (pa_cons (pv 2) pa_nil))))
      (pss_cons (ps_set (i := 3) sc_Clos_put_moving.nd rfl (Or.inl rfl) (pm_call M_Clos_free_middle (hr.mono (by omega)) (pv 0) (pa_cons (pv 1) (pa_cons (pv 2) pa_nil))))
      (pss_cons (ps_if (pt_cmpR (neD_K K rfl hr.units) (pv 3) (pe_lst pa_nil) (nomark _)) (pss_cons (ps_dput (hu_of hr) (fldC T_Clos (by decide +kernel) (pv 0) rfl) (pv 1) (pe_tup (pa_cons (pv 2) (pa_cons (pe_ix ixL (pv 3) pe_int (fun _ _ => rfl)) pa_nil))) rfl)
      (pss_one (ps_ret (pe_tup pa_nil)))) pss_nil)
      (pss_cons (ps_asg (pm_call M_Clos_ends (hr.mono (by omega)) (pv 0) (pa_cons (pv 1) (pa_cons (pv 2) pa_nil))) (pg_tupK (n := 2) K rfl rfl (pgs_cons (pg_name (i := 4) sc_Clos_put_moving.nd rfl (by first | exact Or.inl rfl | exact Or.inr rfl)) (pgs_cons (pg_name (i := 5) sc_Clos_put_moving.nd rfl (by first | exact Or.inl rfl | exact Or.inr rfl)) pgs_nil))))
      (pss_cons (ps_setLc (i := 6) (own := [("number", 9)]) (g := (gName 9)) rfl sc_Clos_put_moving.nd rfl rfl (sw_true rfl rfl rfl (by decide +kernel)) (pi_range1 (by rfl) B.range (pa_cons (fldC T_Clos (by decide +kernel) (pv 0) rfl) pa_nil)) (blkOk_by (N := ["self", "one", "other", "free", "here", "there", "mine", "theirs", "moved", "number"]) (sc := defScope s_Clos_put_moving) (by decide +kernel)) (fun _ _ _ _ _ => (pg_name (i := 9) sc_Clos_put_moving.nd rfl (by first | exact Or.inl rfl | exact Or.inr rfl))) (fun _ _ _ _ _ => (pts_one (pt_cmpR notInS (pv 9) (pm_call M_Clos_used_in (hr.mono (by omega)) (pv 0) (pa_cons (pv 4) pa_nil)) (by rfl)))) (fun _ _ _ _ _ => (pv 9)))
      (pss_cons (ps_setLc (i := 7) (own := [("number", 9)]) (g := (gName 9)) rfl sc_Clos_put_moving.nd rfl rfl (sw_true rfl rfl rfl (by decide +kernel)) (pi_range1 (by rfl) B.range (pa_cons (fldC T_Clos (by decide +kernel) (pv 0) rfl) pa_nil)) (blkOk_by (N := ["self", "one", "other", "free", "here", "there", "mine", "theirs", "moved", "number"]) (sc := defScope s_Clos_put_moving) (by decide +kernel)) (fun _ _ _ _ _ => (pg_name (i := 9) sc_Clos_put_moving.nd rfl (by first | exact Or.inl rfl | exact Or.inr rfl))) (fun _ _ _ _ _ => (pts_one (pt_cmpR notInS (pv 9) (pm_call M_Clos_used_out (hr.mono (by omega)) (pv 0) (pa_cons (pv 5) pa_nil)) (by rfl)))) (fun _ _ _ _ _ => (pv 9)))
      (pss_cons (ps_if (pw_or (pt_cmpR (eqD_K K rfl hr.units) (pv 6) (pe_lst pa_nil) (nomark _)) (pw_or1 (pt_cmpR (eqD_K K rfl hr.units) (pv 7) (pe_lst pa_nil) (nomark _)))).pt (pss_one ps_never) pss_nil)
      (pss_cons (ps_set (i := 8) sc_Clos_put_moving.nd rfl (Or.inl rfl) (pm_call M_Clos_exchange (hr.mono (by omega)) (pv 0) (pa_cons (pv 5) (pa_cons (pe_ix ixL (pv 6) pe_int (fun _ _ => rfl)) (pa_cons (pe_ix ixL (pv 7) pe_int (fun _ _ => rfl)) pa_nil)))))
      (pss_cons (ps_dput (hu_of hr) (fldC T_Clos (by decide +kernel) (pv 0) rfl) (pv 1) (pe_tup (pa_cons (pv 2) (pa_cons (pe_ix ixL (pv 6) pe_int (fun _ _ => rfl)) pa_nil))) rfl)
      (pss_one (ps_ret (pv 8)))))))))))), ?_⟩
    walk_at "e"
    refine ⟨p, dx, _, rfl, h1, clf_meth, ?_⟩
    walk_at "e"
    refine ⟨p, d, m, g, sw, a, b, ks, ot, nu, rfl, S, hg, by omega, ha, hb, hak, hbk, fun H1 x1 => ?_⟩
    have p1 := x1.ins h1
    walk_at "e"
    refine ⟨p, dx, _, rfl, p1, clf_meth, ?_⟩
    walk_at "e"
    refine ⟨p, d, m, g, sw, a, b, ks, ot, nu, rfl, S.ext x1, hg1, hg, hm, hkl, fun G q H2 hG x12 e2 => ?_⟩
    have x2 := x1.trans x12
    walk_at "e"
    intro q2 hq2
    have x23 : Ext [] H2 (L2.upd H2 q2 (.lst [])) := Ext.add hq2
    refine ⟨pL G, pL [], dp_list (x23.lst e2), dp_list (l := []) upd_same, sh_L _, sh_L _, ?_⟩
    generalize hH3 : L2.upd H2 q2 _ = H3 at *
    have x3 := x2.trans x23
    have p3 := x3.ins h1
    have e3 := x23.lst e2
    walk_at "e"
    cases G with
    | cons n G =>
      obtain ⟨n1, n2, n3⟩ := (hG n).mp List.mem_cons_self
      refine ifT rfl ?_
      walk_at "e"
      refine ⟨q, _, 0, _, rfl, rfl, e3, at_vi (l := n :: G) (i := 0) (by simp) rfl, ?_⟩
      walk_at "e"
      intro t ht
      obtain ⟨ad2, d4, S4⟩ := clos_put (n := n) (b := b) S hak x3 ht
      have x4 : Ext [] H (L2.upd H3 t (.tup [vi b, vi n])) := x3.trans (Ext.add ht)
      have p4 := x4.ins h1
      walk_at "e"
      refine ⟨p, dx, _, _, rfl, p4, clf_calls _ _ _ _, ?_⟩
      refine ⟨_, rfl, d, _, rfl, DPut.k (k := Sum.inl ((a : Nat) : Int)) d4 (by rw [kd_len]; exact sl_lt (by omega)), ?_⟩
      rw [kd_put hak]
      have x5 : Ext [d] H (L2.upd (L2.upd H3 t (.tup [vi b, vi n])) d (.dK (kd (ks ++ [a]) (fset ad2 a t)))) := x4.wide0.wr (.inr (by simp)) d4 nt_dK
      walk_at "e"
      intro q3 hq3
      exact k (fset nu a n) _ _ (x5.trans (Ext.add hq3)) (S4.ext (Ext.add hq3)) (sound_add hS hak ha hb hbk n1 n2 n3) fun _ => ⟨q3, rfl, upd_same⟩
    | nil =>
      refine ifF rfl ?_
      have nofree : ∀ y, y < m → (∀ k ∈ ks, k / g = a / g → nu k ≠ y) → (∀ k ∈ ks, ot k / g = b / g → nu k ≠ y) → False := fun y h1 h2 h3 => by
        have := (hG y).mpr ⟨h1, h2, h3⟩
        simp at this
      have hnw : ¬ 2 * g - 1 ≤ m := fun hw => by
        obtain ⟨y, y1, y2, y3⟩ := free_two (n := m) (m := g - 1) (m' := g - 1) (Nat.le_sub_of_add_le u0) (Nat.le_sub_of_add_le u1) (by omega)
        exact nofree y y1 (usedB_false y2) (usedB_false y3)
      walk_at "e"
      refine ⟨p, dx, _, rfl, p3, clf_meth, ?_⟩
      walk_at "e"
      refine ⟨p, d, m, g, sw, a, b, ks, ot, nu, rfl, S.ext x3, hg1, hg, fun q1 H4 x34 e4 => ?_⟩
      have x4 := x3.trans x34
      have p4 := x4.ins h1
      walk_at "e"
      refine ⟨p, dx, _, _, rfl, p4, clf_middle _ _ _ _, ?_⟩
      walk_at "e"
      intro D1 hD1
      have hmz : ((m : Nat) : Int).toNat = m := by omega
      refine lc_val (n := m) hD1 src_rngN (fun i => !usedB ks nu (fun x => x / g) (a / g) i) vi (by omega) (fun i v Ha Hb Kt Kf hi x ⟨ev, eh⟩ kt kf => ?_) fun H5 x0 x45 e5 => ?_
      · subst ev eh
        have xx := x4.trans x
        have p5 := xx.ins h1
        walk_at "e"
        refine ⟨p, dx, _, rfl, p5, clf_meth, ?_⟩
        walk_at "e"
        refine ⟨p, d, m, g, sw, a / g, ks, ot, nu, rfl, S.ext xx, hg1, hg, hkl, fun us q H' hu x' eq => ?_⟩
        refine ⟨q, _, rfl, .inl eq, rfl, flat_vi _, ?_⟩
        rw [in_vi]
        have hin : decide (i ∈ us) = usedB ks nu (fun x => x / g) (a / g) i := by
          have := used_mem hu i
          unfold usedB
          by_cases r : i ∈ us
          · obtain ⟨z, z1, z2, z3⟩ := this.mp r
            rw [decide_eq_true r, decide_eq_true ⟨z, z1, z3, of_decide_eq_true z2⟩]
          · rw [decide_eq_false r, decide_eq_false fun ⟨z, z1, z2, z3⟩ => r (this.mpr ⟨z, z1, decide_eq_true z3, z2⟩)]
        rw [hin]
        refine ⟨_, rfl, ?_⟩
        refine ifB (fun hb => ?_) (fun hb => ?_)
        · walk_at "e"
          exact kt _ hb x'
        · exact kf _ hb x'
      have x5 := x4.trans x45
      have p5 := x5.ins h1
      walk_at "e"
      refine ⟨p, dx, _, _, rfl, p5, clf_middle _ _ _ _, ?_⟩
      walk_at "e"
      intro D2 hD2
      refine lc_val (n := m) hD2 src_rngN (fun i => !usedB ks nu (fun x => ot x / g) (b / g) i) vi (by omega) (fun i v Ha Hb Kt Kf hi x ⟨ev, eh⟩ kt kf => ?_) fun H6 x0' x56 e6 => ?_
      · subst ev eh
        have xx := x5.trans x
        have p6 := xx.ins h1
        walk_at "e"
        refine ⟨p, dx, _, rfl, p6, clf_meth, ?_⟩
        walk_at "e"
        refine ⟨p, d, m, g, sw, b / g, ks, ot, nu, rfl, S.ext xx, hg1, hg, hkl, fun us q H' hu x' eq => ?_⟩
        refine ⟨q, _, rfl, .inl eq, rfl, flat_vi _, ?_⟩
        rw [in_vi]
        have hin : decide (i ∈ us) = usedB ks nu (fun x => ot x / g) (b / g) i := by
          have := used_mem hu i
          unfold usedB
          by_cases r : i ∈ us
          · obtain ⟨z, z1, z2, z3⟩ := this.mp r
            rw [decide_eq_true r, decide_eq_true ⟨z, z1, z3, of_decide_eq_true z2⟩]
          · rw [decide_eq_false r, decide_eq_false fun ⟨z, z1, z2, z3⟩ => r (this.mpr ⟨z, z1, decide_eq_true z3, z2⟩)]
        rw [hin]
        refine ⟨_, rfl, ?_⟩
        refine ifB (fun hb => ?_) (fun hb => ?_)
        · walk_at "e"
          exact kt _ hb x'
        · exact kf _ hb x'
      have x6 := x5.trans x56
      have p6 := x6.ins h1
      have e5' := x56.lst e5
      have m1 : ∀ y, y ∈ (List.range m).filter (fun i => !usedB ks nu (fun x => x / g) (a / g) i) ↔ y < m ∧ usedB ks nu (fun x => x / g) (a / g) y = false := fun y => by simp
      have m2 : ∀ y, y ∈ (List.range m).filter (fun i => !usedB ks nu (fun x => ot x / g) (b / g) i) ↔ y < m ∧ usedB ks nu (fun x => ot x / g) (b / g) y = false := fun y => by simp
      generalize (List.range m).filter (fun i => !usedB ks nu (fun x => x / g) (a / g) i) = G1 at *
      generalize (List.range m).filter (fun i => !usedB ks nu (fun x => ot x / g) (b / g) i) = G2 at *
      obtain ⟨c1, G1, rfl⟩ : ∃ c G', G1 = c :: G' := by
        obtain ⟨y, y1, y2⟩ := free_one (n := m) (m := g - 1) (Nat.le_sub_of_add_le u0) (by omega)
        have := (m1 y).mpr ⟨y1, y2⟩
        cases G1 with
        | nil => simp at this
        | cons c G' => exact ⟨c, G', rfl⟩
      obtain ⟨c2, G2, rfl⟩ : ∃ c G', G2 = c :: G' := by
        obtain ⟨y, y1, y2⟩ := free_one (n := m) (m := g - 1) (Nat.le_sub_of_add_le u1) (by omega)
        have := (m2 y).mpr ⟨y1, y2⟩
        cases G2 with
        | nil => simp at this
        | cons c G' => exact ⟨c, G', rfl⟩
      obtain ⟨r1, r2⟩ := (m1 c1).mp List.mem_cons_self
      obtain ⟨r3, r4⟩ := (m2 c2).mp List.mem_cons_self
      have f0 := usedB_false r2
      have f1 := usedB_false r4
      have hne : c1 ≠ c2 := fun z => nofree c1 r1 f0 (by rw [z]; exact f1)
      walk_at "e"
      intro v1 hv1
      have y1 : Ext [] H6 (L2.upd H6 v1 (.lst [])) := Ext.add hv1
      refine ⟨pL (c1 :: G1), pL [], dp_list (y1.lst e5'), dp_list (l := []) upd_same, sh_L _, sh_L _, ?_⟩
      generalize hH7 : L2.upd H6 v1 _ = H7 at *
      have e67 := y1.lst e6
      walk_at "e"
      intro v2 hv2
      have y2 : Ext [] H7 (L2.upd H7 v2 (.lst [])) := Ext.add hv2
      refine ⟨pL (c2 :: G2), pL [], dp_list (y2.lst e67), dp_list (l := []) upd_same, sh_L _, sh_L _, ?_⟩
      generalize hH8 : L2.upd H7 v2 _ = H8 at *
      have x8 := (x6.trans y1).trans y2
      have p8 := x8.ins h1
      have e58 := (y1.trans y2).lst e5'
      have e68 := y2.lst e67
      walk_at "e"
      refine ⟨p, dx, _, rfl, p8, clf_meth, ?_⟩
      walk_at "e"
      refine ⟨D1, _, 0, _, rfl, rfl, e58, at_vi (l := c1 :: G1) (i := 0) (by simp) rfl, ?_⟩
      walk_at "e"
      refine ⟨D2, _, 0, _, rfl, rfl, e68, at_vi (l := c2 :: G2) (i := 0) (by simp) rfl, ?_⟩
      walk_at "e"
      have hfree : ∀ x, cC ks nu x = some c2 → eC ot g 1 x ≠ b / g := fun x hx e => f1 x (cC_some.mp hx).1 e (cC_some.mp hx).2
      have hP := sound_proper hS
      refine ⟨p, d, m, g, sw, b / g, c1, c2, ks, ot, nu, rfl, S.ext x8, hS.nd, hkl, hg1, hg, hP, hne, hfree, fun found s v q H9 Ch hend x89 S9 => ?_⟩
      have hsub : ∀ z ∈ found, z ∈ ks := fun z hz => by
        rcases Ch.col z hz with q | q
        · exact (cC_some.mp q).1
        · exact (cC_some.mp q).1
      have hsw := cC_swap (nu := nu) (c1 := c1) (c2 := c2) hsub
      have P2 := Ch.proper hP hne hfree hend
      have F1 := Ch.free1 hP hne hfree hend
      have F0 := Ch.free0 hne (u := a / g) fun x hx e => f0 x (cC_some.mp hx).1 e (cC_some.mp hx).2
      rw [← hsw] at P2 F1 F0
      have hS2 : Sound m g sw ks ot (nuS nu c1 c2 found) := proper_sound hS P2 fun x hx => by
        unfold nuS
        split
        · split
          · exact r3
          · exact r1
        · exact hS.ltm x hx
      obtain ⟨dx9, ad9, g1, g2, g3⟩ := S9.ex
      have x9 : Ext [d] H H9 := x8.wide0.trans x89
      have e59 := x89.at_ _ _ e58 nt_lst (fun z => by
        have : D1 = d := by simpa using z
        rw [this, x8.dK h2] at e58; cases e58)
      walk_at "e"
      refine ⟨D1, _, 0, _, rfl, rfl, e59, at_vi (l := c1 :: G1) (i := 0) (by simp) rfl, ?_⟩
      walk_at "e"
      intro t ht
      obtain ⟨ad2, d4, S4⟩ := clos_put (n := c1) (b := b) S9 hak Ext.refl ht
      have z1 : Ext [] H9 (L2.upd H9 t (.tup [vi b, vi c1])) := Ext.add ht
      have p9 := z1.ins g1
      walk_at "e"
      refine ⟨p, dx9, _, _, rfl, p9, clf_calls _ _ _ _, ?_⟩
      refine ⟨_, rfl, d, _, rfl, DPut.k (k := Sum.inl ((a : Nat) : Int)) d4 (by rw [kd_len]; exact sl_lt (by omega)), ?_⟩
      rw [kd_put hak]
      walk_at "e"
      exact k _ _ _ ((x9.trans z1.wide0).wr (.inr (by simp)) d4 nt_dK) S4 (sound_add hS2 hak ha hb hbk r1 (fun x hx e1 e2 => F0 x (cC_some.mpr ⟨hx, e2⟩) e1) fun x hx e1 e2 => F1 x (cC_some.mpr ⟨hx, e2⟩) e1) fun z => absurd z hnw
end
end CL
set_option Elab.async false
set_option linter.all false
set_option maxRecDepth 100000
set_option maxHeartbeats 4000000
namespace CL
open PySem PySem.Spec PyProof.Rows L2 RX

local macro_rules | `(tactic| walk_at "e") => `(tactic| (repeat (first
  | refine ⟨_, rfl, ?_⟩
  | refine ⟨_, _, rfl, rfl, ?_⟩
  | refine ⟨_, _, rfl, rfl, (by first | decide | omega | (dsimp only; omega)), ?_⟩
  | refine ⟨_, _, rfl, rfl, cmul1 (by omega), ?_⟩
  | refine ⟨_, _, rfl, rfl, cmul2 (by omega), ?_⟩
  | refine ⟨_, _, rfl, rfl, ⟨by omega, by omega⟩, ?_⟩
  | refine ⟨_, _, rfl, ‹_›, ?_⟩
  | refine ⟨_, _, _, _, rfl, rfl, ‹_›, at_vi (by assumption) rfl, ?_⟩
  | refine ⟨_, _, rfl, SqT.of ‹_›, rfl, ?_⟩
  | refine ⟨_, _, rfl, SqT.of ‹_›, ?_⟩
  | refine ⟨_, _, rfl, SqL.of ‹_›, ?_⟩
  | refine And.intro rfl ?_
  | refine ⟨_, _, rfl, ?_⟩
  | refine And.intro (by first | decide | omega | (dsimp only; omega)) ?_
  | refine And.intro (cmul1 (by omega)) ?_
  | refine And.intro (cmul2 (by omega)) ?_
  | refine And.intro ⟨by omega, by omega⟩ ?_
  | refine And.intro ⟨_, SqT.of ‹_›⟩ ?_
  | refine And.intro ⟨_, SqL.of ‹_›⟩ ?_
  | refine And.intro (Or.inl ⟨rfl, _, SqL.of ‹_›⟩) ?_
  | refine And.intro sz0 ?_
  | refine And.intro sz1 ?_
  | refine And.intro sz2 ?_
  | refine And.intro sz3 ?_
  | refine yesT ?_)))
section
variable {P : Program} {w : World} {K : PySem.W.Frag} {mg : Str → Option Value} {base : Heap}
theorem ints_back2 {ns : List Int} {l : List Nat} (h : ns.Perm (l.map fun n => ((n : Nat) : Int))) : ∃ us : List Nat, us.Perm l ∧ ns = us.map fun n => ((n : Nat) : Int) := by
  obtain ⟨us, h1, h2⟩ := ints_back h
  refine ⟨us, h1, ?_⟩
  rw [vi_ints] at h2
  have inj : ∀ a b : List Int, a.map V.int = b.map V.int → a = b := by
    intro a
    induction a with
    | nil => intro b e; cases b with
      | nil => rfl
      | cons x b => simp at e
    | cons x a ih => intro b e; cases b with
      | nil => simp at e
      | cons y b =>
        have e' : V.int x :: a.map V.int = V.int y :: b.map V.int := e
        injection e' with e1 e2
        injection e1 with e3
        rw [e3, ih b e2]
  exact inj _ _ h2
theorem used_nd {ks : List Nat} {q : Nat → Bool} {nu : Nat → Nat} {us : List Nat} (h : us.Perm ((ks.filter q).map nu)) (hn : ks.Nodup) (hi : ∀ a ∈ ks, ∀ b ∈ ks, q a = true → q b = true → nu a = nu b → a = b) : us.Nodup := by
  rw [h.nodup_iff]
  refine List.pairwise_map.mpr (List.Pairwise.imp_of_mem (fun {a b} ha hb hab e => hab ?_) (hn.filter q))
  obtain ⟨a1, a2⟩ := List.mem_filter.mp ha
  obtain ⟨b1, b2⟩ := List.mem_filter.mp hb
  exact hi a a1 b b1 a2 b2 e
/-! Clos.is_sound -/
abbrev s_Clos_is_sound : Stmt := inClass (top 26) 13
theorem sc_Clos_is_sound : FnScope ["self", "switch", "row", "number"] ["self"] (defScope s_Clos_is_sound) := ⟨rfl, rfl, rfl, by decide +kernel, rfl, by decide +kernel, by decide +kernel⟩
def spSoundM (C : Addr) : Sp := fun vs H Q _ => ∃ (p d m g sw : Nat) (ks : List Nat) (ot nu : Nat → Nat), vs = [.ref p] ∧ ClosAt C H p d m g sw ks ot nu ∧ Sound m g sw ks ot nu ∧ 1 ≤ g ∧ g ≤ 1000 ∧ ks.length < 64 ∧ sw ≤ 1000 ∧ ∀ H', Ext [] H H' → Q (.bl true) H'
theorem ok_sound {f C : Addr} {fd : FuncData} (F : Fun K "is_sound" "Clos.is_sound" s_Clos_is_sound f fd) (B : Bts mg) (T_Clos : ClF K C ["middle", "gates", "switches", "calls"])
    (M_Clos_used_in : MtF P w K mg base C "used_in" 1 ["self", "switch"] (spUsed C fun _ k => k)) (M_Clos_used_out : MtF P w K mg base C "used_out" 1 ["self", "switch"] (spUsed C fun ot k => ot k)) : FnOk P w K mg base CX0 2 f fd ["self"] (spSoundM C) := by
  refine F.ok sc_Clos_is_sound (fun vs H Q E h => ?_) (fun cdv A outer sh H vs Q E hr h => ?_)
  · obtain ⟨p, d, m, g, s, ks, ot, nu, rfl, _⟩ := h
    rfl
  · obtain ⟨p, d, m, g, sw, ks, ot, nu, rfl, S, hS, hg1, hg, hkl, hsw, k⟩ := h
    obtain ⟨dx, ad, h1, h2, h3⟩ := S.ex
    refine ⟨_, (pss_cons (ps_for PassesOwn.never rfl (pi_range1 (by rfl) B.range (pa_cons (fldC T_Clos (by decide +kernel) (pv 0) rfl) pa_nil)) (pg_name (i := 1) sc_Clos_is_sound.nd rfl (by first | exact Or.inl rfl | exact Or.inr rfl)) (pss_one (ps_for PassesOwn.never rfl (piT_K K rfl (pe_tup (pa_cons (pm_call M_Clos_used_in (hr.mono (by omega)) (pv 0) (pa_cons (pv 1) pa_nil)) (pa_cons (pm_call M_Clos_used_out (hr.mono (by omega)) (pv 0) (pa_cons (pv 1) pa_nil)) pa_nil)))) (pg_name (i := 2) sc_Clos_is_sound.nd rfl (by first | exact Or.inl rfl | exact Or.inr rfl)) (pss_one (ps_if (pt_cmpR op_ne (pe_callB call_len_any (by rfl) B.len PySem.boot_len (pa_cons (pe_callTy (call_dictP rfl) (by rfl) B.dict (by decide +kernel) (pa_cons (pe_lc (own := [("number", 3)]) (g := (gName 3)) (tt := tYes) rfl sc_Clos_is_sound.nd (piL_K K rfl (pv 2)) (blkOk_by (N := ["self", "switch", "row", "number"]) (sc := defScope s_Clos_is_sound) (by decide +kernel)) (fun _ _ _ _ _ => (pg_name (i := 3) sc_Clos_is_sound.nd rfl (by first | exact Or.inl rfl | exact Or.inr rfl))) (fun _ _ _ _ _ => pts_nil) (fun _ _ _ _ _ => (pe_tup (pa_cons (pv 3) (pa_cons pe_int pa_nil))))) pa_nil)) pa_nil)) (pe_callB lenL (by rfl) B.len PySem.boot_len (pa_cons (pv 2) pa_nil)) (nomark _)) (pss_one (ps_ret pe_bl)) pss_nil)))))
      (pss_one (ps_ret pe_bl))), ?_⟩
    walk_at "e"
    refine ⟨p, dx, _, _, rfl, h1, clf_switches _ _ _ _, ?_⟩
    walk_at "e"
    have hz : ((sw : Nat) : Int).toNat = sw := by omega
    refine for_any (src_rngN (n := sw)) (W := []) (Hs := H) (fun i σ H' => Ext [] H H' ∧ ∃ o1 o2 o3, σ = [some (.ref p), o1, o2, o3]) ⟨Ext.refl, none, none, none, rfl⟩ (fun i σ H' h => h.1) ?_ ?_
    · rintro i v σ Ha Hb hi ⟨x, o1, o2, o3, rfl⟩ ⟨rfl, rfl⟩
      have p1 := x.ins h1
      walk_at "e"
      refine ⟨p, dx, _, rfl, p1, clf_meth, ?_⟩
      walk_at "e"
      refine ⟨p, d, m, g, sw, i, ks, ot, nu, rfl, S.ext x, hg1, hg, hkl, fun us r1 H1 hu1 x1 e1 => ?_⟩
      have xx1 := x.trans x1
      have p2 := xx1.ins h1
      walk_at "e"
      refine ⟨p, dx, _, rfl, p2, clf_meth, ?_⟩
      walk_at "e"
      refine ⟨p, d, m, g, sw, i, ks, ot, nu, rfl, S.ext xx1, hg1, hg, hkl, fun ws r2 H2 hu2 x2 e2 => ?_⟩
      have e1' := x2.lst e1
      walk_at "e"
      intro t ht
      generalize hH3 : L2.upd H2 t _ = H3
      have x3 : Ext [] H2 H3 := by rw [← hH3]; exact Ext.add ht
      have t3 := (congrFun hH3.symm t).trans upd_same
      have xx3 := (xx1.trans x2).trans x3
      have f1 := x3.lst e1'
      have f2 := x3.lst e2
      have n1 : us.Nodup := used_nd hu1 hS.nd fun a ha b hb qa qb e => hS.in_ a ha b hb e (by rw [of_decide_eq_true qa, of_decide_eq_true qb])
      have n2 : ws.Nodup := used_nd hu2 hS.nd fun a ha b hb qa qb e => hS.out a ha b hb e (by rw [of_decide_eq_true qa, of_decide_eq_true qb])
      have l1 : us.length ≤ 64 := by rw [hu1.length_eq, List.length_map]; exact Nat.le_trans (List.length_filter_le _ _) (by omega)
      have l2 : ws.length ≤ 64 := by rw [hu2.length_eq, List.length_map]; exact Nat.le_trans (List.length_filter_le _ _) (by omega)
      walk_at "e"
      refine for_any (src_tup t3 (by simp)) (W := []) (Hs := H3) (fun j σ H' => Ext [] H3 H' ∧ ∃ o2 o3, σ = [some (.ref p), some (vi i), o2, o3]) ⟨Ext.refl, o2, o3, rfl⟩ (fun i σ H' h => h.1) ?_ ?_
      · rintro j v σ Hc Hd hj ⟨y, o2, o3, rfl⟩ ⟨rfl, rfl⟩
        obtain ⟨r, l, er, hl, nl, ll⟩ : ∃ (r : Addr) (l : List Nat), [V.ref r1, V.ref r2].getD j .non = V.ref r ∧ Hd r = some (.lst (l.map vi)) ∧ l.Nodup ∧ l.length ≤ 64 := by
          have hj2 : j < 2 := hj
          have : j = 0 ∨ j = 1 := by omega
          rcases this with z | z <;> subst z
          · exact ⟨r1, us, rfl, y.lst f1, n1, l1⟩
          · exact ⟨r2, ws, rfl, y.lst f2, n2, l2⟩
        dsimp only
        rw [er]
        walk_at "e"
        intro D2 hD2
        refine lc_any hD2 (src_lstN hl (by simp)) (fun _ => true) (fun i y H => ∃ t, y = .ref t ∧ H t = some (.tup [vi (gt l i), .int 1])) (by omega) (fun i y Ha Hb ⟨t, e, h⟩ x => ⟨t, e, x.tup h⟩) (fun i v Ha Hb Kt Kf hi x ⟨ev, eh⟩ kt kf => ?_) fun H4 ys x4 x5 e5 hys => ?_
        · subst ev eh
          walk_at "e"
          intro t ht
          refine kt _ _ rfl (Ext.add ht) fun D' zs hD' => ⟨t, rfl, ?_⟩
          rw [hide_ne (fun z => by rw [z, hD'] at ht; cases ht), upd_same]
        · rw [filter_true] at hys
          obtain ⟨ts, ets, hpr⟩ := ones_pairs (K := K) ext_hide hys
          subst ets
          have e6 := x5.lst hl
          walk_at "e"
          refine ⟨D2, ts, ones l, rfl, .of e5, hpr, fun dd hd => ?_⟩
          have x6 : Ext [] H4 (L2.upd H4 dd (.dK (mergeK [] (ones l)))) := Ext.add hd
          generalize hH5 : L2.upd H4 dd (.dK (mergeK [] (ones l))) = H5 at x6
          have e7 : H5 dd = some (.dK (mergeK [] (ones l))) := by rw [← hH5]; exact upd_same
          have e8 := x6.lst e6
          walk_at "e"
          refine Or.inl ⟨_, e7, ?_⟩
          walk_at "e"
          refine ifF (neF (congrArg V.int (by rw [ones_len nl, List.length_map]))) ?_
          exact ⟨(y.trans x5).trans x6, _, _, rfl⟩
      · rintro σ Hc ⟨y, o2, o3, rfl⟩
        exact ⟨(x.trans x1).trans ((x2.trans x3).trans y), _, _, _, rfl⟩
    · rintro σ H' ⟨x, o1, o2, o3, rfl⟩
      walk_at "e"
      exact k H' x
/-! Clos.shown -/
abbrev s_Clos_shown : Stmt := inClass (top 26) 14
theorem sc_Clos_shown : FnScope ["self", "one"] ["self"] (defScope s_Clos_shown) := ⟨rfl, rfl, rfl, by decide +kernel, rfl, by decide +kernel, by decide +kernel⟩
/-- the rows that are shown -/
def ShownAt (H : Hp) (q : Addr) (us : List Nat) (ot nu : Nat → Nat) : Prop := ∃ ts : List Addr, H q = some (.tup (ts.map V.ref)) ∧ ts.length = us.length ∧ ∀ i, i < us.length → H (ag ts i) = some (.tup [vi (gt us i), vi (ot (gt us i)), vi (nu (gt us i))])
theorem ShownAt.ext {H H' : Hp} {q : Addr} {us : List Nat} {ot nu : Nat → Nat} (s : ShownAt H q us ot nu) (x : Ext [] H H') : ShownAt H' q us ot nu := by
  obtain ⟨ts, h1, h2, h3⟩ := s
  exact ⟨ts, x.tup h1, h2, fun i hi => x.tup (h3 i hi)⟩
def spShown (C : Addr) : Sp := fun vs H Q _ => ∃ (p d m g sw : Nat) (ks : List Nat) (ot nu : Nat → Nat), vs = [.ref p] ∧ ClosAt C H p d m g sw ks ot nu ∧ ks.Nodup ∧ ks.length < 64 ∧
  ∀ (us : List Nat) q H', us.Perm ks → us.Pairwise (· ≤ ·) → Ext [] H H' → ShownAt H' q us ot nu → Q (.ref q) H'
theorem ok_shown {f C : Addr} {fd : FuncData} (F : Fun K "shown" "Clos.shown" s_Clos_shown f fd) (B : Bts mg) (T_Clos : ClF K C ["middle", "gates", "switches", "calls"]) : FnOk P w K mg base CX0 1 f fd ["self"] (spShown C) := by
  refine F.ok sc_Clos_shown (fun vs H Q E h => ?_) (fun cdv A outer sh H vs Q E hr h => ?_)
  · obtain ⟨p, d, m, g, s, ks, ot, nu, rfl, _⟩ := h
    rfl
  · obtain ⟨p, d, m, g, sw, ks, ot, nu, rfl, S, hnd, hkl, k⟩ := h
    obtain ⟨dx, ad, h1, h2, h3⟩ := S.ex
    refine ⟨_, (pss_one (ps_ret (tupL (by rfl) B.tuple (pe_lc (own := [("one", 1)]) (g := (gName 1)) (tt := tYes) rfl sc_Clos_shown.nd (piL_K K rfl (pe_callB (call_sortedDI rfl) (by rfl) B.sorted (by decide +kernel) (pa_cons (fldC T_Clos (by decide +kernel) (pv 0) rfl) pa_nil))) (blkOk_by (N := ["self", "one"]) (sc := defScope s_Clos_shown) (by decide +kernel)) (fun _ _ _ _ _ => (pg_name (i := 1) sc_Clos_shown.nd rfl (by first | exact Or.inl rfl | exact Or.inr rfl))) (fun _ _ _ _ _ => pts_nil) (fun _ _ _ _ _ => (pe_tup (pa_cons (pv 1) (pa_cons (pe_ix ixT (pe_dget (hu_of hr) (fldC T_Clos (by decide +kernel) (pv 0) rfl) (pv 1) (fun _ _ => rfl)) pe_int (fun _ _ => rfl)) (pa_cons (pe_ix ixT (pe_dget (hu_of hr) (fldC T_Clos (by decide +kernel) (pv 0) rfl) (pv 1) (fun _ _ => rfl)) pe_int (fun _ _ => rfl)) pa_nil))))))))), ?_⟩
    walk_at "e"
    refine ⟨p, dx, _, _, rfl, h1, clf_calls _ _ _ _, ?_⟩
    walk_at "e"
    refine ⟨d, _, ks.map fun k => ((k : Nat) : Int), rfl, .inl h2, by unfold kd; rw [List.map_map, List.map_map]; rfl, by simp; omega, fun ys q hperm hsrt hq => ?_⟩
    obtain ⟨us, hu1, hu2⟩ := ints_back2 hperm
    subst hu2
    rw [← vi_ints]
    have hus : us.Pairwise (· ≤ ·) := (List.pairwise_map.mp hsrt).imp fun {a b} h => by omega
    generalize hH1 : L2.upd H q _ = H1
    have x1 : Ext [] H H1 := by rw [← hH1]; exact Ext.add hq
    have e1 := (congrFun hH1.symm q).trans upd_same
    have hul := hu1.length_eq
    walk_at "e"
    intro D hD
    refine lc_any hD (src_lstN e1 (by simp)) (fun _ => true) (fun i y H => ∃ t, y = .ref t ∧ H t = some (.tup [vi (gt us i), vi (ot (gt us i)), vi (nu (gt us i))])) (by omega) (fun i y Ha Hb ⟨t, e, h⟩ x => ⟨t, e, x.tup h⟩) (fun i v Ha Hb Kt Kf hi x ⟨ev, eh⟩ kt kf => ?_) fun H2 ys x0 x2 e2 hys => ?_
    · subst ev eh
      have xx := x1.trans x
      have hk : gt us i ∈ ks := hu1.mem_iff.mp (gt_mem hi)
      have p3 := xx.ins h1
      have d3 := xx.dK h2
      have a3 := xx.tup (h3 _ hk)
      walk_at "e"
      refine ⟨p, dx, _, _, rfl, p3, clf_calls _ _ _ _, ?_⟩
      refine ⟨_, rfl, d, _, rfl, dget_kd (.inl d3) hk hnd, ?_⟩
      walk_at "e"
      refine ⟨ad (gt us i), _, 0, _, rfl, rfl, a3, rfl, ?_⟩
      walk_at "e"
      refine ⟨p, dx, _, _, rfl, p3, clf_calls _ _ _ _, ?_⟩
      refine ⟨_, rfl, d, _, rfl, dget_kd (.inl d3) hk hnd, ?_⟩
      walk_at "e"
      refine ⟨ad (gt us i), _, 1, _, rfl, rfl, a3, rfl, ?_⟩
      walk_at "e"
      intro t ht
      refine kt _ _ rfl (Ext.add ht) fun D' zs hD' => ⟨t, rfl, ?_⟩
      rw [hide_ne (fun z => by rw [z, hD'] at ht; cases ht), upd_same]
    · rw [filter_true] at hys
      obtain ⟨ts, ets, hts⟩ := refs_of2 (Paired.mapP hys fun i y ⟨t, e, h⟩ => (⟨t, e, of_hide h⟩ : ∃ t, y = V.ref t ∧ H2 t = some (.tup [vi (gt us i), vi (ot (gt us i)), vi (nu (gt us i))])))
      subst ets
      have htl : ts.length = us.length := by
        have := Paired.length hts
        simp at this; omega
      walk_at "e"
      intro q2 hq2
      have x3 : Ext [] H2 (L2.upd H2 q2 (.tup (ts.map V.ref))) := Ext.add hq2
      refine k us q2 _ hu1 hus ((x1.trans x2).trans x3) ⟨ts, upd_same, htl, fun i hi => ?_⟩
      obtain ⟨t, q1, q3⟩ := paired_at hts (i := i) (x := i) (by rw [List.getElem?_range hi])
      have e3 : ag ts i = t := by unfold ag; rw [List.getD_eq_getElem?_getD, q1]; rfl
      rw [e3]
      exact x3.tup q3
end
end CL
set_option Elab.async false
set_option linter.all false
set_option maxRecDepth 100000
set_option maxHeartbeats 4000000
namespace CL
open PySem PySem.Spec PyProof.Rows L2 RX

local macro_rules | `(tactic| walk_at "e") => `(tactic| (repeat (first
  | refine ⟨_, rfl, ?_⟩
  | refine ⟨_, _, rfl, rfl, ?_⟩
  | refine ⟨_, _, rfl, rfl, (by first | decide | omega | (dsimp only; omega)), ?_⟩
  | refine ⟨_, _, rfl, rfl, cmul1 (by omega), ?_⟩
  | refine ⟨_, _, rfl, rfl, cmul2 (by omega), ?_⟩
  | refine ⟨_, _, rfl, rfl, ⟨by omega, by omega⟩, ?_⟩
  | refine ⟨_, _, rfl, ‹_›, ?_⟩
  | refine ⟨_, _, _, _, rfl, rfl, ‹_›, at_vi (by assumption) rfl, ?_⟩
  | refine ⟨_, _, rfl, SqT.of ‹_›, rfl, ?_⟩
  | refine ⟨_, _, rfl, SqT.of ‹_›, ?_⟩
  | refine ⟨_, _, rfl, SqL.of ‹_›, ?_⟩
  | refine And.intro rfl ?_
  | refine ⟨_, _, rfl, ?_⟩
  | refine And.intro (by first | decide | omega | (dsimp only; omega)) ?_
  | refine And.intro (cmul1 (by omega)) ?_
  | refine And.intro (cmul2 (by omega)) ?_
  | refine And.intro ⟨by omega, by omega⟩ ?_
  | refine And.intro ⟨_, SqT.of ‹_›⟩ ?_
  | refine And.intro ⟨_, SqL.of ‹_›⟩ ?_
  | refine And.intro (Or.inl ⟨rfl, _, SqL.of ‹_›⟩) ?_
  | refine And.intro sz0 ?_
  | refine And.intro sz1 ?_
  | refine And.intro sz2 ?_
  | refine And.intro sz3 ?_
  | refine yesT ?_)))
section
variable {P : Program} {w : World} {K : PySem.W.Frag} {mg : Str → Option Value} {base : Heap}
/-- the places with a value -/
def isL (l : List (Option Nat)) : List Nat := (List.range l.length).filter fun i => (go l i).isSome
def ov (l : List (Option Nat)) (i : Nat) : Nat := (go l i).getD 0
/-- the colours o of the calls l, g gates a switch -/
structure Asg (n g : Nat) (l o : List (Option Nat)) : Prop where
  len : o.length = n
  none_ : ∀ i, i < n → (go o i = none ↔ go l i = none)
  lt : ∀ i k, i < n → go o i = some k → k < g
  in_ : ∀ i j k, i < n → j < n → go o i = some k → go o j = some k → i / g = j / g → i = j
  out : ∀ i j k, i < n → j < n → go o i = some k → go o j = some k → ov l i / g = ov l j / g → i = j
theorem isL_nd (l : List (Option Nat)) : (isL l).Nodup := List.nodup_range.filter _
theorem isL_mem {l : List (Option Nat)} {i : Nat} : i ∈ isL l ↔ i < l.length ∧ (go l i).isSome = true := by simp [isL]
/-- the place of i among them -/
def cnt (l : List (Option Nat)) (i : Nat) : Nat := ((List.range i).filter fun i => (go l i).isSome).length
theorem cnt_succ (l : List (Option Nat)) (i : Nat) : cnt l (i + 1) = cnt l i + (if (go l i).isSome then 1 else 0) := by
  unfold cnt
  rw [List.range_succ, List.filter_append, List.length_append]
  cases h : (go l i).isSome <;> simp [h]
theorem cnt_at {l : List (Option Nat)} {i : Nat} (h : i < l.length) (hs : (go l i).isSome = true) : (isL l)[cnt l i]? = some i := by
  have e : List.range l.length = List.range i ++ (i :: (List.range (l.length - i - 1)).map fun x => i + 1 + x) := by
    refine List.ext_getElem? fun j => ?_
    by_cases hj : j < i
    · rw [List.getElem?_append_left (by simpa using hj), List.getElem?_range (by omega), List.getElem?_range hj]
    · rw [List.getElem?_append_right (by simpa using hj), List.length_range]
      by_cases hj2 : j < l.length
      · rw [List.getElem?_range hj2]
        by_cases hj3 : j = i
        · subst hj3; simp
        · obtain ⟨t, ht⟩ : ∃ t, j - i = t + 1 := ⟨j - i - 1, by omega⟩
          rw [ht, List.getElem?_cons_succ, List.getElem?_map, List.getElem?_range (by omega)]
          show some j = some (i + 1 + t)
          congr 1; omega
      · rw [List.getElem?_eq_none (by simp; omega), List.getElem?_eq_none (by simp; omega)]
  unfold isL cnt
  rw [e, List.filter_append, List.getElem?_append_right (Nat.le_refl _), Nat.sub_self, List.filter_cons_of_pos (p := fun i => (go l i).isSome) hs]
  rfl
theorem cnt_lt {l : List (Option Nat)} {i : Nat} (h : i < l.length) (hs : (go l i).isSome = true) : cnt l i < (isL l).length := (List.getElem?_eq_some_iff.mp (cnt_at h hs)).1
theorem gt_cnt {l : List (Option Nat)} {i : Nat} (h : i < l.length) (hs : (go l i).isSome = true) : gt (isL l) (cnt l i) = i := gt_of (cnt_at h hs)
theorem isL_len (l : List (Option Nat)) : (isL l).length ≤ l.length := by
  unfold isL
  refine Nat.le_trans (List.length_filter_le _ _) ?_
  simp
theorem ov_some {l : List (Option Nat)} {i : Nat} (h : (go l i).isSome = true) : go l i = some (ov l i) := by
  unfold ov
  cases q : go l i with
  | none => rw [q] at h; cases h
  | some x => rfl
theorem ov_inj {n : Nat} {l : List (Option Nat)} (p : PP n l) {i j : Nat} (hi : i < l.length) (hj : j < l.length) (si : (go l i).isSome = true) (sj : (go l j).isSome = true) (e : ov l i = ov l j) : i = j := by
  have gen : ∀ (l : List (Option Nat)), (somes l).Nodup → ∀ (i j x : Nat), l[i]? = some (some x) → l[j]? = some (some x) → i = j := by
    intro l
    induction l with
    | nil => intro _ i j x h; simp at h
    | cons y l ih =>
      intro hn i j x h1 h2
      have hn' : (somes l).Nodup := by
        cases y with
        | none => simpa [somes] using hn
        | some z => have : (z :: somes l).Nodup := by simpa [somes] using hn
                    exact (List.nodup_cons.mp this).2
      cases i with
      | zero =>
        cases j with
        | zero => rfl
        | succ j =>
          have hy : y = some x := by simpa using h1
          subst hy
          have hn2 : (x :: somes l).Nodup := by simpa [somes] using hn
          exact absurd (mem_somes.mpr (List.mem_of_getElem? (by simpa using h2))) (List.nodup_cons.mp hn2).1
      | succ i =>
        cases j with
        | zero =>
          have hy : y = some x := by simpa using h2
          subst hy
          have hn2 : (x :: somes l).Nodup := by simpa [somes] using hn
          exact absurd (mem_somes.mpr (List.mem_of_getElem? (by simpa using h1))) (List.nodup_cons.mp hn2).1
        | succ j => rw [ih hn' i j x (by simpa using h1) (by simpa using h2)]
  refine gen l p.nd i j (ov l i) ?_ ?_
  · rw [some_go hi, ov_some si]
  · rw [some_go hj, ov_some sj, e]
theorem free_at {c : Nat → Option Nat} {inp : Nat → Nat} {g x N : Nat} (hg : 0 < g) (su : Supp N c) (hx : x < N) (hcx : c x = none) (hinj : ∀ a b, a < N → b < N → inp a = inp b → a = b) : ∃ k, k < g ∧ ∀ y, c y = some k → inp y / g ≠ inp x / g := by
  classical
  have hle := used_le (c := c) (ev := fun y => inp y / g) (inp := inp) (g := g) (v := inp x / g) (z := inp x) hg (fun _ _ _ => rfl) (fun a b k j h1 h2 e => hinj a b (su _ _ h1) (su _ _ h2) e) rfl
    (fun y k h e => by
      have := hinj y x (su _ _ h) hx e
      rw [this, hcx] at h; cases h)
    ((List.range g).filter fun k => decide (∃ y, c y = some k ∧ inp y / g = inp x / g)) (List.nodup_range.filter _) (fun k hk => of_decide_eq_true (List.mem_filter.mp hk).2)
  obtain ⟨k, hk, h⟩ := free_one (p := fun k => decide (∃ y, c y = some k ∧ inp y / g = inp x / g)) (n := g) (m := g - 1) (by omega) (by omega)
  exact ⟨k, hk, fun y hy e => of_decide_eq_false h ⟨y, hy, e⟩⟩
/-- the colours, place by place -/
def oo (l : List (Option Nat)) (c : Nat → Option Nat) (i : Nat) : Option Nat := if (go l i).isSome = true then c (cnt l i) else none
theorem go_oo {n i : Nat} {F : Nat → Option Nat} (h : i < n) : go ((List.range n).map F) i = F i := by
  unfold go
  rw [List.getD_eq_getElem?_getD, List.getElem?_map, List.getElem?_range h]
  rfl
theorem asg_oo {n g : Nat} {l : List (Option Nat)} {c : Nat → Option Nat} (hp : PP n l) (hP : Proper c fun s x => (if s = 0 then gt (isL l) x else ov l (gt (isL l) x)) / g) (hlt : ∀ y k, c y = some k → k < g) (hnn : ∀ y, y < (isL l).length → c y ≠ none) : Asg n g l ((List.range n).map (oo l c)) := by
  have hln := hp.len
  have ho : ∀ i k, i < n → oo l c i = some k → (go l i).isSome = true ∧ c (cnt l i) = some k := fun i k hi h => by
    unfold oo at h
    split at h
    · exact ⟨‹_›, h⟩
    · cases h
  refine ⟨by simp, fun i hi => ?_, fun i k hi h => ?_, fun i j k hi hj h1 h2 e => ?_, fun i j k hi hj h1 h2 e => ?_⟩
  · rw [go_oo hi]
    unfold oo
    cases q : go l i with
    | none => simp
    | some z =>
      have := hnn _ (cnt_lt (l := l) (i := i) (by omega) (by rw [q]; rfl))
      simp [this]
  · rw [go_oo hi] at h
    exact hlt _ _ (ho i k hi h).2
  · rw [go_oo hi] at h1
    rw [go_oo hj] at h2
    obtain ⟨a1, a2⟩ := ho i k hi h1
    obtain ⟨b1, b2⟩ := ho j k hj h2
    have := hP 0 (cnt l i) (cnt l j) k (by omega) a2 b2 (by
      show gt (isL l) (cnt l i) / g = gt (isL l) (cnt l j) / g
      rw [gt_cnt (by omega) a1, gt_cnt (by omega) b1]; exact e)
    rw [← gt_cnt (l := l) (i := i) (by omega) a1, this, gt_cnt (by omega) b1]
  · rw [go_oo hi] at h1
    rw [go_oo hj] at h2
    obtain ⟨a1, a2⟩ := ho i k hi h1
    obtain ⟨b1, b2⟩ := ho j k hj h2
    have := hP 1 (cnt l i) (cnt l j) k (by omega) a2 b2 (by
      show ov l (gt (isL l) (cnt l i)) / g = ov l (gt (isL l) (cnt l j)) / g
      rw [gt_cnt (by omega) a1, gt_cnt (by omega) b1]; exact e)
    rw [← gt_cnt (l := l) (i := i) (by omega) a1, this, gt_cnt (by omega) b1]
theorem oo_succ {n : Nat} {F : Nat → Option Nat} : (((List.range n).map F).map vo) ++ [vo (F n)] = ((List.range (n + 1)).map F).map vo := by
  rw [List.range_succ, List.map_append, List.map_append]; rfl
/-! assigned -/
abbrev s_assigned : Stmt := top 27
theorem sc_assigned : FnScope ["pairs", "gates", "calls", "wide", "coloured", "number", "found", "place", "gate", "one"] ["pairs", "gates"] (defScope s_assigned) := ⟨rfl, rfl, rfl, by decide +kernel, rfl, by decide +kernel, by decide +kernel⟩
def spAsg (PA : Addr) : Sp := fun vs H Q _ => ∃ (a n g : Nat) (l : List (Option Nat)), vs = [.ref a, vi g] ∧ H a = some (.tup (l.map vo)) ∧ PP n l ∧ n ≤ 1000 ∧ 1 ≤ g ∧ g ≤ 1000 ∧ GxR.TabG H PA ∧ ∀ o q H', Asg n g l o → Ext [] H H' → H' q = some (.tup (o.map vo)) → Q (.ref q) H'
theorem ok_asg {f C PA : Addr} {fd : FuncData} (F : Fun K "assigned" "assigned" s_assigned f fd) (B : Bts mg) (T_Calls : ClF K C ["calls", "left", "right", "colours"])
    (K_Calls : MkF P w K mg base "Calls" C 4 ["self", "calls", "left", "right"] (spCallsI C PA)) (M_Calls_colour : MtF P w K mg base C "colour" 3 ["self", "number", "many"] (spColour C)) : FnOk P w K mg base CX0 6 f fd ["pairs", "gates"] (spAsg PA) := by
  refine F.ok sc_assigned (fun vs H Q E h => ?_) (fun cdv A outer sh H vs Q E hr h => ?_)
  · obtain ⟨a, n, g, l, rfl, _⟩ := h
    rfl
  · obtain ⟨a, n, g, l, rfl, e, hp, hn, hg1, hg, tb, k⟩ := h
    refine ⟨_, (pss_cons (ps_setLc (i := 2) (own := [("one", 9), ("gate", 8)]) (g := _) rfl sc_assigned.nd rfl rfl (sw_true rfl rfl rfl (by decide +kernel)) (pi_enumT (by rfl) B.enumerate (pa_cons (pv 0) pa_nil)) (blkOk_by (N := ["pairs", "gates", "calls", "wide", "coloured", "number", "found", "place", "gate", "one"]) (sc := defScope s_assigned) (by decide +kernel)) (fun _ _ _ _ _ => (pg_tupK (n := 2) K rfl rfl (pgs_cons (pg_name (i := 9) sc_assigned.nd rfl (by first | exact Or.inl rfl | exact Or.inr rfl)) (pgs_cons (pg_name (i := 8) sc_assigned.nd rfl (by first | exact Or.inl rfl | exact Or.inr rfl)) pgs_nil)))) (fun _ _ _ _ _ => (pts_one (pt_cmpR op_notN (pv 8) pe_non (nomark _)))) (fun _ _ _ _ _ => (pe_tup (pa_cons (pe_op op_fdiv (pv 9) (pv 1)) (pa_cons (pe_op op_fdiv (pv 8) (pv 1)) pa_nil)))))
      (pss_cons (ps_set (i := 3) sc_assigned.nd rfl (Or.inl rfl) (pe_op op_fdiv (pe_op op_sub (pe_op op_add (pe_callB lenT (by rfl) B.len PySem.boot_len (pa_cons (pv 0) pa_nil)) (pv 1)) pe_int) (pv 1)))
      (pss_cons (ps_set (i := 4) sc_assigned.nd rfl (Or.inl rfl) (pk_make K_Calls (hr.mono (by omega)) (by rfl) (pa_cons (pv 2) (pa_cons (pv 3) (pa_cons (pv 3) pa_nil)))))
      (pss_cons (ps_for PassesOwn.never rfl (pi_range1 (by rfl) B.range (pa_cons (pe_callB lenL (by rfl) B.len PySem.boot_len (pa_cons (pv 2) pa_nil)) pa_nil)) (pg_name (i := 5) sc_assigned.nd rfl (by first | exact Or.inl rfl | exact Or.inr rfl)) (pss_one (ps_expr (pm_call M_Calls_colour (hr.mono (by omega)) (pv 4) (pa_cons (pv 5) (pa_cons (pv 1) pa_nil))))))
      (pss_cons (ps_par (i := 6) (j := 7) rfl sc_assigned.nd rfl rfl (by decide) rfl rfl (pa_cons (pe_lst pa_nil) (pa_cons pe_int pa_nil)) (by rfl))
      (pss_cons (ps_for PassesOwn.never rfl (piT_K K rfl (pv 0)) (pg_name (i := 8) sc_assigned.nd rfl (by first | exact Or.inl rfl | exact Or.inr rfl)) (pss_cons (ps_expr (bmK K rfl PySem.F.plainAttrs_list PySem.F.slot_list_append PySem.F.type_list_append mt_append (pv 6) (pa_cons (pe_ifExp (pt_cmpR op_isN (pv 8) pe_non (nomark _)) pe_non (pe_ix ixL (fldC T_Calls (by decide +kernel) (pv 4) rfl) (pv 7) (fun _ _ => rfl))) pa_nil)))
      (pss_one (ps_aug (i := 7) sc_assigned.nd rfl (Or.inl rfl) (pe_callTy call_int1 (by rfl) B.int (by decide +kernel) (pa_cons (pe_cmpR op_notN (pv 8) pe_non (nomark _)) pa_nil)) ip_add))))
      (pss_one (ps_ret (tupL (by rfl) B.tuple (pv 6)))))))))), ?_⟩
    have hln := hp.len
    walk_at "e"
    intro D hD
    let is := isL l
    let ev : Nat → Nat → Nat := fun s x => (if s = 0 then gt is x else ov l (gt is x)) / g
    refine lc_any hD (src_enumTO e (by simp)) (fun i => (go l i).isSome) (fun i y H => ∃ t, y = .ref t ∧ H t = some (.tup [vi (i / g), vi (ov l i / g)])) (by omega) (fun i y Ha Hb ⟨t, e, h⟩ x => ⟨t, e, x.tup h⟩) (fun i v Ha Hb Kt Kf hi x ⟨T, ev, hT, eh⟩ kt kf => ?_) fun H1 ys x0 x1 e1 hys => ?_
    · subst ev eh
      generalize hHb : L2.upd Ha T _ = Hb at *
      have y2 : Ext [] Ha Hb := by rw [← hHb]; exact Ext.add hT
      have T2 := (congrFun hHb.symm T).trans upd_same
      walk_at "e"
      cases q : go l i with
      | none =>
        refine ifF (neF (by show vo (go l i) = .non; rw [q]; rfl)) ?_
        exact kf _ (by rw [q]; rfl) y2
      | some z =>
        refine ifT (by show (!decide (vo (go l i) = .non)) = true; rw [q]; rfl) ?_
        walk_at "e"
        have hz : ov l i = z := by unfold ov; rw [q]; rfl
        refine ⟨(z : Int), (g : Int), by show vo (go l i) = _; rw [q]; rfl, rfl, ⟨by omega, by omega⟩, ?_⟩
        walk_at "e"
        intro t ht
        refine kt _ _ (by rw [q]; rfl) (y2.trans (Ext.add ht)) fun D' zs hD' => ⟨t, rfl, ?_⟩
        rw [hide_ne (fun z => by rw [z, y2.lst hD'] at ht; cases ht), upd_same, hz]
        refine congrArg (fun z => some (HO.tup z)) ?_
        show [V.int ((i : Int) / (g : Int)), V.int ((z : Int) / (g : Int))] = [V.int ((i / g : Nat) : Int), V.int ((z / g : Nat) : Int)]
        push_cast
        rfl
    have m1 : Ext [] (hide H1 D) H1 := ext_hide
    obtain ⟨ts, ets, hts⟩ := refs_of2 (Paired.mapP hys fun i y ⟨t, e, h⟩ => (⟨t, e, of_hide h⟩ : ∃ t, y = V.ref t ∧ H1 t = some (.tup [vi (i / g), vi (ov l i / g)])))
    subst ets
    have el1 := x1.tup e
    walk_at "e"
    intro p dx hp2 hdx hne
    have z1 : Ext [] H1 (upd (upd H1 dx (.own p)) p (.ins C dx [])) := (Ext.add hdx).new (by rw [upd_ne hne.symm]; exact hp2)
    have hil : is.length ≤ n := by rw [← hln]; exact isL_len l
    have htl : ts.length = is.length := (Paired.length hts).symm
    have his : ∀ i, i < is.length → gt is i < l.length ∧ (go l (gt is i)).isSome = true := fun i hi => isL_mem.mp (gt_mem hi)
    have hdiv : ∀ x, x < n → x / g < (n + g - 1) / g := fun x hx => by
      have h1 : (x + g) / g ≤ (n + g - 1) / g := Nat.div_le_div_right (by omega)
      rw [Nat.add_div_right _ (by omega)] at h1
      omega
    have hov : ∀ i, i < is.length → ov l (gt is i) < n := fun i hi => by
      obtain ⟨q1, q2⟩ := his i hi
      refine hp.lt _ (mem_somes.mpr ?_)
      have q3 := some_go q1
      rw [ov_some q2] at q3
      exact List.mem_of_getElem? q3
    have hinj0 : ∀ i j, i < is.length → j < is.length → gt is i = gt is j → i = j := fun i j hi hj e => inj_of_nodup (isL_nd l) i j hi hj e
    have hinj1 : ∀ i j, i < is.length → j < is.length → ov l (gt is i) = ov l (gt is j) → i = j := fun i j hi hj e => hinj0 i j hi hj (ov_inj hp (his i hi).1 (his j hj).1 (his i hi).2 (his j hj).2 e)
    have ew : ((((l.map vo).length : Nat) : Int) + (g : Int) - 1) / (g : Int) = (((n + g - 1) / g : Nat) : Int) := by
      rw [List.length_map, hln, show (n : Int) + (g : Int) - 1 = ((n + g - 1 : Nat) : Int) by omega]
      rfl
    refine ⟨p, dx, D, (n + g - 1) / g, (n + g - 1) / g, is.length, ts, ev, ?_, upd_same, z1.lst e1, htl, by omega, fun i hi => ?_, (x1.trans z1).tab _ tb, fun co H2 x2 hco S2 => ?_⟩
    · show [V.ref p, V.ref D, V.int (((((l.map vo).length : Nat) : Int) + (g : Int) - 1) / (g : Int)), V.int (((((l.map vo).length : Nat) : Int) + (g : Int) - 1) / (g : Int))] = _
      rw [ew]
      rfl
    · obtain ⟨t, q1, q3⟩ := paired_at hts (i := i) (x := gt is i) (some_gt hi)
      have e3 : ag ts i = t := by unfold ag; rw [List.getD_eq_getElem?_getD, q1]; rfl
      rw [e3]
      refine ⟨z1.tup q3, hdiv _ (by rw [← hln]; exact (his i hi).1), hdiv _ (hov i hi)⟩
    have y2 : Ext [] H1 H2 := Ext.drop z1 x2 fun b hb => by
      have : b = p := by simpa using hb
      subst this; exact hp2
    have d2 := y2.lst e1
    walk_at "e"
    have hz2 : ((((ts.map V.ref).length : Nat) : Int)).toNat = is.length := by rw [List.length_map, htl]; simp
    refine ⟨by rw [List.length_map]; omega, ?_⟩
    rw [hz2]
    refine for_any (src_rngN (n := is.length)) (W := [co]) (Hs := H2) (fun i σ H' => Ext [co] H2 H' ∧ ∃ (o5 : Option V) (c : Nat → Option Nat), σ = [some (.ref a), some (vi g), some (.ref D), some (vi ((n + g - 1) / g)), some (.ref p), o5, none, none, none, none] ∧
      CallsAt C H' p co is.length ev c ∧ Supp is.length c ∧ Proper c ev ∧ (∀ y k, c y = some k → k < g) ∧ ∀ y, y < is.length → (c y = none ↔ i ≤ y)) ?_ (fun i σ H' h => h.1) ?_ ?_
    · refine ⟨Ext.refl, none, fun _ => none, ?_, S2, fun _ _ h => (nomatch h), fun _ _ _ _ _ h => (nomatch h), fun _ _ h => (nomatch h), fun y _ => ⟨fun _ => Nat.zero_le _, fun _ => rfl⟩⟩
      show [some (V.ref a), some (vi g), some (V.ref D), some (V.int (((((l.map vo).length : Nat) : Int) + (g : Int) - 1) / (g : Int))), some (V.ref p), none, none, none, none, none] = _
      rw [ew]
      rfl
    · rintro i v σ Ha Hb hi ⟨x3, o5, c, rfl, S3, su, hP, hlt, hnn⟩ ⟨ev1, eh⟩
      subst ev1 eh
      obtain ⟨dx3, cl3, l3, r3, as3, p3, _⟩ := S3.ex
      have hci : c i = none := (hnn i hi).mpr (Nat.le_refl _)
      walk_at "e"
      refine ⟨p, dx3, _, rfl, p3, (by exact cf_no _ _ _ _ (by decide +kernel) (by decide +kernel) (by decide +kernel) (by decide +kernel)), ?_⟩
      walk_at "e"
      refine ⟨p, co, is.length, i, g, ev, c, rfl, S3, by omega, hg, hi, hci, su, hP, hlt, free_at (inp := gt is) hg1 su hi hci hinj0, free_at (inp := fun x => ov l (gt is x)) hg1 su hi hci hinj1, fun c' v H4 x4 S4 su4 P4 lt4 n4 => ?_⟩
      walk_at "e"
      refine ⟨x3.trans x4, _, c', rfl, S4, su4, P4, lt4, fun y hy => ?_⟩
      rw [n4, hnn y hy]
      omega
    · rintro σ H3 ⟨x3, o5, c, rfl, S3, su, hP, hlt, hnn⟩
      walk_at "e"
      intro fl hfl
      have y13 : Ext [] H1 H3 := Ext.drop y2 x3 fun b hb => by
        have : b = co := by simpa using hb
        subst this; exact z1.dom _ hco
      generalize hH4 : L2.upd H3 fl _ = H4
      have x4 : Ext [] H3 H4 := by rw [← hH4]; exact Ext.add hfl
      have fl4 := (congrFun hH4.symm fl).trans upd_same
      have S4 := S3.ext x4
      obtain ⟨dx4, cl4, l4, r4, as4, p4, _⟩ := S4.ex
      have c4 := S4.cols
      have nfc : co ≠ fl := fun z => by rw [← z, S3.cols] at hfl; cases hfl
      have nfp : p ≠ fl := fun z => by rw [z, fl4] at p4; cases p4
      have el4 := (y13.trans x4).tup el1
      have nfa : a ≠ fl := fun z => by rw [z, fl4] at el4; cases el4
      walk_at "e"
      refine for_any (src_tupO (W := [fl]) el4 (by simp [nfa])) (fun i σ H' => Ext [fl] H4 H' ∧ ∃ o8, σ = [some (.ref a), some (vi g), some (.ref D), some (vi ((n + g - 1) / g)), some (.ref p), o5, some (.ref fl), some (vi (cnt l i)), o8, none] ∧
        H' fl = some (.lst (((List.range i).map (oo l c)).map vo))) ⟨Ext.refl, none, rfl, fl4⟩ (fun i σ H' h => h.1) ?_ ?_
      · rintro i v σ Ha Hb hi ⟨x5, o8, rfl, f5⟩ ⟨ev1, eh⟩
        subst ev1 eh
        have p5 := x5.at_ _ _ p4 nt_ins (by simp [nfp])
        have c5 := x5.at_ _ _ c4 nt_lst (by simp [nfc])
        walk_at "e"
        cases q : go l i with
        | none =>
          have eo : oo l c i = none := by unfold oo; rw [q]; rfl
          refine ifT (by show decide (vo (go l i) = V.non) = true; rw [q]; rfl) ?_
          walk_at "e"
          refine ⟨fl, _, _, rfl, rfl, f5, sl_lt (by simp; omega), ?_⟩
          generalize hH6 : L2.upd Hb fl _ = H6
          have y6 : Ext [fl] H4 H6 := by rw [← hH6]; exact x5.wr (.inr (by simp)) f5 nt_lst
          have f6 := (congrFun hH6.symm fl).trans upd_same
          walk_at "e"
          refine .inr ⟨false, by show [V.bl (!decide (vo (go l i) = V.non))] = _; rw [q]; rfl, ?_⟩
          refine ⟨_, _, rfl, rfl, ?_⟩
          refine ⟨y6, some (vo (go l i)), ?_, ?_⟩
          · have hc : cnt l (i + 1) = cnt l i := by rw [cnt_succ, q]; rfl
            rw [hc]; rfl
          · rw [f6, ← oo_succ, eo]; rfl
        | some z =>
          have hs : (go l i).isSome = true := by rw [q]; rfl
          have eo : oo l c i = c (cnt l i) := by unfold oo; rw [if_pos hs]
          have hcn : cnt l i < is.length := cnt_lt hi hs
          refine ifF (by show decide (vo (go l i) = V.non) = false; rw [q]; rfl) ?_
          walk_at "e"
          refine ⟨p, dx4, _, _, rfl, p5, cf_colours _ _ _ _, ?_⟩
          walk_at "e"
          refine ⟨co, _, _, _, rfl, rfl, c5, tab_at (i := cnt l i) hcn rfl, ?_⟩
          walk_at "e"
          refine ⟨fl, _, _, rfl, rfl, f5, sl_lt (by simp; omega), ?_⟩
          generalize hH6 : L2.upd Hb fl _ = H6
          have y6 : Ext [fl] H4 H6 := by rw [← hH6]; exact x5.wr (.inr (by simp)) f5 nt_lst
          have f6 := (congrFun hH6.symm fl).trans upd_same
          walk_at "e"
          refine .inr ⟨true, by show [V.bl (!decide (vo (go l i) = V.non))] = _; rw [q]; rfl, ?_⟩
          refine ⟨_, _, rfl, rfl, ?_⟩
          refine ⟨y6, some (vo (go l i)), ?_, ?_⟩
          · have hc : cnt l (i + 1) = cnt l i + 1 := by rw [cnt_succ, q]; rfl
            rw [hc]; rfl
          · rw [f6, ← oo_succ, eo]
      · rintro σ H5 ⟨x5, o8, rfl, f5⟩
        walk_at "e"
        intro q hq
        have y5 : Ext [] H H5 := Ext.drop (x1.trans (y13.trans x4)) x5 fun b hb => by
          have : b = fl := by simpa using hb
          subst this; exact x1.dom _ (y13.dom _ hfl)
        rw [hln] at *
        exact k _ q _ (asg_oo hp hP hlt fun y hy z => by exact absurd ((hnn y hy).mp z) (Nat.not_le.mpr hy)) (y5.trans (Ext.add hq)) (by rw [upd_same])
end
end CL
set_option Elab.async false
set_option linter.all false
set_option maxRecDepth 100000
set_option maxHeartbeats 4000000
namespace CL
open PySem PySem.Spec PyProof.Rows L2 RX

local macro_rules | `(tactic| walk_at "e") => `(tactic| (repeat (first
  | refine ⟨_, rfl, ?_⟩
  | refine ⟨_, _, rfl, rfl, ?_⟩
  | refine ⟨_, _, rfl, rfl, (by first | decide | omega | (dsimp only; omega)), ?_⟩
  | refine ⟨_, _, rfl, rfl, cmul1 (by omega), ?_⟩
  | refine ⟨_, _, rfl, rfl, cmul2 (by omega), ?_⟩
  | refine ⟨_, _, rfl, rfl, ⟨by omega, by omega⟩, ?_⟩
  | refine ⟨_, _, rfl, ‹_›, ?_⟩
  | refine ⟨_, _, _, _, rfl, rfl, ‹_›, at_vi (by assumption) rfl, ?_⟩
  | refine ⟨_, _, rfl, SqT.of ‹_›, rfl, ?_⟩
  | refine ⟨_, _, rfl, SqT.of ‹_›, ?_⟩
  | refine ⟨_, _, rfl, SqL.of ‹_›, ?_⟩
  | refine And.intro rfl ?_
  | refine ⟨_, _, rfl, ?_⟩
  | refine And.intro (by first | decide | omega | (dsimp only; omega)) ?_
  | refine And.intro (cmul1 (by omega)) ?_
  | refine And.intro (cmul2 (by omega)) ?_
  | refine And.intro ⟨by omega, by omega⟩ ?_
  | refine And.intro ⟨_, SqT.of ‹_›⟩ ?_
  | refine And.intro ⟨_, SqL.of ‹_›⟩ ?_
  | refine And.intro (Or.inl ⟨rfl, _, SqL.of ‹_›⟩) ?_
  | refine And.intro sz0 ?_
  | refine And.intro sz1 ?_
  | refine And.intro sz2 ?_
  | refine And.intro sz3 ?_
  | refine yesT ?_)))
section
variable {P : Program} {w : World} {K : PySem.W.Frag} {mg : Str → Option Value} {base : Heap}
/-! carried_net -/
abbrev s_carried_net : Stmt := top 28
theorem sc_carried_net : FnScope ["pairs", "middle", "gates", "net", "one", "number"] ["pairs", "middle", "gates"] (defScope s_carried_net) := ⟨rfl, rfl, rfl, by decide +kernel, rfl, by decide +kernel, by decide +kernel⟩
def spCarriedN (C PA : Addr) : Sp := fun vs H Q _ => ∃ (a m g s : Nat) (l : List (Option Nat)), vs = [.ref a, vi m, vi g] ∧ H a = some (.tup (l.map vo)) ∧ PP (g * s) l ∧ g * s < 64 ∧ 1 ≤ g ∧ 1 ≤ s ∧ g ≤ m ∧ m ≤ 1000 ∧ GxR.TabG H PA ∧
  ∀ p d nu H', Ext [] H H' → H d = none → ClosAt C H' p d m g s (isL l) (ov l) nu → Sound m g s (isL l) (ov l) nu → Q (.ref p) H'
theorem fset_self {F : Nat → Nat} {i v : Nat} (h : F i = v) : fset F i v = F := by
  funext x
  by_cases q : x = i
  · subst q; rw [fset_same]; exact h.symm
  · rw [fset_ne q]
def kU (l : List (Option Nat)) (i : Nat) : List Nat := (List.range i).filter fun i => (go l i).isSome
theorem kU_mem {l : List (Option Nat)} {i k : Nat} : k ∈ kU l i ↔ k < i ∧ (go l k).isSome = true := by simp [kU]
theorem kU_len (l : List (Option Nat)) (i : Nat) : (kU l i).length ≤ i := by
  unfold kU
  refine Nat.le_trans (List.length_filter_le _ _) ?_
  simp
theorem kU_some {l : List (Option Nat)} {i : Nat} (h : (go l i).isSome = true) : kU l (i + 1) = kU l i ++ [i] := by
  unfold kU
  rw [List.range_succ, List.filter_append, List.filter_cons_of_pos (p := fun i => (go l i).isSome) h]; rfl
theorem kU_none {l : List (Option Nat)} {i : Nat} (h : go l i = none) : kU l (i + 1) = kU l i := by
  unfold kU
  rw [List.range_succ, List.filter_append, List.filter_cons_of_neg (p := fun i => (go l i).isSome) (by rw [h]; simp)]; simp
theorem asg_sound {g s m : Nat} {l o : List (Option Nat)} (hp : PP (g * s) l) (A : Asg (g * s) g l o) (hm : g ≤ m) : Sound m g s (isL l) (ov l) (ov o) := by
  have hln := hp.len
  have h1 : ∀ a, a ∈ isL l → a < g * s ∧ (go l a).isSome = true ∧ go o a = some (ov o a) := fun a ha => by
    obtain ⟨q1, q2⟩ := isL_mem.mp ha
    refine ⟨by omega, q2, ov_some ?_⟩
    have := A.none_ a (by omega)
    cases q : go o a with
    | none => rw [this.mp q] at q2; cases q2
    | some z => rfl
  refine ⟨isL_nd l, fun a ha b hb e => ?_, fun a ha => (h1 a ha).1, fun a ha => ?_, fun a ha => ?_, fun a ha b hb e e2 => ?_, fun a ha b hb e e2 => ?_⟩
  · exact ov_inj hp (by have := (h1 a ha).1; omega) (by have := (h1 b hb).1; omega) (h1 a ha).2.1 (h1 b hb).2.1 e
  · refine hp.lt _ (mem_somes.mpr ?_)
    have q3 := some_go (l := l) (i := a) (by have := (h1 a ha).1; omega)
    rw [ov_some (h1 a ha).2.1] at q3
    exact List.mem_of_getElem? q3
  · exact Nat.lt_of_lt_of_le (A.lt a _ (h1 a ha).1 (h1 a ha).2.2) hm
  · exact A.in_ a b _ (h1 a ha).1 (h1 b hb).1 (h1 a ha).2.2 (by rw [e]; exact (h1 b hb).2.2) e2
  · exact A.out a b _ (h1 a ha).1 (h1 b hb).1 (h1 a ha).2.2 (by rw [e]; exact (h1 b hb).2.2) e2
theorem ok_carried {f C PA : Addr} {fd : FuncData} (F : Fun K "carried_net" "carried_net" s_carried_net f fd) (B : Bts mg) (T_Clos : ClF K C ["middle", "gates", "switches", "calls"])
    (K_Clos : MkF P w K mg base "Clos" C 1 ["self", "middle", "gates", "switches"] (spClosI C)) (M_Clos_put_by : MtF P w K mg base C "put_by" 3 ["self", "one", "other", "number"] (spPutBy C)) (G_assigned : FnF P w K mg base "assigned" 6 ["pairs", "gates"] (spAsg PA)) :
    FnOk P w K mg base CX0 7 f fd ["pairs", "middle", "gates"] (spCarriedN C PA) := by
  refine F.ok sc_carried_net (fun vs H Q E h => ?_) (fun cdv A outer sh H vs Q E hr h => ?_)
  · obtain ⟨a, m, g, s, l, rfl, _⟩ := h
    rfl
  · obtain ⟨a, m, g, s, l, rfl, e, hp, hn, hg, hs, hm, hm2, tb, k⟩ := h
    refine ⟨_, (pss_cons (ps_if (pt_cmpR op_lt (pv 1) (pv 2) (nomark _)) (pss_one ps_never) pss_nil)
      (pss_cons (ps_set (i := 3) sc_carried_net.nd rfl (Or.inl rfl) (pk_make K_Clos (hr.mono (by omega)) (by rfl) (pa_cons (pv 1) (pa_cons (pv 2) (pa_cons (pe_op op_fdiv (pe_callB lenT (by rfl) B.len PySem.boot_len (pa_cons (pv 0) pa_nil)) (pv 2)) pa_nil)))))
      (pss_cons (ps_for PassesOwn.never rfl (pi_enumT (by rfl) B.enumerate (pa_cons (pf_call G_assigned (hr.mono (by omega)) (by rfl) (pa_cons (pv 0) (pa_cons (pv 2) pa_nil))) pa_nil)) (pg_tupK (n := 2) K rfl rfl (pgs_cons (pg_name (i := 4) sc_carried_net.nd rfl (by first | exact Or.inl rfl | exact Or.inr rfl)) (pgs_cons (pg_name (i := 5) sc_carried_net.nd rfl (by first | exact Or.inl rfl | exact Or.inr rfl)) pgs_nil))) (pss_one (ps_if (pt_cmpR op_notN (pv 5) pe_non (nomark _)) (pss_one (ps_expr (pm_call M_Clos_put_by (hr.mono (by omega)) (pv 3) (pa_cons (pv 4) (pa_cons (pe_ix ixT (pv 0) (pv 4) (fun _ _ => rfl)) (pa_cons (pv 5) pa_nil)))))) pss_nil)))
      (pss_one (ps_ret (pv 3)))))), ?_⟩
    have hln := hp.len
    have hgs : g ≤ g * s := Nat.le_mul_of_pos_right _ (by omega)
    walk_at "e"
    refine ifF (decide_eq_false (by omega)) ?_
    walk_at "e"
    intro p dx hp1 hdx hne
    have z1 : Ext [] H (upd (upd H dx (.own p)) p (.ins C dx [])) := (Ext.add hdx).new (by rw [upd_ne hne.symm]; exact hp1)
    have ew : (((l.map vo).length : Nat) : Int) / (g : Int) = ((s : Nat) : Int) := by
      rw [List.length_map, hln]
      show (((g * s) / g : Nat) : Int) = _
      rw [Nat.mul_div_cancel_left _ (by omega)]
    refine ⟨p, dx, m, g, s, ?_, upd_same, by omega, hg, hs, fun d H1 x1 hd S1 => ⟨rfl, ?_⟩⟩
    · show [V.ref p, vi m, vi g, V.int ((((l.map vo).length : Nat) : Int) / (g : Int))] = _
      rw [ew]
      rfl
    have y1 : Ext [] H H1 := Ext.drop z1 x1 fun b hb => by
      have : b = p := by simpa using hb
      subst this; exact hp1
    have S1 := S1 (ov l)
    have e1 := y1.tup e
    walk_at "e"
    refine ⟨a, g * s, g, l, rfl, e1, hp, by omega, by omega, by omega, y1.tab _ tb, fun o oa H2 A x2 o2 => ?_⟩
    have hlo := A.len
    have e2 := x2.tup e1
    have S2 := (S1 (ov o)).ext x2
    obtain ⟨dx2, ad2, p2, d2, _⟩ := S2.ex
    have nda : d ≠ a := fun z => by rw [← z, d2] at e2; cases e2
    have ndo : d ≠ oa := fun z => by rw [← z, d2] at o2; cases o2
    walk_at "e"
    refine for_any (src_enumTO (W := [d]) o2 (by simp [ndo.symm])) (fun i σ H' => Ext [d] H2 H' ∧ (∃ o4 o5, σ = [some (.ref a), some (vi m), some (vi g), some (.ref p), o4, o5]) ∧ ClosAt C H' p d m g s (kU l i) (ov l) (ov o)) ⟨Ext.refl, ⟨none, none, rfl⟩, S2⟩ (fun i σ H' h => h.1) ?_ ?_
    · rintro i v σ Ha Hb hi ⟨x3, ⟨o4, o5, rfl⟩, S3⟩ ⟨T, rfl, hT, rfl⟩
      generalize hH3 : L2.upd Ha T _ = H3
      have x34 : Ext [] Ha H3 := by rw [← hH3]; exact Ext.add hT
      have t3 := (congrFun hH3.symm T).trans upd_same
      have e3 := x34.tup (x3.at_ _ _ e2 nt_tup (by simp [nda.symm]))
      have S4 := S3.ext x34
      obtain ⟨dx3, ad3, p3, d3, _⟩ := S4.ex
      walk_at "e"
      cases q : go o i with
      | none =>
        have ql : go l i = none := (A.none_ i (by omega)).mp q
        refine ifF (by show (!decide (vo (go o i) = V.non)) = false; rw [q]; rfl) ?_
        refine ⟨x3.trans x34.wide0, ⟨_, _, rfl⟩, ?_⟩
        rw [kU_none ql]
        exact S4
      | some z =>
        have ql : go l i ≠ none := fun w => by have := (A.none_ i (by omega)).mpr w; rw [q] at this; cases this
        have qs : (go l i).isSome = true := by
          cases w : go l i with
          | none => exact absurd w ql
          | some _ => rfl
        have hov : ∀ k, k < g * s → (go l k).isSome = true → ov l k < g * s := fun k hk h => by
          refine hp.lt _ (mem_somes.mpr ?_)
          have q3 := some_go (l := l) (i := k) (by omega)
          rw [ov_some h] at q3
          exact List.mem_of_getElem? q3
        have hoo : ∀ k, k < g * s → (go l k).isSome = true → go o k = some (ov o k) := fun k hk h => ov_some (by
          have := A.none_ k hk
          cases w : go o k with
          | none => rw [this.mp w] at h; cases h
          | some _ => rfl)
        have hz : ov o i = z := by unfold ov; rw [q]; rfl
        refine ifT (by show (!decide (vo (go o i) = V.non)) = true; rw [q]; rfl) ?_
        walk_at "e"
        refine ⟨p, dx3, _, rfl, p3, clf_meth, ?_⟩
        walk_at "e"
        refine ⟨a, _, _, _, rfl, rfl, e3, at_vo (i := i) (by omega) rfl, ?_⟩
        walk_at "e"
        refine ⟨p, d, m, g, s, i, ov l i, z, kU l i, ov l, ov o, ?_, S4, hg, by omega, hm2, ?_, by omega, hov i (by omega) qs, ?_, ?_, ?_, ?_, ?_, fun H4 x4 S5 => ?_⟩
        · show [V.ref p, vi i, vo (go l i), vo (go o i)] = _
          rw [ov_some qs, q]; rfl
        · exact Nat.lt_of_le_of_lt (kU_len l i) (by omega)
        · exact fun hm => by have := (kU_mem.mp hm).1; omega
        · intro k hk e
          obtain ⟨k1, k2⟩ := kU_mem.mp hk
          have := ov_inj hp (i := k) (j := i) (by omega) (by omega) k2 qs e
          omega
        · have := A.lt i z (by omega) q
          omega
        · intro k hk e w
          obtain ⟨k1, k2⟩ := kU_mem.mp hk
          have := A.in_ k i z (by omega) (by omega) (by rw [hoo k (by omega) k2, w]) q e
          omega
        · intro k hk e w
          obtain ⟨k1, k2⟩ := kU_mem.mp hk
          have := A.out k i z (by omega) (by omega) (by rw [hoo k (by omega) k2, w]) q e
          omega
        · walk_at "e"
          rw [fset_self rfl, fset_self hz, ← kU_some qs] at S5
          exact ⟨(x3.trans x34.wide0).trans x4, ⟨_, _, rfl⟩, S5⟩
    · rintro σ H5 ⟨x5, ⟨o4, o5, rfl⟩, S5⟩
      walk_at "e"
      have hkl : kU l o.length = isL l := by rw [hlo, ← hln]; rfl
      rw [hkl] at S5
      have nd : H d = none := z1.dom _ hd
      exact k p d (ov o) H5 (Ext.drop (y1.trans x2) x5 fun b hb => by
        have : b = d := by simpa using hb
        subst this; exact nd) nd S5 (asg_sound hp A hm)
end
end CL
set_option Elab.async false
set_option linter.all false
set_option maxRecDepth 100000
set_option maxHeartbeats 4000000
namespace CL
open PySem PySem.Spec PyProof.Rows L2 RX

local macro_rules | `(tactic| walk_at "e") => `(tactic| (repeat (first
  | refine ⟨_, rfl, ?_⟩
  | refine ⟨_, _, rfl, rfl, ?_⟩
  | refine ⟨_, _, rfl, rfl, (by first | decide | omega | (dsimp only; omega)), ?_⟩
  | refine ⟨_, _, rfl, rfl, cmul1 (by omega), ?_⟩
  | refine ⟨_, _, rfl, rfl, cmul2 (by omega), ?_⟩
  | refine ⟨_, _, rfl, rfl, ⟨by omega, by omega⟩, ?_⟩
  | refine ⟨_, _, rfl, ‹_›, ?_⟩
  | refine ⟨_, _, _, _, rfl, rfl, ‹_›, at_vi (by assumption) rfl, ?_⟩
  | refine ⟨_, _, rfl, SqT.of ‹_›, rfl, ?_⟩
  | refine ⟨_, _, rfl, SqT.of ‹_›, ?_⟩
  | refine ⟨_, _, rfl, SqL.of ‹_›, ?_⟩
  | refine And.intro rfl ?_
  | refine ⟨_, _, rfl, ?_⟩
  | refine And.intro (by first | decide | omega | (dsimp only; omega)) ?_
  | refine And.intro (cmul1 (by omega)) ?_
  | refine And.intro (cmul2 (by omega)) ?_
  | refine And.intro ⟨by omega, by omega⟩ ?_
  | refine And.intro ⟨_, SqT.of ‹_›⟩ ?_
  | refine And.intro ⟨_, SqL.of ‹_›⟩ ?_
  | refine And.intro (Or.inl ⟨rfl, _, SqL.of ‹_›⟩) ?_
  | refine And.intro sz0 ?_
  | refine And.intro sz1 ?_
  | refine And.intro sz2 ?_
  | refine And.intro sz3 ?_
  | refine yesT ?_)))
section
variable {P : Program} {w : World} {K : PySem.W.Frag} {mg : Str → Option Value} {base : Heap}
/-! the dice of the law -/
def DiceAt (H : Hp) (a : Addr) : Prop := ∃ d0 d1 d2 : Int, H a = some (.lst [.int d0, .int d1, .int d2])
theorem DiceAt.ext {H H' : Hp} {a : Addr} (d : DiceAt H a) (x : Ext [] H H') : DiceAt H' a := by
  obtain ⟨d0, d1, d2, e⟩ := d
  exact ⟨d0, d1, d2, x.lst e⟩
abbrev s_law_dice : Stmt := top 30
theorem sc_law_dice : FnScope ["cell"] ["cell"] (defScope s_law_dice) := ⟨rfl, rfl, rfl, by decide +kernel, rfl, by decide +kernel, by decide +kernel⟩
def spDice : Sp := fun vs H Q _ => ∃ c : Int, vs = [.int c] ∧ ∀ a H', Ext [] H H' → H a = none → DiceAt H' a → Q (.ref a) H'
theorem ok_dice {f : Addr} {fd : FuncData} (F : Fun K "_law_dice" "_law_dice" s_law_dice f fd) (B : Bts mg) : FnOk P w K mg base CX0 1 f fd ["cell"] spDice := by
  refine F.ok sc_law_dice (fun vs H Q E h => ?_) (fun cdv A outer sh H vs Q E hr h => ?_)
  · obtain ⟨c, rfl, _⟩ := h
    rfl
  · obtain ⟨c, rfl, k⟩ := h
    refine ⟨_, (pss_cons (ps_if (pt_chain op_lt op_lt (pe_op op_sub pe_int pe_int) (pv 0) pe_int) (pss_one (ps_ret (pe_lst (pa_cons (pe_callB call_abs (by rfl) B.abs (by decide +kernel) (pa_cons (pv 0) pa_nil)) (pa_cons pe_int (pa_cons pe_int pa_nil)))))) pss_nil)
      (pss_one (ps_ret (pe_lst (pa_cons (pv 0) (pa_cons (pe_op op_add pe_int (pe_op op_mod (pe_callTy call_int1 (by rfl) B.int (by decide +kernel) (pa_cons (pv 0) pa_nil)) pe_int)) (pa_cons (pe_callTy call_int1 (by rfl) B.int (by decide +kernel) (pa_cons (pe_cmpR op_ge (pv 0) (pe_op op_pow pe_int pe_int) (nomark _)) pa_nil)) pa_nil))))))), ?_⟩
    walk_at "e"
    have part2 : ∀ (z : Int), ∀ q, H q = none → Q (.ref q) (upd H q (.lst [.int c, .int (1 + c % 1009), .int z])) := fun z q hq => k q _ (Ext.add hq) hq ⟨_, _, _, upd_same⟩
    refine ifB (fun hb => ?_) (fun hb => ?_)
    · walk_at "e"
      refine ifB (fun hb2 => ?_) (fun hb2 => ?_)
      · walk_at "e"
        intro q hq
        exact k q _ (Ext.add hq) hq ⟨_, _, _, upd_same⟩
      · walk_at "e"
        refine .inl ⟨_, rfl, ?_⟩
        walk_at "e"
        refine .inr ⟨_, rfl, ?_⟩
        walk_at "e"
        intro q hq
        exact part2 _ q hq
    · walk_at "e"
      refine .inl ⟨_, rfl, ?_⟩
      walk_at "e"
      refine .inr ⟨_, rfl, ?_⟩
      walk_at "e"
      intro q hq
      exact part2 _ q hq
abbrev s_law_roll : Stmt := top 31
theorem sc_law_roll : FnScope ["dice", "many", "found"] ["dice", "many"] (defScope s_law_roll) := ⟨rfl, rfl, rfl, by decide +kernel, rfl, by decide +kernel, by decide +kernel⟩
def spRoll : Sp := fun vs H Q _ => ∃ (a m : Nat), vs = [.ref a, vi m] ∧ DiceAt H a ∧ 1 ≤ m ∧ m ≤ 10000 ∧ ∀ r H', r < m → Ext [a] H H' → DiceAt H' a → Q (vi r) H'
theorem ok_roll {f : Addr} {fd : FuncData} (F : Fun K "_law_roll" "_law_roll" s_law_roll f fd) (B : Bts mg) : FnOk P w K mg base CX0 1 f fd ["dice", "many"] spRoll := by
  refine F.ok sc_law_roll (fun vs H Q E h => ?_) (fun cdv A outer sh H vs Q E hr h => ?_)
  · obtain ⟨a, m, rfl, _⟩ := h
    rfl
  · obtain ⟨a, m, rfl, ⟨d0, d1, d2, e⟩, hm, hm2, k⟩ := h
    refine ⟨_, (pss_cons (ps_if (pw_or (pt_cmpR op_eq (pe_ix ixL (pv 0) pe_int (fun _ _ => rfl)) pe_int (nomark _)) (pw_or1 (pw_and (pt_cmpR op_eq (pe_ix ixL (pv 0) pe_int (fun _ _ => rfl)) pe_int (nomark _)) (pw_and1 (pt_cmpR op_gt (pe_ix ixL (pv 0) pe_int (fun _ _ => rfl)) pe_int (nomark _)))).pt)).pt (pss_cons (ps_set (i := 2) sc_law_roll.nd rfl (Or.inl rfl) (pe_op op_mod (pe_callTy call_int1 (by rfl) B.int (by decide +kernel) (pa_cons (pe_ix ixL (pv 0) pe_int (fun _ _ => rfl)) pa_nil)) (pv 1)))
      (pss_cons (ps_asg (pe_op op_fdiv (pe_ix ixL (pv 0) pe_int (fun _ _ => rfl)) (pv 1)) (pg_sub (pv 0) pe_int set_list))
      (pss_one (ps_ret (pv 2))))) pss_nil)
      (pss_cons (ps_asg pe_int (pg_sub (pv 0) pe_int set_list))
      (pss_cons (ps_asg (pe_op op_mod (pe_callTy call_int1 (by rfl) B.int (by decide +kernel) (pa_cons (pe_op op_add (pe_op op_add (pe_op op_mul (pe_ix ixL (pv 0) pe_int (fun _ _ => rfl)) pe_int) (pe_op op_mul (pe_ix ixL (pv 0) pe_int (fun _ _ => rfl)) pe_int)) pe_int) pa_nil)) pe_int) (pg_sub (pv 0) pe_int set_list))
      (pss_cons (ps_asg (pe_op op_add (pe_ix ixL (pv 0) pe_int (fun _ _ => rfl)) pe_int) (pg_sub (pv 0) pe_int set_list))
      (pss_one (ps_ret (pe_op op_mod (pe_callTy call_int1 (by rfl) B.int (by decide +kernel) (pa_cons (pe_op op_add (pe_op op_fdiv (pe_ix ixL (pv 0) pe_int (fun _ _ => rfl)) pe_int) (pe_ix ixL (pv 0) pe_int (fun _ _ => rfl))) pa_nil)) (pv 1)))))))), ?_⟩
    walk_at "e"
    have fin : ∀ (z : Int) H', Ext [a] H H' → DiceAt H' a → Q (V.int (z % (m : Int))) H' := fun z H' x d => by
      have h0 : 0 ≤ z % (m : Int) := Int.emod_nonneg _ (by omega)
      have h1 : z % (m : Int) < (m : Int) := Int.emod_lt_of_pos _ (by omega)
      have q := k (z % (m : Int)).toNat H' (by omega) x d
      have e2 : vi (z % (m : Int)).toNat = V.int (z % (m : Int)) := congrArg V.int (Int.toNat_of_nonneg h0)
      rwa [e2] at q
    refine ⟨a, _, _, _, rfl, rfl, e, rfl, ?_⟩
    walk_at "e"
    refine ifB (fun hb => ?_) (fun hb => ?_)
    · walk_at "e"
      refine ⟨a, _, _, _, rfl, rfl, e, rfl, ?_⟩
      walk_at "e"
      refine .inl ⟨_, rfl, ?_⟩
      walk_at "e"
      refine ⟨a, _, _, _, rfl, rfl, e, rfl, ?_⟩
      walk_at "e"
      refine ⟨a, _, _, 0, rfl, rfl, e, rfl, ?_⟩
      walk_at "e"
      exact fin _ _ (Ext.refl.wr (.inr (by simp)) e nt_lst) ⟨_, _, _, upd_same⟩
    · walk_at "e"
      refine ⟨a, _, _, _, rfl, rfl, e, rfl, ?_⟩
      walk_at "e"
      refine ifB (fun hb1 => ?_) (fun hb1 => ?_)
      · walk_at "e"
        refine ⟨a, _, _, _, rfl, rfl, e, rfl, ?_⟩
        walk_at "e"
        refine ifB (fun hb2 => ?_) (fun hb2 => ?_)
        · walk_at "e"
          refine ⟨a, _, _, _, rfl, rfl, e, rfl, ?_⟩
          walk_at "e"
          refine .inl ⟨_, rfl, ?_⟩
          walk_at "e"
          refine ⟨a, _, _, _, rfl, rfl, e, rfl, ?_⟩
          walk_at "e"
          refine ⟨a, _, _, 0, rfl, rfl, e, rfl, ?_⟩
          walk_at "e"
          exact fin _ _ (Ext.refl.wr (.inr (by simp)) e nt_lst) ⟨_, _, _, upd_same⟩
        · walk_at "e"
          refine ⟨a, _, _, 2, rfl, rfl, e, rfl, ?_⟩
          generalize hH1 : L2.upd H a _ = H1
          have x1 : Ext [a] H H1 := by rw [← hH1]; exact Ext.refl.wr (.inr (by simp)) e nt_lst
          have e1 := (congrFun hH1.symm a).trans upd_same
          walk_at "e"
          refine ⟨a, _, _, _, rfl, rfl, e1, rfl, ?_⟩
          walk_at "e"
          refine ⟨a, _, _, _, rfl, rfl, e1, rfl, ?_⟩
          walk_at "e"
          refine .inl ⟨_, rfl, ?_⟩
          walk_at "e"
          refine ⟨a, _, _, 0, rfl, rfl, e1, rfl, ?_⟩
          generalize hH2 : L2.upd H1 a _ = H2
          have x2 : Ext [a] H H2 := by rw [← hH2]; exact x1.wr (.inr (by simp)) e1 nt_lst
          have e2 := (congrFun hH2.symm a).trans upd_same
          walk_at "e"
          refine ⟨a, _, _, _, rfl, rfl, e2, rfl, ?_⟩
          walk_at "e"
          refine ⟨a, _, _, 1, rfl, rfl, e2, rfl, ?_⟩
          generalize hH3 : L2.upd H2 a _ = H3
          have x3 : Ext [a] H H3 := by rw [← hH3]; exact x2.wr (.inr (by simp)) e2 nt_lst
          have e3 := (congrFun hH3.symm a).trans upd_same
          walk_at "e"
          refine ⟨a, _, _, _, rfl, rfl, e3, rfl, ?_⟩
          walk_at "e"
          refine ⟨a, _, _, _, rfl, rfl, e3, rfl, ?_⟩
          walk_at "e"
          refine .inl ⟨_, rfl, ?_⟩
          walk_at "e"
          exact fin _ _ x3 ⟨_, _, _, e3⟩
      · walk_at "e"
        refine ⟨a, _, _, 2, rfl, rfl, e, rfl, ?_⟩
        generalize hH1 : L2.upd H a _ = H1
        have x1 : Ext [a] H H1 := by rw [← hH1]; exact Ext.refl.wr (.inr (by simp)) e nt_lst
        have e1 := (congrFun hH1.symm a).trans upd_same
        walk_at "e"
        refine ⟨a, _, _, _, rfl, rfl, e1, rfl, ?_⟩
        walk_at "e"
        refine ⟨a, _, _, _, rfl, rfl, e1, rfl, ?_⟩
        walk_at "e"
        refine .inl ⟨_, rfl, ?_⟩
        walk_at "e"
        refine ⟨a, _, _, 0, rfl, rfl, e1, rfl, ?_⟩
        generalize hH2 : L2.upd H1 a _ = H2
        have x2 : Ext [a] H H2 := by rw [← hH2]; exact x1.wr (.inr (by simp)) e1 nt_lst
        have e2 := (congrFun hH2.symm a).trans upd_same
        walk_at "e"
        refine ⟨a, _, _, _, rfl, rfl, e2, rfl, ?_⟩
        walk_at "e"
        refine ⟨a, _, _, 1, rfl, rfl, e2, rfl, ?_⟩
        generalize hH3 : L2.upd H2 a _ = H3
        have x3 : Ext [a] H H3 := by rw [← hH3]; exact x2.wr (.inr (by simp)) e2 nt_lst
        have e3 := (congrFun hH3.symm a).trans upd_same
        walk_at "e"
        refine ⟨a, _, _, _, rfl, rfl, e3, rfl, ?_⟩
        walk_at "e"
        refine ⟨a, _, _, _, rfl, rfl, e3, rfl, ?_⟩
        walk_at "e"
        refine .inl ⟨_, rfl, ?_⟩
        walk_at "e"
        exact fin _ _ x3 ⟨_, _, _, e3⟩
end
end CL
set_option Elab.async false
set_option linter.all false
set_option maxRecDepth 100000
set_option maxHeartbeats 4000000
namespace CL
open PySem PySem.Spec PyProof.Rows L2 RX

local macro_rules | `(tactic| walk_at "e") => `(tactic| (repeat (first
  | refine ⟨_, rfl, ?_⟩
  | refine ⟨_, _, rfl, rfl, ?_⟩
  | refine ⟨_, _, rfl, rfl, (by first | decide | omega | (dsimp only; omega)), ?_⟩
  | refine ⟨_, _, rfl, rfl, cmul1 (by omega), ?_⟩
  | refine ⟨_, _, rfl, rfl, cmul2 (by omega), ?_⟩
  | refine ⟨_, _, rfl, rfl, ⟨by omega, by omega⟩, ?_⟩
  | refine ⟨_, _, rfl, ‹_›, ?_⟩
  | refine ⟨_, _, _, _, rfl, rfl, ‹_›, at_vi (by assumption) rfl, ?_⟩
  | refine ⟨_, _, rfl, SqT.of ‹_›, rfl, ?_⟩
  | refine ⟨_, _, rfl, SqT.of ‹_›, ?_⟩
  | refine ⟨_, _, rfl, SqL.of ‹_›, ?_⟩
  | refine And.intro rfl ?_
  | refine ⟨_, _, rfl, ?_⟩
  | refine And.intro (by first | decide | omega | (dsimp only; omega)) ?_
  | refine And.intro (cmul1 (by omega)) ?_
  | refine And.intro (cmul2 (by omega)) ?_
  | refine And.intro ⟨by omega, by omega⟩ ?_
  | refine And.intro ⟨_, SqT.of ‹_›⟩ ?_
  | refine And.intro ⟨_, SqL.of ‹_›⟩ ?_
  | refine And.intro (Or.inl ⟨rfl, _, SqL.of ‹_›⟩) ?_
  | refine And.intro sz0 ?_
  | refine And.intro sz1 ?_
  | refine And.intro sz2 ?_
  | refine And.intro sz3 ?_
  | refine yesT ?_)))
section
variable {P : Program} {w : World} {K : PySem.W.Frag} {mg : Str → Option Value} {base : Heap}
/-! rounds, part -/
abbrev s_law_rounds : Stmt := top 32
theorem sc_law_rounds : FnScope ["script", "most", "cells", "cell"] ["script", "most"] (defScope s_law_rounds) := ⟨rfl, rfl, rfl, by decide +kernel, rfl, by decide +kernel, by decide +kernel⟩
theorem dp_int1 {K : PySem.W.Frag} {H : Hp} {a : Addr} {c : Int} (h : H a = some (.lst [.int c])) : Dp K H (.ref a) (.list [.int c]) := .lst (.of h) (.cons (.int c) .nil)
theorem sh_int1 (c : Int) : SeqAt.shaped (.list [.int c]) = true := rfl
abbrev s_law_part : Stmt := top 33
theorem sc_law_part : FnScope ["dice", "many", "left", "order", "share", "gate"] ["dice", "many"] (defScope s_law_part) := ⟨rfl, rfl, rfl, by decide +kernel, rfl, by decide +kernel, by decide +kernel⟩
/-- the script: a list (or what the row gives) of ints -/
def spRounds (K : PySem.W.Frag) : Sp := fun vs H Q _ => ∃ (a : Addr) (cs : List Int), vs = [.ref a, .int 1] ∧ SqL K H a (cs.map V.int) ∧ ∀ p b H', Ext [] H H' → H' p = some (.lst [.ref b]) → H b = none → DiceAt H' b → Q (.ref p) H'
theorem ok_rounds {f : Addr} {fd : FuncData} (F : Fun K "_law_rounds" "_law_rounds" s_law_rounds f fd) (B : Bts mg) (G_law_dice : FnF P w K mg base "_law_dice" 1 ["cell"] spDice) : FnOk P w K mg base CX0 2 f fd ["script", "most"] (spRounds K) := by
  refine F.ok sc_law_rounds (fun vs H Q E h => ?_) (fun cdv A outer sh H vs Q E hr h => ?_)
  · obtain ⟨a, cs, rfl, _⟩ := h
    rfl
  · obtain ⟨a, cs, rfl, e, k⟩ := h
    refine ⟨_, (pss_cons (ps_set (i := 2) sc_law_rounds.nd rfl (Or.inl rfl) (pe_slice sl_list (pv 0) po_none (po_some (pv 1))))
      (pss_cons (ps_if (pt_cmpR (eqD_K K rfl hr.units) (pv 2) (pe_lst pa_nil) (nomark _)) (pss_one (ps_set (i := 2) sc_law_rounds.nd rfl (Or.inl rfl) (pe_lst (pa_cons pe_int pa_nil)))) pss_nil)
      (pss_one (ps_ret (pe_lc (own := [("cell", 3)]) (g := (gName 3)) (tt := tYes) rfl sc_law_rounds.nd (piL_K K rfl (pv 2)) (blkOk_by (N := ["script", "most", "cells", "cell"]) (sc := defScope s_law_rounds) (by decide +kernel)) (fun _ _ _ _ _ => (pg_name (i := 3) sc_law_rounds.nd rfl (by first | exact Or.inl rfl | exact Or.inr rfl))) (fun _ _ _ _ _ => pts_nil) (fun _ _ _ _ _ => (pf_call G_law_dice (hr.mono (by omega)) (by rfl) (pa_cons (pv 3) pa_nil)))))))), ?_⟩
    walk_at "e"
    cases cs with
    | nil =>
      intro p hp
      generalize hH1 : L2.upd H p _ = H1
      have x1 : Ext [] H H1 := by rw [← hH1]; exact Ext.add hp
      have e1 := (congrFun hH1.symm p).trans upd_same
      walk_at "e"
      intro q hq
      generalize hH2 : L2.upd H1 q _ = H2
      have x2 : Ext [] H1 H2 := by rw [← hH2]; exact Ext.add hq
      have e2 := (congrFun hH2.symm q).trans upd_same
      refine ⟨pL [], pL [], dp_list (l := []) (x2.lst e1), dp_list (l := []) e2, sh_L _, sh_L _, ?_⟩
      walk_at "e"
      intro r hr3
      generalize hH3 : L2.upd H2 r _ = H3
      have x3 : Ext [] H2 H3 := by rw [← hH3]; exact Ext.add hr3
      have e3 := (congrFun hH3.symm r).trans upd_same
      have x03 := (x1.trans x2).trans x3
      walk_at "e"
      intro D hD
      refine lc_any hD (src_lst e3 (by simp)) (fun _ => true) (fun i y H' => ∃ b, y = .ref b ∧ H b = none ∧ DiceAt H' b) (by simp) (fun i y Ha Hb ⟨b, e, h, d⟩ x => ⟨b, e, h, d.ext x⟩) (fun i v Ha Hb Kt Kf hi x ⟨ev, eh⟩ kt kf => ?_) fun H5 ys z0 z1 e5 hys => ?_
      · subst ev eh
        have hi0 : i = 0 := by have : i < 1 := hi; omega
        subst hi0
        walk_at "e"
        intro b Hc xc nb db
        refine kt _ _ rfl xc fun D' zs hD' => ⟨b, rfl, (x03).dom _ (x.dom _ nb), ?_⟩
        obtain ⟨d0, d1, d2, e⟩ := db
        exact ⟨d0, d1, d2, by rw [hide_ne (fun w => by rw [w, hD'] at nb; cases nb)]; exact e⟩
      · obtain ⟨y, rfl⟩ : ∃ y, ys = [y] := by
          have := Paired.length hys
          match ys, this with
          | [y], _ => exact ⟨y, rfl⟩
        cases hys with
        | cons h1 _ =>
          obtain ⟨b, rfl, nb, db⟩ := h1
          walk_at "e"
          exact k D b H5 (x03.trans z1) e5 nb (by obtain ⟨d0, d1, d2, e⟩ := db; exact ⟨d0, d1, d2, of_hide e⟩)
    | cons c cs =>
      have hcut : cutV (V.int c :: cs.map V.int) none (some 1) = [V.int c] := by
        unfold cutV
        have h0 : HT.sIx (V.int c :: cs.map V.int).length 0 none = 0 := rfl
        have h1 : HT.sIx (V.int c :: cs.map V.int).length (V.int c :: cs.map V.int).length (some 1) = 1 := by
          unfold HT.sIx; simp
        rw [h0, h1]
        rfl
      intro p hp
      rw [List.map_cons, hcut]
      generalize hH1 : L2.upd H p _ = H1
      have x1 : Ext [] H H1 := by rw [← hH1]; exact Ext.add hp
      have e1 := (congrFun hH1.symm p).trans upd_same
      walk_at "e"
      intro q hq
      generalize hH2 : L2.upd H1 q _ = H2
      have x2 : Ext [] H1 H2 := by rw [← hH2]; exact Ext.add hq
      have e2 := (congrFun hH2.symm q).trans upd_same
      have e12 := x2.lst e1
      refine ⟨_, pL [], dp_int1 e12, dp_list (l := []) e2, sh_int1 _, sh_L _, ?_⟩
      walk_at "e"
      have x02 := x1.trans x2
      walk_at "e"
      intro D hD
      refine lc_any hD (src_lst e12 (by simp)) (fun _ => true) (fun i y H' => ∃ b, y = .ref b ∧ H b = none ∧ DiceAt H' b) (by simp) (fun i y Ha Hb ⟨b, e, h, d⟩ x => ⟨b, e, h, d.ext x⟩) (fun i v Ha Hb Kt Kf hi x ⟨ev, eh⟩ kt kf => ?_) fun H5 ys z0 z1 e5 hys => ?_
      · subst ev eh
        have hi0 : i = 0 := by have : i < 1 := hi; omega
        subst hi0
        walk_at "e"
        intro b Hc xc nb db
        refine kt _ _ rfl xc fun D' zs hD' => ⟨b, rfl, (x02).dom _ (x.dom _ nb), ?_⟩
        obtain ⟨d0, d1, d2, e⟩ := db
        exact ⟨d0, d1, d2, by rw [hide_ne (fun w => by rw [w, hD'] at nb; cases nb)]; exact e⟩
      · obtain ⟨y, rfl⟩ : ∃ y, ys = [y] := by
          have := Paired.length hys
          match ys, this with
          | [y], _ => exact ⟨y, rfl⟩
        cases hys with
        | cons h1 _ =>
          obtain ⟨b, rfl, nb, db⟩ := h1
          walk_at "e"
          exact k D b H5 (x02.trans z1) e5 nb (by obtain ⟨d0, d1, d2, e⟩ := db; exact ⟨d0, d1, d2, of_hide e⟩)
theorem erase_vi : ∀ (l : List Nat) (r : Nat), (l.map vi).eraseIdx r = (l.eraseIdx r).map vi
  | [], _ => rfl
  | _ :: _, 0 => rfl
  | x :: l, r + 1 => by
    show vi x :: (l.map vi).eraseIdx r = vi x :: (l.eraseIdx r).map vi
    rw [erase_vi l r]
theorem erase_perm : ∀ (l : List Nat) (r : Nat), r < l.length → (gt l r :: l.eraseIdx r).Perm l
  | x :: l, 0, _ => List.Perm.refl _
  | x :: l, r + 1, h => by
    show (gt l r :: x :: l.eraseIdx r).Perm (x :: l)
    exact (List.Perm.swap _ _ _).trans ((erase_perm l r (by simpa using h)).cons x)
theorem erase_len {l : List Nat} {r : Nat} (h : r < l.length) : (l.eraseIdx r).length + 1 = l.length := by
  rw [List.length_eraseIdx, if_pos h]; omega
theorem somes_none (o : List (Option Nat)) : somes (o ++ [none]) = somes o := by simp [somes]
theorem somes_some (o : List (Option Nat)) (x : Nat) : somes (o ++ [some x]) = somes o ++ [x] := by simp [somes]
theorem part_pp {n : Nat} {o : List (Option Nat)} {R : List Nat} (hl : o.length = n) (hp : R.Perm (List.range n)) (hs : (somes o).Sublist R) : PP n o :=
  ⟨hl, hs.nodup (hp.nodup_iff.mpr List.nodup_range), fun x hx => List.mem_range.mp (hp.mem_iff.mp (hs.subset hx))⟩
def spPart : Sp := fun vs H Q _ => ∃ (a n : Nat), vs = [.ref a, vi n] ∧ DiceAt H a ∧ 1 ≤ n ∧ n ≤ 64 ∧ ∀ l p H', PP n l → Ext [a] H H' → DiceAt H' a → H' p = some (.tup (l.map vo)) → p ≠ a → H p = none → Q (.ref p) H'
theorem ok_part {f : Addr} {fd : FuncData} (F : Fun K "_law_part" "_law_part" s_law_part f fd) (B : Bts mg) (G_law_roll : FnF P w K mg base "_law_roll" 1 ["dice", "many"] spRoll) : FnOk P w K mg base CX0 2 f fd ["dice", "many"] spPart := by
  refine F.ok sc_law_part (fun vs H Q E h => ?_) (fun cdv A outer sh H vs Q E hr h => ?_)
  · obtain ⟨a, cs, rfl, _⟩ := h
    rfl
  · obtain ⟨a, n, rfl, D0, hn1, hn, k⟩ := h
    refine ⟨_, (pss_cons (ps_asg (pe_tup (pa_cons (pe_listRg rfl (by rfl) B.list (prg_1 (by rfl) B.range (pv 1))) (pa_cons (pe_lst pa_nil) (pa_cons (pe_ix ixL (pe_lst (pa_cons pe_int (pa_cons (pe_op op_mul (pv 1) (pv 1)) pa_nil))) (pf_call G_law_roll (hr.mono (by omega)) (by rfl) (pa_cons (pv 0) (pa_cons pe_int pa_nil))) (fun _ _ => rfl)) pa_nil)))) (pg_tupK (n := 3) K rfl rfl (pgs_cons (pg_name (i := 2) sc_law_part.nd rfl (by first | exact Or.inl rfl | exact Or.inr rfl)) (pgs_cons (pg_name (i := 3) sc_law_part.nd rfl (by first | exact Or.inl rfl | exact Or.inr rfl)) (pgs_cons (pg_name (i := 4) sc_law_part.nd rfl (by first | exact Or.inl rfl | exact Or.inr rfl)) pgs_nil)))))
      (pss_cons (ps_while PassesOwn.never (pt_cmpR (neD_K K rfl hr.units) (pv 2) (pe_lst pa_nil) (nomark _)) (pss_one (ps_expr (bmK K rfl PySem.F.plainAttrs_list PySem.F.slot_list_append PySem.F.type_list_append mt_append (pv 3) (pa_cons (bmK K rfl PySem.F.plainAttrs_list PySem.F.slot_list_pop PySem.F.type_list_pop mt_popAt (pv 2) (pa_cons (pf_call G_law_roll (hr.mono (by omega)) (by rfl) (pa_cons (pv 0) (pa_cons (pe_callB lenL (by rfl) B.len PySem.boot_len (pa_cons (pv 2) pa_nil)) pa_nil))) pa_nil)) pa_nil)))))
      (pss_one (ps_ret (tupL (by rfl) B.tuple (pe_lc (own := [("gate", 5)]) (g := (gName 5)) (tt := tYes) rfl sc_law_part.nd (piL_K K rfl (pv 3)) (blkOk_by (N := ["dice", "many", "left", "order", "share", "gate"]) (sc := defScope s_law_part) (by decide +kernel)) (fun _ _ _ _ _ => (pg_name (i := 5) sc_law_part.nd rfl (by first | exact Or.inl rfl | exact Or.inr rfl))) (fun _ _ _ _ _ => pts_nil) (fun _ _ _ _ _ => (pe_ifExp (pt_cmpR op_eq (pf_call G_law_roll (hr.mono (by omega)) (by rfl) (pa_cons (pv 0) (pa_cons (pv 4) pa_nil))) pe_int (nomark _)) pe_non (pv 5))))))))), ?_⟩
    walk_at "e"
    intro lf hlf
    generalize hH1 : L2.upd H lf _ = H1
    have x1 : Ext [] H H1 := by rw [← hH1]; exact Ext.add hlf
    have e1 := (congrFun hH1.symm lf).trans upd_same
    have hz : rgV 0 (n : Int) = (List.range n).map vi := by rw [rgV_vi]
    rw [hz] at e1
    walk_at "e"
    intro od hod
    generalize hH2 : L2.upd H1 od _ = H2
    have x2 : Ext [] H1 H2 := by rw [← hH2]; exact Ext.add hod
    have e2 := (congrFun hH2.symm od).trans upd_same
    walk_at "e"
    intro ch hch
    generalize hH3 : L2.upd H2 ch _ = H3
    have x3 : Ext [] H2 H3 := by rw [← hH3]; exact Ext.add hch
    have e3 := (congrFun hH3.symm ch).trans upd_same
    have x03 := (x1.trans x2).trans x3
    have l3 := (x2.trans x3).lst e1
    have o3 := x3.lst e2
    obtain ⟨d0, d1, d2, ea⟩ := _root_.id D0
    have na : ∀ {b : Addr}, H b = none → b ≠ a := fun h z => by rw [z, ea] at h; cases h
    have nod : H od = none := x1.dom _ hod
    have nch : H ch = none := x1.dom _ (x2.dom _ hch)
    have nol : od ≠ lf := fun z => by rw [z, e1] at hod; cases hod
    walk_at "e"
    refine ⟨D0.ext x03, by decide, by decide, fun c H4 hc x4 D4 => ?_⟩
    have hc : c < 2 := hc
    have e4 := x4.at_ _ _ e3 nt_lst (by simp [na nch])
    have l4 := x4.at_ _ _ l3 nt_lst (by simp [na hlf])
    have o4 := x4.at_ _ _ o3 nt_lst (by simp [na nod])
    have x04 : Ext [a] H H4 := x03.wide0.trans x4
    obtain ⟨sv, hs1, hs2, hsv⟩ : ∃ sv : Nat, 1 ≤ sv ∧ sv ≤ 10000 ∧ atI [V.int 3, V.int ((n : Int) * (n : Int))] (c : Int) = some (vi sv) := by
      have q1 : 1 * 1 ≤ n * n := Nat.mul_le_mul hn1 hn1
      have q2 : n * n ≤ 64 * 64 := Nat.mul_le_mul hn hn
      rcases (by omega : c = 0 ∨ c = 1) with z | z
      · subst z; exact ⟨3, by omega, by omega, rfl⟩
      · subst z; exact ⟨n * n, by omega, by omega, by show some (V.int ((n : Int) * (n : Int))) = some (V.int ((n * n : Nat) : Int)); rw [Int.natCast_mul]⟩
    walk_at "e"
    refine ⟨ch, _, _, _, rfl, rfl, e4, hsv, ?_⟩
    walk_at "e"
    intro tp htp
    generalize hH5 : L2.upd H4 tp _ = H5
    have x5 : Ext [] H4 H5 := by rw [← hH5]; exact Ext.add htp
    have e5 := (congrFun hH5.symm tp).trans upd_same
    have l5 := x5.lst l4
    have o5 := x5.lst o4
    have x05 := x04.trans x5.wide0
    have D5 := D4.ext x5
    walk_at "e"
    refine ⟨fun m σ H' => ∃ L R : List Nat, m = L.length ∧ (R ++ L).Perm (List.range n) ∧ σ = [some (.ref a), some (vi n), some (.ref lf), some (.ref od), some (vi sv), none] ∧ Ext [a] H H' ∧ DiceAt H' a ∧ H' lf = some (.lst (L.map vi)) ∧ H' od = some (.lst (R.map vi)), ⟨n, List.range n, [], by simp, List.Perm.refl _, rfl, x05, D5, l5, o5⟩, ?_⟩
    rintro m σ H' ⟨L, R, rfl, hP, rfl, x, Dc, hl, ho⟩
    walk_at "e"
    intro q hq
    generalize hH6 : L2.upd H' q _ = H6
    have x6 : Ext [] H' H6 := by rw [← hH6]; exact Ext.add hq
    have e6 := (congrFun hH6.symm q).trans upd_same
    have l6 := x6.lst hl
    have o6 := x6.lst ho
    have D6 := Dc.ext x6
    have x06 := x.trans x6.wide0
    have hsum : R.length + L.length = n := by
      have := hP.length_eq
      simpa using this
    refine ⟨pL L, pL [], dp_list l6, dp_list (l := []) e6, sh_L _, sh_L _, ?_⟩
    walk_at "e"
    cases L with
    | nil =>
      refine ifF rfl ?_
      walk_at "e"
      intro D hD
      have nD : H D = none := x06.dom _ hD
      have hRp : R.Perm (List.range n) := by simpa using hP
      have nDo : od ≠ D := fun z => by rw [← z, o6] at hD; cases hD
      refine lc_list (xs := R.map vi) (fun i Hx => ∃ o : List (Option Nat), o.length = i ∧ (somes o).Sublist (R.take i) ∧ Ext [a] H Hx ∧ DiceAt Hx a ∧ Hx D = some (.lst (o.map vo)) ∧ Hx od = some (.lst (R.map vi))) ?_ ?_ ?_ ?_
      · exact ⟨[], rfl, List.Sublist.refl _, x06.trans (Ext.add hD), D6.ext (Ext.add hD), upd_same, by rw [upd_ne nDo]; exact o6⟩
      · rintro i Hx hi ⟨o, _, _, _, _, _, ho2⟩
        exact .of ho2
      · rintro i v Hx hx ⟨o, hol, hos, xx, Dx, hD2, ho2⟩
        have hi : i < R.length := by
          have := (List.getElem?_eq_some_iff.mp hx).1
          simpa using this
        have ev : v = vi (gt R i) := by
          rw [List.getElem?_map, some_gt hi] at hx
          exact (Option.some.inj hx).symm
        subst ev
        have et : R.take (i + 1) = R.take i ++ [gt R i] := take_gt hi
        walk_at "e"
        intro r Hy hr4 xy Dy
        have D7 := xy.at_ _ _ hD2 nt_lst (by simp [na nD])
        have o7 := xy.at_ _ _ ho2 nt_lst (by simp [na nod])
        obtain ⟨t0, t1, t2, ta⟩ := Dy
        have naD : a ≠ D := fun z => na nD z.symm
        walk_at "e"
        refine ifB (fun hb => ?_) (fun hb => ?_)
        · walk_at "e"
          refine ⟨o.map vo, D7, sl_lt (by simp; omega), o ++ [none], by simp; omega, ?_, (xx.trans xy).wr (.inl nD) D7 nt_lst, ⟨t0, t1, t2, by rw [upd_ne naD]; exact ta⟩, by rw [upd_same, List.map_append]; rfl, by rw [upd_ne nDo]; exact o7⟩
          rw [somes_none, et]
          exact hos.trans (List.sublist_append_left _ _)
        · walk_at "e"
          refine ⟨o.map vo, D7, sl_lt (by simp; omega), o ++ [some (gt R i)], by simp; omega, ?_, (xx.trans xy).wr (.inl nD) D7 nt_lst, ⟨t0, t1, t2, by rw [upd_ne naD]; exact ta⟩, by rw [upd_same, List.map_append]; rfl, by rw [upd_ne nDo]; exact o7⟩
          rw [somes_some, et]
          exact hos.append (List.Sublist.refl _)
      · rintro Hx ⟨o, hol, hos, xx, Dx, hD2, ho2⟩
        walk_at "e"
        intro q2 hq2
        have hlR : (R.map vi).length = n := by rw [List.length_map, hRp.length_eq, List.length_range]
        refine k o q2 _ (part_pp (by rw [hol, hlR]) hRp (hos.trans (List.take_sublist _ _))) (xx.trans (Ext.add hq2)) (Dx.ext (Ext.add hq2)) upd_same (na (xx.dom _ hq2)) (xx.dom _ hq2)
    | cons x0 L0 =>
      refine ifT rfl ⟨fun σ' H' => ∃ m', m' < (x0 :: L0).length ∧ ∃ L R : List Nat, m' = L.length ∧ (R ++ L).Perm (List.range n) ∧ σ' = [some (.ref a), some (vi n), some (.ref lf), some (.ref od), some (vi sv), none] ∧ Ext [a] H H' ∧ DiceAt H' a ∧ H' lf = some (.lst (L.map vi)) ∧ H' od = some (.lst (R.map vi)), fun _ _ h => h, ?_⟩
      generalize hLL : x0 :: L0 = L at *
      have hL1 : 1 ≤ L.length := by rw [← hLL]; simp
      walk_at "e"
      rw [List.length_map]
      refine ⟨hL1, by omega, fun r H7 hr7 x7 D7 => ?_⟩
      have l7 := x7.at_ _ _ l6 nt_lst (by simp [na hlf])
      have o7 := x7.at_ _ _ o6 nt_lst (by simp [na nod])
      walk_at "e"
      refine ⟨lf, _, (r : Int), r, vi (gt L r), rfl, rfl, l7, by omega, by omega, (ixN_seq (ixN_of (i := r) (by simp; omega) rfl)).1, by rw [List.getElem?_map, some_gt hr7]; rfl, ?_⟩
      generalize hH8 : L2.upd H7 lf _ = H8
      have x8 : Ext [a] H H8 := by rw [← hH8]; exact (x06.trans x7).wr (.inl hlf) l7 nt_lst
      have l8 := (congrFun hH8.symm lf).trans upd_same
      rw [erase_vi] at l8
      have o8 : H8 od = some (.lst (R.map vi)) := by rw [← hH8, upd_ne nol]; exact o7
      obtain ⟨t0, t1, t2, ta⟩ := D7
      have ta8 : H8 a = some (.lst [.int t0, .int t1, .int t2]) := by rw [← hH8, upd_ne (fun z => na hlf z.symm)]; exact ta
      walk_at "e"
      refine ⟨od, _, _, rfl, rfl, o8, sl_lt (by simp; omega), ?_⟩
      have hel := erase_len hr7
      refine ⟨(L.eraseIdx r).length, by omega, L.eraseIdx r, R ++ [gt L r], rfl, ?_, rfl, x8.wr (.inl nod) o8 nt_lst, ⟨t0, t1, t2, by rw [upd_ne (fun z => na nod z.symm)]; exact ta8⟩, by rw [upd_ne nol.symm]; exact l8, by rw [upd_same, List.map_append]; rfl⟩
      rw [List.append_assoc]
      exact ((erase_perm L r hr7).append_left R).trans hP
end
end CL
set_option Elab.async false
set_option linter.all false
set_option maxRecDepth 100000
set_option maxHeartbeats 4000000
namespace CL
open PySem PySem.Spec PyProof.Rows L2 RX

local macro_rules | `(tactic| walk_at "e") => `(tactic| (repeat (first
  | refine ⟨_, rfl, ?_⟩
  | refine ⟨_, _, rfl, rfl, ?_⟩
  | refine ⟨_, _, rfl, rfl, (by first | decide | omega | (dsimp only; omega)), ?_⟩
  | refine ⟨_, _, rfl, rfl, cmul1 (by omega), ?_⟩
  | refine ⟨_, _, rfl, rfl, cmul2 (by omega), ?_⟩
  | refine ⟨_, _, rfl, rfl, ⟨by omega, by omega⟩, ?_⟩
  | refine ⟨_, _, rfl, ‹_›, ?_⟩
  | refine ⟨_, _, _, _, rfl, rfl, ‹_›, at_vi (by assumption) rfl, ?_⟩
  | refine ⟨_, _, rfl, SqT.of ‹_›, rfl, ?_⟩
  | refine ⟨_, _, rfl, SqT.of ‹_›, ?_⟩
  | refine ⟨_, _, rfl, SqL.of ‹_›, ?_⟩
  | refine And.intro rfl ?_
  | refine ⟨_, _, rfl, ?_⟩
  | refine And.intro (by first | decide | omega | (dsimp only; omega)) ?_
  | refine And.intro (cmul1 (by omega)) ?_
  | refine And.intro (cmul2 (by omega)) ?_
  | refine And.intro ⟨by omega, by omega⟩ ?_
  | refine And.intro ⟨_, SqT.of ‹_›⟩ ?_
  | refine And.intro ⟨_, SqL.of ‹_›⟩ ?_
  | refine And.intro (Or.inl ⟨rfl, _, SqL.of ‹_›⟩) ?_
  | refine And.intro sz0 ?_
  | refine And.intro sz1 ?_
  | refine And.intro sz2 ?_
  | refine And.intro sz3 ?_
  | refine yesT ?_)))
section
variable {P : Program} {w : World} {K : PySem.W.Frag} {mg : Str → Option Value} {base : Heap}
/-! the law: a pairing carried -/
abbrev s_law_carried : Stmt := top 34
theorem sc_law_carried : FnScope ["pairs", "many", "net", "settings", "lanes", "bad", "k", "stage", "lane"] ["pairs"] (defScope s_law_carried) := ⟨rfl, rfl, rfl, by decide +kernel, rfl, by decide +kernel, by decide +kernel⟩
def spSetAll (PC : Addr) : Sp := fun vs H Q E => ∃ j, j ≤ 5 ∧ spSet PC j vs H Q E
def spNetAll (C PC PN : Addr) : Sp := fun vs H Q E => ∃ j, j ≤ 5 ∧ spNetOf C PC PN j vs H Q E
def spCarriedL (PC PN PK : Addr) : Sp := fun vs H Q _ => ∃ (a : Addr) (j : Nat) (l : List (Option Nat)), vs = [.ref a] ∧ H a = some (.tup (l.map vo)) ∧ j ≤ 5 ∧ PP (2 ^ (j + 1)) l ∧ GxR.TabG H PC ∧ GxR.TabG H PN ∧ GxR.TabG H PK ∧ ∀ H', Ext [] H H' → Q (.bl true) H'
/-- a way through the net -/
def laneW (j : Nat) (S : List (List Nat)) (g : Nat) : List Nat := gt ((netW j).headD []) g :: run (netW j).tail S (gt ((netW j).headD []) g)
theorem lane_facts {j : Nat} {f : List Nat} {S : List (List Nat)} (hp : PermL (2 ^ (j + 1)) f) (hS : IsSet j f S) : SetOk (2 ^ (j + 1)) (netW j) S ∧ (∀ g, (laneW j S g).length = (netW j).length) ∧ (∀ g, g < 2 ^ (j + 1) → gt (laneW j S g) ((netW j).length - 1) = gt f g) ∧ ∀ t, t < (netW j).length → Inj (2 ^ (j + 1)) fun g => gt (laneW j S g) t := by
  have e1 : 2 ^ (j + 1) = 2 * 2 ^ j := by rw [Nat.pow_succ]; omega
  have nl := netW_len j
  have np := netW_perm j
  have sf := set_facts j f S hp hS
  have hca := carried_all j f S hp hS
  have hl : (netW j).tail.length = S.length := by rw [List.length_tail, nl, sf.1]; omega
  have hh : PermL (2 ^ (j + 1)) ((netW j).headD []) := by
    cases h : netW j with
    | nil => rw [h] at nl; simp at nl
    | cons r rs => rw [h] at np; exact np r List.mem_cons_self
  refine ⟨⟨by rw [sf.1, nl]; omega, fun s hs => ⟨by rw [(sf.2 s hs).1, e1]; omega, (sf.2 s hs).2⟩⟩, fun g => ?_, fun g hg => ?_, fun t ht => ?_⟩
  · show (run _ _ _).length + 1 = _
    rw [run_len _ _ _ hl, List.length_tail]
    omega
  · rw [← hca g hg]
    have := run_last (netW j).tail S (gt ((netW j).headD []) g) hl
    rw [List.length_tail] at this
    exact this
  · cases t with
    | zero => exact hh.inj'
    | succ t => exact run_inj (by omega) (netW j).tail S (fun g => gt ((netW j).headD []) g) t hl (fun r hr => np r (List.mem_of_mem_tail hr)) hh.inj' (by rw [List.length_tail]; omega)
theorem sorted_range {n : Nat} {F : Nat → Nat} {ns : List Int} (h : Inj n F) (hp : ns.Perm (((List.range n).map F).map fun x => ((x : Nat) : Int))) (hs : ns.Pairwise (· ≤ ·)) : ns = (List.range n).map fun x => ((x : Nat) : Int) := by
  have p1 : PermL n ((List.range n).map F) := by
    refine ⟨by simp, fun i hi => ?_, fun i k hi hk e => ?_⟩
    · rw [gt_map (by simpa using hi), gt_range hi]; exact h.1 i hi
    · rw [gt_map (by simpa using hi), gt_range hi, gt_map (by simpa using hk), gt_range hk] at e
      exact h.2 i k hi hk e
  have p2 := hp.trans (p1.perm.map fun x => ((x : Nat) : Int))
  refine List.Perm.eq_of_pairwise (le := fun a b : Int => a ≤ b) (fun a b _ _ h1 h2 => by omega) hs ?_ p2
  refine List.pairwise_map.mpr (List.pairwise_lt_range.imp fun {a b} h => by omega)
theorem ok_carriedL {f C PC PN PK : Addr} {fd : FuncData} (F : Fun K "_law_carried" "_law_carried" s_law_carried f fd) (B : Bts mg)
    (G_net_of : FnF P w K mg base "net_of" 12 ["many"] (spNetAll C PC PN)) (G_settings_for : FnF P w K mg base "settings_for" 10 ["pairs"] (spSetAll PC))
    (M_Net_way : MtF P w K mg base C "way" 5 ["self", "settings", "gate"] (spWay C PK)) (M_Net_stages : MtF P w K mg base C "stages" 1 ["self"] (spStages C)) :
    FnOk P w K mg base CX0 13 f fd ["pairs"] (spCarriedL PC PN PK) := by
  refine F.ok sc_law_carried (fun vs H Q E h => ?_) (fun cdv A outer sh H vs Q E hr h => ?_)
  · obtain ⟨a, j, l, rfl, _⟩ := h
    rfl
  · obtain ⟨a, j, l, rfl, e, hj, hp, tc, tn, tk, k⟩ := h
    refine ⟨_, (pss_cons (ps_set (i := 1) sc_law_carried.nd rfl (Or.inr rfl) (pe_callB lenT (by rfl) B.len PySem.boot_len (pa_cons (pv 0) pa_nil)))
      (pss_cons (ps_asg (pe_tup (pa_cons (pf_call G_net_of (hr.mono (by omega)) (by rfl) (pa_cons (pv 1) pa_nil)) (pa_cons (pf_call G_settings_for (hr.mono (by omega)) (by rfl) (pa_cons (pv 0) pa_nil)) pa_nil))) (pg_tupK (n := 2) K rfl rfl (pgs_cons (pg_name (i := 2) sc_law_carried.nd rfl (by first | exact Or.inl rfl | exact Or.inr rfl)) (pgs_cons (pg_name (i := 3) sc_law_carried.nd rfl (by first | exact Or.inl rfl | exact Or.inr rfl)) pgs_nil))))
      (pss_cons (ps_set (i := 4) sc_law_carried.nd rfl (Or.inr rfl) (pe_lc (own := [("k", 6)]) (g := (gName 6)) (tt := tYes) rfl sc_law_carried.nd (pi_range1 (by rfl) B.range (pa_cons (pv 1) pa_nil)) (blkOk_by (N := ["pairs", "many", "net", "settings", "lanes", "bad", "k", "stage", "lane"]) (sc := defScope s_law_carried) (by decide +kernel)) (fun _ _ _ _ _ => (pg_name (i := 6) sc_law_carried.nd rfl (by first | exact Or.inl rfl | exact Or.inr rfl))) (fun _ _ _ _ _ => pts_nil) (fun _ _ _ _ _ => (pm_call M_Net_way (hr.mono (by omega)) (pv 2) (pa_cons (pv 3) (pa_cons (pv 6) pa_nil))))))
      (pss_cons (ps_if (pt_cmpR (neD_K K rfl hr.units) (pe_lc (own := [("k", 6)]) (g := (gName 6)) rfl sc_law_carried.nd (pi_range1 (by rfl) B.range (pa_cons (pv 1) pa_nil)) (blkOk_by (N := ["pairs", "many", "net", "settings", "lanes", "bad", "k", "stage", "lane"]) (sc := defScope s_law_carried) (by decide +kernel)) (fun _ _ _ _ _ => (pg_name (i := 6) sc_law_carried.nd rfl (by first | exact Or.inl rfl | exact Or.inr rfl))) (fun _ _ _ _ _ => (pts_one (pw_and (pt_cmpR op_notN (pe_ix ixT (pv 0) (pv 6) (fun _ _ => rfl)) pe_non (nomark _)) (pw_and1 (pt_cmpR op_ne (pe_ix ixT (pe_ix ixL (pv 4) (pv 6) (fun _ _ => rfl)) (pe_op op_sub (pe_callB lenT (by rfl) B.len PySem.boot_len (pa_cons (pe_ix ixL (pv 4) (pv 6) (fun _ _ => rfl)) pa_nil)) pe_int) (fun _ _ => rfl)) (pe_ix ixT (pv 0) (pv 6) (fun _ _ => rfl)) (nomark _)))).pt)) (fun _ _ _ _ _ => (pv 6))) (pe_lst pa_nil) (nomark _)) (pss_one (ps_ret pe_bl)) pss_nil)
      (pss_cons (ps_setLc (i := 5) (own := [("stage", 7)]) (g := (gName 7)) rfl sc_law_carried.nd rfl rfl (sw_true rfl rfl rfl (by decide +kernel)) (pi_range1 (by rfl) B.range (pa_cons (pe_op op_add (pm_call0 M_Net_stages (hr.mono (by omega)) (pv 2)) pe_int) pa_nil)) (blkOk_by (N := ["pairs", "many", "net", "settings", "lanes", "bad", "k", "stage", "lane"]) (sc := defScope s_law_carried) (by decide +kernel)) (fun _ _ _ _ _ => (pg_name (i := 7) sc_law_carried.nd rfl (by first | exact Or.inl rfl | exact Or.inr rfl))) (fun _ _ _ _ _ => (pts_one (pt_cmpR (neD_K K rfl hr.units) (pe_callB (sortedI_K K rfl) (by rfl) B.sorted (by decide +kernel) (pa_cons (pe_lc (own := [("lane", 8)]) (g := (gName 8)) (tt := tYes) rfl sc_law_carried.nd (piL_K K rfl (pv 4)) (blkOk_by (N := ["pairs", "many", "net", "settings", "lanes", "bad", "k", "stage", "lane"]) (sc := scCarr) (by decide +kernel)) (fun _ _ _ _ _ => (pg_name (i := 8) sc_law_carried.nd rfl (by first | exact Or.inl rfl | exact Or.inr rfl))) (fun _ _ _ _ _ => pts_nil) (fun _ _ _ _ _ => (pe_ix ixT (pv 8) (pv 7) (fun _ _ => rfl)))) pa_nil)) (pe_listRg rfl (by rfl) B.list (prg_1 (by rfl) B.range (pv 1))) (nomark _)))) (fun _ _ _ _ _ => (pv 7)))
      (pss_one (ps_ret (pe_cmpR (eqD_K K rfl hr.units) (pv 5) (pe_lst pa_nil) (nomark _))))))))), ?_⟩
    obtain ⟨n, hnn⟩ : ∃ n, 2 ^ (j + 1) = n := ⟨_, rfl⟩
    have hp' : PP n l := by rw [← hnn]; exact hp
    have hn64 : n ≤ 64 := by rw [← hnn]; exact Nat.le_trans (Nat.pow_le_pow_right (by omega) (show j + 1 ≤ 6 by omega)) (by decide)
    have hz : (l.map vo).length = n := by rw [List.length_map, hp'.len]
    have nl := netW_len j
    walk_at "e"
    rw [hz]
    refine ⟨j, hj, congrArg (fun z => [vi z]) hnn.symm, by omega, tc, tn, fun p H1 x1 N => ?_⟩
    rw [hnn] at N
    walk_at "e"
    refine ⟨j, hj, a, l, rfl, x1.tup e, hp, by omega, x1.tab _ tc, fun f S q H2 hf hS x2 SN => ?_⟩
    obtain ⟨lf1, lf2, lf3, lf4⟩ := lane_facts hf.perm hS
    rw [hnn] at lf1 lf3 lf4
    have N2 := N.ext x2
    have S2 := SN.set
    walk_at "e"
    intro tp htp
    generalize hH3 : L2.upd H2 tp _ = H3
    have x3 : Ext [] H2 H3 := by rw [← hH3]; exact Ext.add htp
    have e3 := (congrFun hH3.symm tp).trans upd_same
    have N3 := N2.ext x3
    have S3 := S2.ext x3
    have x03 := (x1.trans x2).trans x3
    walk_at "e"
    intro D hD
    have hzn : ((n : Nat) : Int).toNat = n := Int.toNat_natCast n
    rw [hzn]
    have hln : l.length = n := hp'.len
    have neven : n % 2 = 0 := by
      rw [← hnn, Nat.pow_succ]; omega
    refine lc_any hD src_rngN (fun _ => true) (fun i y H' => ∃ t, y = .ref t ∧ H' t = some (.tup ((laneW j S i).map vi))) (by omega) (fun i y Ha Hb ⟨t, e, h⟩ x => ⟨t, e, x.tup h⟩) (fun i v Ha Hb Kt Kf hi x ⟨ev, eh⟩ kt kf => ?_) fun H4 ys z0 z1 e4 hys => ?_
    · subst ev eh
      have Nx := N3.ext x
      obtain ⟨dx, wl, as, n1, _⟩ := Nx.ex
      walk_at "e"
      refine ⟨p, dx, _, rfl, n1, nf_no _ _ (by decide +kernel) (by decide +kernel), ?_⟩
      walk_at "e"
      refine ⟨p, n, q, i, netW j, S, rfl, Nx, S3.ext x, lf1, by omega, by omega, neven, by rw [← hnn]; exact netW_perm j, hi, (x03.trans x).tab _ tk, fun t H5 x5 e5 => ?_⟩
      refine kt _ _ rfl x5 fun D' zs hD' => ⟨t, rfl, ?_⟩
      rw [hide_ne (fun w => by rw [w, x5.lst hD'] at e5; cases e5)]
      exact e5
    rw [filter_true] at hys
    obtain ⟨ts, ets, hts⟩ := refs_of2 (Paired.mapP hys fun i y ⟨t, e, h⟩ => (⟨t, e, of_hide h⟩ : ∃ t, y = V.ref t ∧ H4 t = some (.tup ((laneW j S i).map vi))))
    subst ets
    have htl : ts.length = n := by
      have := Paired.length hts
      simp at this; omega
    have hrow : ∀ i, i < n → H4 (ag ts i) = some (.tup ((laneW j S i).map vi)) := fun i hi => by
      obtain ⟨t, q1, q3⟩ := paired_at hts (i := i) (x := i) (by rw [List.getElem?_range hi])
      have e3 : ag ts i = t := by unfold ag; rw [List.getD_eq_getElem?_getD, q1]; rfl
      rw [e3]; exact q3
    have el4 := (x03.trans z1).tup e
    have N4 := N3.ext z1
    walk_at "e"
    intro D2 hD2
    rw [hzn]
    refine lc_any hD2 src_rngN (fun _ => false) (fun i y H' => True) (by omega) (fun i y Ha Hb _ x => True.intro) (fun i v Ha Hb Kt Kf hi x ⟨ev, eh⟩ kt kf => ?_) fun H5 ys w0 w1 e5 hys2 => ?_
    · subst ev eh
      have el5 := x.tup el4
      have e45 := x.lst e4
      have er5 := x.tup (hrow i hi)
      walk_at "e"
      refine ⟨a, _, _, _, rfl, rfl, el5, at_vo (i := i) (by omega) rfl, ?_⟩
      walk_at "e"
      cases ql : go l i with
      | none =>
        exact ifF rfl (ifF rfl (kf _ rfl Ext.refl))
      | some z =>
        have hgz : gt f i = z := hf.at_ i z (by rw [some_go (by omega), ql])
        have hlen : (((laneW j S i).map vi).length : Int) - 1 = (((netW j).length - 1 : Nat) : Int) := by
          rw [List.length_map, lf2]; omega
        refine ifT rfl ?_
        walk_at "e"
        refine ⟨D, _, _, _, rfl, rfl, e45, at_ref (i := i) (by omega) rfl, ?_⟩
        walk_at "e"
        refine ⟨D, _, _, _, rfl, rfl, e45, at_ref (i := i) (by omega) rfl, ?_⟩
        walk_at "e"
        refine ⟨ag ts i, _, _, _, rfl, rfl, er5, at_vi (i := (netW j).length - 1) (by rw [lf2]; omega) hlen, ?_⟩
        walk_at "e"
        refine ⟨a, _, _, _, rfl, rfl, el5, at_vo (i := i) (by omega) rfl, ?_⟩
        walk_at "e"
        refine ⟨by cases go l i <;> rfl, _, rfl, ?_⟩
        refine ifF (by show (!decide (vi (gt (laneW j S i) ((netW j).length - 1)) = vo (go l i))) = false; rw [ql, lf3 i hi, hgz]; simp [vo, vi]) ?_
        exact kf _ rfl Ext.refl
    have hys0 : ys = [] := by
      have hl := Paired.length hys2
      have : ((List.range n).filter fun _ => false) = [] := by simp
      rw [this] at hl
      exact List.length_eq_zero_iff.mp hl.symm
    subst hys0
    walk_at "e"
    intro q2 hq2
    generalize hH6 : L2.upd H5 q2 _ = H6
    have w2 : Ext [] H5 H6 := by rw [← hH6]; exact Ext.add hq2
    have e6 := (congrFun hH6.symm q2).trans upd_same
    refine ⟨pL [], pL [], dp_list (l := []) (w2.lst e5), dp_list (l := []) e6, sh_L _, sh_L _, ?_⟩
    walk_at "e"
    have N6 := (N4.ext w1).ext w2
    have z6 := w1.trans w2
    obtain ⟨dx6, wl6, as6, p6, _⟩ := N6.ex
    refine ⟨p, dx6, _, rfl, p6, nf_no _ _ (by decide +kernel) (by decide +kernel), ?_⟩
    walk_at "e"
    refine ⟨p, n, netW j, rfl, N6, by omega, ?_⟩
    walk_at "e"
    intro D3 hD3
    have hzr : ((((netW j).length - 1 : Nat) : Int) + 1).toNat = (netW j).length := by omega
    rw [hzr]
    have d6 := z6.lst e4
    refine lc_any hD3 src_rngN (fun _ => false) (fun i y H' => True) (by omega) (fun i y Ha Hb _ x => True.intro) (fun st v Ha Hb Kt Kf hst x ⟨ev, eh⟩ kt kf => ?_) fun H7 ys u0 u1 e7 hys3 => ?_
    · subst ev eh
      have d7 := x.lst d6
      have xx := z6.trans x
      walk_at "e"
      intro D4 hD4
      refine lc_all hD4 (src_refs d7 (by simp)) (fun i => vi (gt (laneW j S i) st)) (by omega) (fun i v Hc Hd Kt2 hi2 y ⟨ev2, eh2⟩ kt2 => ?_) (fun v σ H Q Q' i h => i _ _ h) fun H8 y0 y1 e8 => ?_
      · subst ev2 eh2
        have er := (xx.trans y).tup (hrow i (by omega))
        walk_at "e"
        refine ⟨ag ts i, _, _, _, rfl, rfl, er, at_vi (i := st) (by rw [lf2]; omega) rfl, ?_⟩
        exact kt2 _ Ext.refl
      · rw [htl] at e8
        walk_at "e"
        have hv : ((((List.range n).map fun i => gt (laneW j S i) st).map fun x => ((x : Nat) : Int)).map V.int) = (List.range n).map fun i => vi (gt (laneW j S i) st) := by
          rw [List.map_map, List.map_map]; rfl
        refine ⟨D4, _, rfl, .of (by rw [hv]; exact e8), fun ns p2 hperm hsort hp2 => ?_⟩
        rw [sorted_range (lf4 st hst) hperm hsort]
        generalize hHa : L2.upd H8 p2 _ = Ha
        have ya : Ext [] H8 Ha := by rw [← hHa]; exact Ext.add hp2
        have ea := (congrFun hHa.symm p2).trans upd_same
        have ea2 : Ha p2 = some (.lst ((List.range n).map vi)) := by rw [ea, List.map_map]; rfl
        walk_at "e"
        intro p3 hp3
        generalize hHb : L2.upd Ha p3 _ = Hb2
        have yb : Ext [] Ha Hb2 := by rw [← hHb]; exact Ext.add hp3
        have eb := (congrFun hHb.symm p3).trans upd_same
        rw [rgV_vi] at eb
        refine ⟨pL (List.range n), pL (List.range n), dp_list (yb.lst ea2), dp_list eb, sh_L _, sh_L _, ?_⟩
        rw [eq_L]
        walk_at "e"
        exact kf _ rfl ((y1.trans ya).trans yb)
    have hys0 : ys = [] := by
      have hl := Paired.length hys3
      have : ((List.range (netW j).length).filter fun _ => false) = [] := by simp
      rw [this] at hl
      exact List.length_eq_zero_iff.mp hl.symm
    subst hys0
    walk_at "e"
    intro q3 hq3
    generalize hH9 : L2.upd H7 q3 _ = H9
    have w3 : Ext [] H7 H9 := by rw [← hH9]; exact Ext.add hq3
    have e9 := (congrFun hH9.symm q3).trans upd_same
    refine ⟨pL [], pL [], dp_list (l := []) (w3.lst e7), dp_list (l := []) e9, sh_L _, sh_L _, ?_⟩
    exact k _ ((((x03.trans z1).trans z6).trans u1).trans w3)
end
end CL
set_option Elab.async false
set_option linter.all false
set_option maxRecDepth 100000
set_option maxHeartbeats 4000000
namespace CL
open PySem PySem.Spec PyProof.Rows L2 RX

local macro_rules | `(tactic| walk_at "e") => `(tactic| (repeat (first
  | refine ⟨_, rfl, ?_⟩
  | refine ⟨_, _, rfl, rfl, ?_⟩
  | refine ⟨_, _, rfl, rfl, (by first | decide | omega | (dsimp only; omega)), ?_⟩
  | refine ⟨_, _, rfl, rfl, cmul1 (by omega), ?_⟩
  | refine ⟨_, _, rfl, rfl, cmul2 (by omega), ?_⟩
  | refine ⟨_, _, rfl, rfl, ⟨by omega, by omega⟩, ?_⟩
  | refine ⟨_, _, rfl, ‹_›, ?_⟩
  | refine ⟨_, _, _, _, rfl, rfl, ‹_›, at_vi (by assumption) rfl, ?_⟩
  | refine ⟨_, _, rfl, SqT.of ‹_›, rfl, ?_⟩
  | refine ⟨_, _, rfl, SqT.of ‹_›, ?_⟩
  | refine ⟨_, _, rfl, SqL.of ‹_›, ?_⟩
  | refine And.intro rfl ?_
  | refine ⟨_, _, rfl, ?_⟩
  | refine And.intro (by first | decide | omega | (dsimp only; omega)) ?_
  | refine And.intro (cmul1 (by omega)) ?_
  | refine And.intro (cmul2 (by omega)) ?_
  | refine And.intro ⟨by omega, by omega⟩ ?_
  | refine And.intro ⟨_, SqT.of ‹_›⟩ ?_
  | refine And.intro ⟨_, SqL.of ‹_›⟩ ?_
  | refine And.intro (Or.inl ⟨rfl, _, SqL.of ‹_›⟩) ?_
  | refine And.intro sz0 ?_
  | refine And.intro sz1 ?_
  | refine And.intro sz2 ?_
  | refine And.intro sz3 ?_
  | refine yesT ?_)))
section
variable {P : Program} {w : World} {K : PySem.W.Frag} {mg : Str → Option Value} {base : Heap}
/-! the law: calls of one switch have unlike middle ones -/
abbrev s_law_apart : Stmt := top 35
theorem sc_law_apart : FnScope ["shown", "gates", "side", "used", "row", "spot"] ["shown", "gates"] (defScope s_law_apart) := ⟨rfl, rfl, rfl, by decide +kernel, rfl, by decide +kernel, by decide +kernel⟩
def spApart : Sp := fun vs H Q _ => ∃ (a : Addr) (g : Nat) (us : List Nat) (ot nu : Nat → Nat), vs = [.ref a, vi g] ∧ ShownAt H a us ot nu ∧ us.length ≤ 64 ∧ 1 ≤ g ∧ g ≤ 1000 ∧ us.Nodup ∧
  (∀ a ∈ us, ∀ b ∈ us, nu a = nu b → a / g = b / g → a = b) ∧ (∀ a ∈ us, ∀ b ∈ us, nu a = nu b → ot a / g = ot b / g → a = b) ∧ ∀ H', Ext [] H H' → Q (.bl true) H'
def sdO (ot : Nat → Nat) (s k : Nat) : Nat := if s = 0 then k else ot k
theorem sd_at {ot nu : Nat → Nat} {s k : Nat} (h : s < 2) : atI [vi k, vi (ot k), vi (nu k)] (s : Int) = some (vi (sdO ot s k)) := by
  rcases (by omega : s = 0 ∨ s = 1) with z | z <;> subst z <;> rfl
theorem src_refsT {K : PySem.W.Frag} {W : List Addr} {H : Hp} {a : Addr} {as : List Addr} (e : H a = some (.tup (as.map V.ref))) (hw : a ∉ W) : Src (Itt K a) as.length W H (YV fun i => .ref (ag as i)) := by
  have S := src_tup (K := K) e hw
  rw [List.length_map] at S
  exact ⟨S.go, S.stop, fun i H1 v H2 x h y => by
    obtain ⟨e1, e2⟩ := S.yld i H1 v H2 x h y
    exact ⟨by rw [e1]; dsimp only; rw [List.getD_eq_getElem?_getD, List.getElem?_map, some_ag h]; rfl, e2⟩⟩
theorem Paired.flipP {α β : Type} {F : α → β → Prop} : ∀ {xs : List α} {ys : List β}, Paired F xs ys → Paired (fun y x => F x y) ys xs
  | _, _, .nil => .nil
  | _, _, .cons h t => .cons h (Paired.flipP t)
def spotK (ot nu : Nat → Nat) (g s k : Nat) : List Key := [Sum.inl ((sdO ot s k / g : Nat) : Int), Sum.inl ((nu k : Nat) : Int)]
theorem spots_nd {us : List Nat} {ot nu : Nat → Nat} {g s : Nat} {ts : List Addr} (hnd : us.Nodup) (h : ∀ a ∈ us, ∀ b ∈ us, nu a = nu b → sdO ot s a / g = sdO ot s b / g → a = b) :
    (((List.range us.length).map fun i => (ag ts i, spotK ot nu g s (gt us i), V.int 1)).map (·.2.1)).Nodup := by
  rw [List.map_map]
  refine List.pairwise_map.mpr (List.Pairwise.imp_of_mem (fun {a b} ha hb hab e => hab ?_) List.nodup_range)
  have ha := List.mem_range.mp ha
  have hb := List.mem_range.mp hb
  have e : spotK ot nu g s (gt us a) = spotK ot nu g s (gt us b) := e
  unfold spotK at e
  have e1 := Sum.inl.inj (List.cons.inj e).1
  have e2 := Sum.inl.inj (List.cons.inj (List.cons.inj e).2).1
  exact inj_of_nodup hnd a b ha hb (h _ (gt_mem ha) _ (gt_mem hb) (by omega) (by omega))
theorem ok_apart {f : Addr} {fd : FuncData} (F : Fun K "_law_apart" "_law_apart" s_law_apart f fd) (B : Bts mg) : FnOk P w K mg base CX0 2 f fd ["shown", "gates"] spApart := by
  refine F.ok sc_law_apart (fun vs H Q E h => ?_) (fun cdv A outer sh H vs Q E hr h => ?_)
  · obtain ⟨a, g, us, ot, nu, rfl, _⟩ := h
    rfl
  · obtain ⟨a, g, us, ot, nu, rfl, SA, hul, hg1, hg, hnd, hin, hout, k⟩ := h
    refine ⟨_, (pss_cons (ps_for PassesOwn.never rfl (pi_range1 (by rfl) B.range (pa_cons pe_int pa_nil)) (pg_name (i := 2) sc_law_apart.nd rfl (by first | exact Or.inl rfl | exact Or.inr rfl)) (pss_cons (ps_setLc (i := 3) (own := [("row", 4)]) (g := (gName 4)) (tt := tYes) rfl sc_law_apart.nd rfl rfl (sw_true rfl rfl rfl (by decide +kernel)) (piT_K K rfl (pv 0)) (blkOk_by (N := ["shown", "gates", "side", "used", "row", "spot"]) (sc := defScope s_law_apart) (by decide +kernel)) (fun _ _ _ _ _ => (pg_name (i := 4) sc_law_apart.nd rfl (by first | exact Or.inl rfl | exact Or.inr rfl))) (fun _ _ _ _ _ => pts_nil) (fun _ _ _ _ _ => (pe_tup (pa_cons (pe_op op_fdiv (pe_ix ixT (pv 4) (pv 2) (fun _ _ => rfl)) (pv 1)) (pa_cons (pe_ix ixT (pv 4) pe_int (fun _ _ => rfl)) pa_nil)))))
      (pss_one (ps_if (pt_cmpR op_ne (pe_callB call_len_any (by rfl) B.len PySem.boot_len (pa_cons (pe_callTy (call_dictT rfl (hu2_of hr)) (by rfl) B.dict (by decide +kernel) (pa_cons (pe_lc (own := [("spot", 5)]) (g := (gName 5)) (tt := tYes) rfl sc_law_apart.nd (piL_K K rfl (pv 3)) (blkOk_by (N := ["shown", "gates", "side", "used", "row", "spot"]) (sc := defScope s_law_apart) (by decide +kernel)) (fun _ _ _ _ _ => (pg_name (i := 5) sc_law_apart.nd rfl (by first | exact Or.inl rfl | exact Or.inr rfl))) (fun _ _ _ _ _ => pts_nil) (fun _ _ _ _ _ => (pe_tup (pa_cons (pv 5) (pa_cons pe_int pa_nil))))) pa_nil)) pa_nil)) (pe_callB lenL (by rfl) B.len PySem.boot_len (pa_cons (pv 3) pa_nil)) (nomark _)) (pss_one (ps_ret pe_bl)) pss_nil))))
      (pss_one (ps_ret pe_bl))), ?_⟩
    have hinj : ∀ s, s < 2 → ∀ a ∈ us, ∀ b ∈ us, nu a = nu b → sdO ot s a / g = sdO ot s b / g → a = b := fun s hs => by
      rcases (by omega : s = 0 ∨ s = 1) with z | z
      · subst z; exact hin
      · subst z; exact hout
    walk_at "e"
    refine for_any (src_rngN (n := 2)) (W := []) (Hs := H) (fun i σ H' => Ext [] H H' ∧ ∃ o2 o3 o4 o5, σ = [some (.ref a), some (vi g), o2, o3, o4, o5]) ⟨Ext.refl, none, none, none, none, rfl⟩ (fun i σ H' h => h.1) ?_ ?_
    · rintro s v σ Ha Hb hs ⟨x, o2, o3, o4, o5, rfl⟩ ⟨ev, eh⟩
      subst ev eh
      obtain ⟨rs, s1, s2, s3⟩ := SA.ext x
      walk_at "e"
      intro D hD
      refine lc_any hD (src_refsT s1 (by simp)) (fun _ => true) (fun i y H => ∃ t, y = .ref t ∧ H t = some (.tup [vi (sdO ot s (gt us i) / g), vi (nu (gt us i))])) (by omega) (fun i y Ha Hb ⟨t, e, h⟩ x => ⟨t, e, x.tup h⟩) (fun i v Hc Hd Kt Kf hi y ⟨ev, eh⟩ kt kf => ?_) fun H1 ys z0 z1 e1 hys => ?_
      · subst ev eh
        have r1 := y.tup (s3 i (by omega))
        walk_at "e"
        refine ⟨ag rs i, _, _, _, rfl, rfl, r1, sd_at hs, ?_⟩
        walk_at "e"
        refine ⟨ag rs i, _, _, _, rfl, rfl, r1, rfl, ?_⟩
        walk_at "e"
        intro t ht
        refine kt _ _ rfl (Ext.add ht) fun D' zs hD' => ⟨t, rfl, ?_⟩
        rw [hide_ne (fun z => by rw [z, hD'] at ht; cases ht), upd_same]
        rfl
      · rw [filter_true] at hys
        rw [s2] at hys
        obtain ⟨ts, ets, hts⟩ := refs_of2 (Paired.mapP hys fun i y ⟨t, e, h⟩ => (⟨t, e, of_hide h⟩ : ∃ t, y = V.ref t ∧ H1 t = some (.tup [vi (sdO ot s (gt us i) / g), vi (nu (gt us i))])))
        subst ets
        have htl : ts.length = us.length := by
          have := Paired.length hts
          simp at this; omega
        have hrow : ∀ i, i < us.length → H1 (ag ts i) = some (.tup [vi (sdO ot s (gt us i) / g), vi (nu (gt us i))]) := fun i hi => by
          obtain ⟨t, q1, q3⟩ := paired_at hts (i := i) (x := i) (by rw [List.getElem?_range hi])
          have e3 : ag ts i = t := by unfold ag; rw [List.getD_eq_getElem?_getD, q1]; rfl
          rw [e3]; exact q3
        walk_at "e"
        intro D2 hD2
        refine lc_any hD2 (src_refs e1 (by simp)) (fun _ => true) (fun i y H => ∃ t, y = .ref t ∧ H t = some (.tup [.ref (ag ts i), .int 1]) ∧ H (ag ts i) = some (.tup [vi (sdO ot s (gt us i) / g), vi (nu (gt us i))])) (by omega) (fun i y Ha Hb ⟨t, e, h, h2⟩ x => ⟨t, e, x.tup h, x.tup h2⟩) (fun i v Hc Hd Kt Kf hi y ⟨ev, eh⟩ kt kf => ?_) fun H2 ys x4 x5 e5 hys2 => ?_
        · subst ev eh
          have r2 := y.tup (hrow i (by omega))
          walk_at "e"
          intro t ht
          refine kt _ _ rfl (Ext.add ht) fun D' zs hD' => ⟨t, rfl, ?_, ?_⟩
          · rw [hide_ne (fun z => by rw [z, hD'] at ht; cases ht), upd_same]
          · have := (Ext.add (W := []) (o := HO.tup [V.ref (ag ts i), V.int 1]) ht).tup r2
            rw [hide_ne (fun z => by rw [z, hD'] at r2; cases r2)]
            exact this
        · rw [filter_true, htl] at hys2
          obtain ⟨ps, eps, hps⟩ := refs_of2 (Paired.mapP hys2 fun i y ⟨t, e, h, h2⟩ => (⟨t, e, of_hide h, of_hide h2⟩ : ∃ t, y = V.ref t ∧ H2 t = some (.tup [.ref (ag ts i), .int 1]) ∧ H2 (ag ts i) = some (.tup [vi (sdO ot s (gt us i) / g), vi (nu (gt us i))])))
          subst eps
          have e6 := x5.lst e1
          walk_at "e"
          refine ⟨D2, ps, (List.range us.length).map fun i => (ag ts i, spotK ot nu g s (gt us i), V.int 1), rfl, .of e5, Paired.mapR (Paired.flipP hps), spots_nd hnd (hinj s hs), fun dd hd => ?_⟩
          generalize hH5 : L2.upd H2 dd _ = H5
          have x6 : Ext [] H2 H5 := by rw [← hH5]; exact Ext.add hd
          have e7 := (congrFun hH5.symm dd).trans upd_same
          have e8 := x6.lst e6
          walk_at "e"
          refine .inr ⟨_, e7, ?_⟩
          walk_at "e"
          refine ifF (neF (congrArg V.int (by simp [htl]))) ?_
          exact ⟨((x.trans z1).trans x5).trans x6, _, _, _, _, rfl⟩
    · rintro σ H' ⟨x, o2, o3, o4, o5, rfl⟩
      walk_at "e"
      exact k H' x
end
end CL
set_option Elab.async false
set_option linter.all false
set_option maxRecDepth 100000
set_option maxHeartbeats 4000000
namespace CL
open PySem PySem.Spec PyProof.Rows L2 RX

/-! what the law's proof wants -/
theorem Ext.dropW {W U : List Addr} {H H1 H2 : Hp} (x : Ext W H H1) (y : Ext U H1 H2) (n : ∀ a ∈ U, H a = none ∨ a ∈ W) : Ext W H H2 :=
  ⟨fun a o e nt h => y.at_ a o (x.at_ a o e nt h) nt (fun z => by
    rcases n a z with q | q
    · rw [q] at e; cases e
    · exact h q), fun P t => y.tab P (x.tab P t), fun a e => x.dom a (y.dom a e)⟩
theorem ClosAt.extW {C : Addr} {W : List Addr} {H H' : Hp} {p d m g s : Nat} {ks : List Nat} {ot nu : Nat → Nat} (c : ClosAt C H p d m g s ks ot nu) (x : Ext W H H') (hd : d ∉ W) (hw : ∀ w ∈ W, (∃ kv, H w = some (.dK kv)) ∨ ∃ xs, H w = some (.lst xs)) : ClosAt C H' p d m g s ks ot nu := by
  obtain ⟨dx, ad, h, h2, h3⟩ := c.ex
  refine ⟨dx, ad, x.at_ _ _ h nt_ins fun z => ?_, x.at_ _ _ h2 nt_dK hd, fun k hk => x.at_ _ _ (h3 k hk) nt_tup fun z => ?_⟩
  · rcases hw _ z with ⟨kv, q⟩ | ⟨kv, q⟩
    · rw [h] at q; cases q
    · rw [h] at q; cases q
  · have h4 := h3 k hk
    rcases hw _ z with ⟨kv, q⟩ | ⟨kv, q⟩
    · rw [h4] at q; cases q
    · rw [h4] at q; cases q
theorem ClosAt.congr {C : Addr} {H : Hp} {p d m g s : Nat} {ks : List Nat} {ot nu ot' nu' : Nat → Nat} (c : ClosAt C H p d m g s ks ot nu) (h : ∀ k ∈ ks, ot' k = ot k ∧ nu' k = nu k) : ClosAt C H p d m g s ks ot' nu' := by
  obtain ⟨dx, ad, h1, h2, h3⟩ := c.ex
  exact ⟨dx, ad, h1, h2, fun k hk => by rw [(h k hk).1, (h k hk).2]; exact h3 k hk⟩
def prI (ot : Nat → Nat) (k : Nat) : Int × Int := ((k : Int), (ot k : Int))
/-- the law's own dict -/
def cd (ks : List Nat) (ot : Nat → Nat) : List (Key × V) := ks.map fun k => ((Sum.inl ((k : Nat) : Int) : Key), vi (ot k))
theorem cd_len {ks : List Nat} {ot : Nat → Nat} : (cd ks ot).length = ks.length := by simp [cd]
theorem cd_get {ks : List Nat} {ot : Nat → Nat} {k : Nat} (h : k ∈ ks) (hn : ks.Nodup) : valV (cd ks ot) (Sum.inl ((k : Nat) : Int) : Key) = some (vi (ot k)) := by
  unfold cd
  induction ks with
  | nil => cases h
  | cons a ks ih =>
    rw [List.map_cons]
    unfold valV
    by_cases q : a = k
    · subst q
      simp
    · rw [List.find?_cons_of_neg (by simp; omega)]
      rcases List.mem_cons.mp h with z | z
      · exact absurd z.symm q
      · exact ih z (List.nodup_cons.mp hn).2
theorem cd_none {ks : List Nat} {ot : Nat → Nat} {k : Nat} (h : k ∉ ks) : valV (cd ks ot) (Sum.inl ((k : Nat) : Int) : Key) = none := by
  unfold cd valV
  rw [List.find?_eq_none.mpr]
  · rfl
  · intro x hx
    obtain ⟨a, ha, rfl⟩ := List.mem_map.mp hx
    have : a ≠ k := fun z => h (z ▸ ha)
    simp; omega
theorem cd_put {ks : List Nat} {ot : Nat → Nat} {k b : Nat} (h : k ∉ ks) : putK (cd ks ot) (Sum.inl ((k : Nat) : Int) : Key) (vi b) = cd (ks ++ [k]) (fset ot k b) := by
  rw [putK_new _ (cd_none h)]
  unfold cd
  rw [List.map_append]
  have : ks.map (fun x => ((Sum.inl ((x : Nat) : Int) : Key), vi (fset ot k b x))) = ks.map (fun x => ((Sum.inl ((x : Nat) : Int) : Key), vi (ot x))) := List.map_congr_left fun x hx => by
    have hne : x ≠ k := fun z => h (by rw [← z]; exact hx)
    rw [fset_ne hne]
  rw [this]
  simp [fset]
theorem cd_kvI {ks : List Nat} {ot : Nat → Nat} : cd ks ot = kvI (ks.map (prI ot)) := by
  unfold cd kvI
  rw [List.map_map]
  rfl
theorem cd_nd {ks : List Nat} {ot : Nat → Nat} (h : ks.Nodup) : ((cd ks ot).map (·.1)).Nodup := by
  unfold cd
  rw [List.map_map]
  refine List.pairwise_map.mpr (h.imp fun {a b} hab e => hab ?_)
  have e2 : ((a : Nat) : Int) = ((b : Nat) : Int) := Sum.inl.inj e
  omega
theorem cd_merge {ks : List Nat} {ot : Nat → Nat} (h : ks.Nodup) : mergeK [] (cd ks ot) = cd ks ot := by
  rw [mergeK_nd (cd ks ot) [] (by rw [List.nil_append]; exact cd_nd h), List.nil_append]
def rowsK (us : List Nat) (ot : Nat → Nat) : List (List Nat) := us.map fun k => [k, ot k]
theorem rows_of {H : Hp} {us : List Nat} {ot : Nat → Nat} {ys : List V} (h : Paired (fun i y => ∃ t, y = V.ref t ∧ H t = some (.tup [vi (gt us i), vi (ot (gt us i))])) (List.range us.length) ys) :
    ∃ ts : List Addr, ys = ts.map V.ref ∧ Paired (fun a (r : List Nat) => H a = some (.tup (r.map vi))) ts (rowsK us ot) := by
  obtain ⟨ts, e, hp⟩ := refs_of (G := fun i => [vi (gt us i), vi (ot (gt us i))]) h
  refine ⟨ts, e, ?_⟩
  have : rowsK us ot = (List.range us.length).map fun i => [gt us i, ot (gt us i)] := by
    unfold rowsK
    conv => lhs; rw [← map_gt us]
    rw [List.map_map]; rfl
  rw [this]
  exact Paired.mapR (F := fun a (r : List Nat) => H a = some (.tup (r.map vi))) hp
theorem rows_of2 {H : Hp} {us : List Nat} {ot : Nat → Nat} {ys : List V} (h : Paired (fun k y => ∃ t, y = V.ref t ∧ H t = some (.tup [vi k, vi (ot k)])) us ys) :
    ∃ ts : List Addr, ys = ts.map V.ref ∧ Paired (fun a (r : List Nat) => H a = some (.tup (r.map vi))) ts (rowsK us ot) := by
  obtain ⟨ts, e, hp⟩ := refs_of (G := fun k => [vi k, vi (ot k)]) h
  exact ⟨ts, e, Paired.mapR (F := fun a (r : List Nat) => H a = some (.tup (r.map vi))) hp⟩
theorem perm_le {us ws : List Nat} (h : us.Perm ws) (h1 : us.Pairwise (· ≤ ·)) (h2 : ws.Pairwise (· ≤ ·)) : us = ws :=
  List.Perm.eq_of_pairwise (le := fun a b : Nat => a ≤ b) (fun a b _ _ q1 q2 => by omega) h1 h2 h
theorem items_eq {qs : List (Int × Int)} {us ks : List Nat} {ot : Nat → Nat} (hp : qs.Perm (ks.map (prI ot))) (hs : qs.Pairwise lexLe) (hu : us.Perm ks) (hsu : us.Pairwise (· ≤ ·)) : qs = us.map (prI ot) := by
  refine List.Perm.eq_of_pairwise (le := lexLe) (fun a b _ _ q1 q2 => ?_) hs ?_ (hp.trans (hu.symm.map _))
  · unfold lexLe at q1 q2
    exact Prod.ext (by omega) (by omega)
  · refine List.pairwise_map.mpr (hsu.imp fun {a b} h => ?_)
    unfold lexLe
    by_cases q : a = b
    · subst q; exact .inr ⟨rfl, Int.le_refl _⟩
    · exact .inl (by show (a : Int) < (b : Int); omega)
theorem items_rows {H : Hp} {ts : List Addr} {us : List Nat} {ot : Nat → Nat} (h : Paired (fun (t : Addr) (q : Int × Int) => H t = some (.tup [.int q.1, .int q.2])) ts (us.map (prI ot))) : Paired (fun a (r : List Nat) => H a = some (.tup (r.map vi))) ts (rowsK us ot) := by
  unfold rowsK
  generalize hz : (us.map (prI ot)) = zs at h
  induction h generalizing us with
  | nil =>
    have : us = [] := List.map_eq_nil_iff.mp hz
    subst this
    exact .nil
  | cons h0 t ih =>
    cases us with
    | nil => simp at hz
    | cons u us =>
      rw [List.map_cons] at hz
      obtain ⟨z1, z2⟩ := List.cons.inj hz
      subst z1
      exact .cons h0 (ih z2)
theorem isL_sorted (l : List (Option Nat)) : (isL l).Pairwise (· ≤ ·) := (List.pairwise_lt_range.imp fun {a b} h => Nat.le_of_lt h).filter _
end CL
set_option Elab.async false
set_option linter.all false
set_option maxRecDepth 100000
set_option maxHeartbeats 4000000
namespace CL
open PySem PySem.Spec PyProof.Rows L2 RX

local macro_rules | `(tactic| walk_at "e") => `(tactic| (repeat (first
  | refine ⟨_, rfl, ?_⟩
  | refine ⟨_, _, rfl, rfl, ?_⟩
  | refine ⟨_, _, rfl, rfl, (by first | decide | omega | (dsimp only; omega)), ?_⟩
  | refine ⟨_, _, rfl, rfl, cmul1 (by omega), ?_⟩
  | refine ⟨_, _, rfl, rfl, cmul2 (by omega), ?_⟩
  | refine ⟨_, _, rfl, rfl, ⟨by omega, by omega⟩, ?_⟩
  | refine ⟨_, _, rfl, ‹_›, ?_⟩
  | refine ⟨_, _, _, _, rfl, rfl, ‹_›, at_vi (by assumption) rfl, ?_⟩
  | refine ⟨_, _, rfl, SqT.of ‹_›, rfl, ?_⟩
  | refine ⟨_, _, rfl, SqT.of ‹_›, ?_⟩
  | refine ⟨_, _, rfl, SqL.of ‹_›, ?_⟩
  | refine And.intro rfl ?_
  | refine ⟨_, _, rfl, ?_⟩
  | refine And.intro (by first | decide | omega | (dsimp only; omega)) ?_
  | refine And.intro (cmul1 (by omega)) ?_
  | refine And.intro (cmul2 (by omega)) ?_
  | refine And.intro ⟨by omega, by omega⟩ ?_
  | refine And.intro ⟨_, SqT.of ‹_›⟩ ?_
  | refine And.intro ⟨_, SqL.of ‹_›⟩ ?_
  | refine And.intro (Or.inl ⟨rfl, _, SqL.of ‹_›⟩) ?_
  | refine And.intro sz0 ?_
  | refine And.intro sz1 ?_
  | refine And.intro sz2 ?_
  | refine And.intro sz3 ?_
  | refine yesT ?_)))
section
variable {P : Program} {w : World} {K : PySem.W.Frag} {mg : Str → Option Value} {base : Heap}
/-- what stands between the steps of the law -/
structure LInv (C : Addr) (H : Hp) (pt dT pw dW dc g s : Nat) (ks : List Nat) (ot nuT nuW : Nat → Nat) : Prop where
  T : ClosAt C H pt dT g g s ks ot nuT
  ST : Sound g g s ks ot nuT
  W : ClosAt C H pw dW (2 * g - 1) g s ks ot nuW
  SW : Sound (2 * g - 1) g s ks ot nuW
  cur : H dc = some (.dK (cd ks ot))
theorem LInv.ext {C : Addr} {H H' : Hp} {pt dT pw dW dc g s : Nat} {ks : List Nat} {ot nuT nuW : Nat → Nat} (l : LInv C H pt dT pw dW dc g s ks ot nuT nuW) (x : Ext [] H H') : LInv C H' pt dT pw dW dc g s ks ot nuT nuW :=
  ⟨l.T.ext x, l.ST, l.W.ext x, l.SW, x.dK l.cur⟩
theorem LInv.extB {C : Addr} {H H' : Hp} {b pt dT pw dW dc g s : Nat} {ks : List Nat} {ot nuT nuW : Nat → Nat} (l : LInv C H pt dT pw dW dc g s ks ot nuT nuW) (x : Ext [b] H H') (D : DiceAt H b) : LInv C H' pt dT pw dW dc g s ks ot nuT nuW := by
  obtain ⟨d0, d1, d2, e⟩ := D
  have ne : ∀ {a : Addr} {kv : List (Key × V)}, H a = some (.dK kv) → a ∉ [b] := fun {a} {kv} h z => by
    have q : a = b := by simpa using z
    rw [q, e] at h; cases h
  have hw : ∀ w ∈ [b], (∃ kv, H w = some (.dK kv)) ∨ ∃ xs, H w = some (.lst xs) := fun w hw => by
    have : w = b := by simpa using hw
    subst this
    exact .inr ⟨_, e⟩
  obtain ⟨_, _, _, h1, _⟩ := l.T.ex
  obtain ⟨_, _, _, h2, _⟩ := l.W.ex
  exact ⟨l.T.extW x (ne h1) hw, l.ST, l.W.extW x (ne h2) hw, l.SW, x.at_ _ _ l.cur nt_dK (ne l.cur)⟩
theorem src_keysC {W : List Addr} {H : Hp} {d : Addr} {o : Obj} {ks : List Nat} {ot : Nat → Nat} (e : H d = some (.frz o (.dK (cd ks ot)))) (hw : d ∉ W) : Src (Itk d o (cd ks ot)) ks.length W H (YV fun i => vi (gt ks i)) :=
  ⟨fun i H1 x h => ⟨x.at_ _ _ e nt_frz hw, by rw [cd_len]; exact h⟩, fun H1 x => ⟨x.at_ _ _ e nt_frz hw, by rw [cd_len]; exact Nat.le_refl _⟩, fun i H1 v H2 x h ⟨e1, k, y, e2, e3⟩ => by
    have hat : (cd ks ot)[i]? = some ((Sum.inl ((gt ks i : Nat) : Int) : Key), vi (ot (gt ks i))) := by
      unfold cd
      rw [List.getElem?_map, some_gt h]; rfl
    rw [hat] at e2
    have e4 : (Sum.inl ((gt ks i : Nat) : Int) : Key) = k := congrArg Prod.fst (Option.some.inj e2)
    exact ⟨by rw [e3, ← e4]; rfl, e1⟩⟩
theorem filter_gt (ks : List Nat) (q : Nat → Bool) : ks.filter q = ((List.range ks.length).filter fun i => q (gt ks i)).map (gt ks) := by
  conv => lhs; rw [← map_gt ks]
  rw [List.filter_map]
  rfl
theorem cd_pairs {K : PySem.W.Frag} {H : Hp} {ks : List Nat} {ot : Nat → Nat} {q : Nat → Bool} {ys : List V} (h : Paired (fun i y => ∃ t, y = V.ref t ∧ H t = some (.tup [vi (gt ks i), vi (ot (gt ks i))])) ((List.range ks.length).filter fun i => q (gt ks i)) ys) :
    ∃ ts : List Addr, ys = ts.map V.ref ∧ Paired (fun p (kv : Key × V) => SqT K H p [kV kv.1, kv.2]) ts (cd (ks.filter q) ot) := by
  obtain ⟨ts, e, hp⟩ := refs_of (G := fun i => [vi (gt ks i), vi (ot (gt ks i))]) h
  refine ⟨ts, e, ?_⟩
  rw [filter_gt]
  unfold cd
  rw [List.map_map]
  exact Paired.mapR (F := fun p (kv : Key × V) => SqT K H p [kV kv.1, kv.2]) (Paired.mapP hp fun t i q => .of q)
def tChk (K : PySem.W.Frag) (C : Addr) : TS := tFor (iList K (tLst (tCons (tVar 7) (tCons (tVar 8) tNil)))) (gName 13)
  (tSeq
    (tIfS (tOr (tTest (tOp (rNeD K) (tLc (iTup K (tMeth C (Str.ofString "shown") (spShown C) [] E0 (tVar 13) tNil)) (gName 14) tYes (tTup (tCons (tOp rIxTu (tVar 14) (tC (V.int 0))) (tCons (tOp rIxTu (tVar 14) (tC (V.int 1))) tNil))) [14]) (tSortedItems (tVar 9))))
      (tNot (tB (tMeth C (Str.ofString "is_sound") (spSoundM C) [] E0 (tVar 13) tNil)))) (tRet (tC (V.bl false))) tNext)
    (tIfS (tOr (tNot (tB (tCall spApart [] E0 (tCons (tMeth C (Str.ofString "shown") (spShown C) [] E0 (tVar 13) tNil) (tCons (tVar 4) tNil)))))
      (tTest (tOp (rNeD K) (tLc (iTup K (tMeth C (Str.ofString "shown") (spShown C) [] E0 (tVar 13) tNil)) (gName 14)
        (tNot (tTest (tChain (rI0 fun i j => V.bl (decide (i ≤ j))) (rI0 fun i j => V.bl (decide (i < j))) (tC (V.int 0)) (tOp rIxTu (tVar 14) (tC (V.int 2))) (tFldC C (tVar 13) (Str.ofString "middle")))))
        (tVar 14) [14]) (tLst tNil)))) (tRet (tC (V.bl false))) tNext))
theorem chk_ok {C a b m q2 g s sq pt dT pw dW dc : Nat} {D : Ends} {H : Hp} {o10 o11 o12 o13 : Option V} {ks : List Nat} {ot nuT nuW : Nat → Nat} (L : LInv C H pt dT pw dW dc g s ks ot nuT nuW) (hg1 : 1 ≤ g) (hg : g ≤ 6) (hs1 : 1 ≤ s) (hs : s ≤ 8)
    (hN : ∀ o13 H', Ext [] H H' → D.nx [some (.ref a), some (.ref b), some (vi m), some (.ref q2), some (vi g), some (vi s), some (.ref sq), some (.ref pt), some (.ref pw), some (.ref dc), o10, o11, o12, o13, none, none] H') :
    tChk K C D [some (.ref a), some (.ref b), some (vi m), some (.ref q2), some (vi g), some (vi s), some (.ref sq), some (.ref pt), some (.ref pw), some (.ref dc), o10, o11, o12, o13, none, none] H := by
  have hkl : ks.length ≤ g * s := by
    have := pigeon (m := List.range (g * s)) L.ST.nd fun x hx => List.mem_range.mpr (L.ST.lt1 x hx)
    simpa using this
  have hgs : g * s ≤ 6 * 8 := Nat.mul_le_mul hg hs
  unfold tChk
  walk_at "e"
  intro lf hlf
  generalize hH1 : L2.upd H lf _ = H1
  have x1 : Ext [] H H1 := by rw [← hH1]; exact Ext.add hlf
  have e1 := (congrFun hH1.symm lf).trans upd_same
  walk_at "e"
  refine for_any (src_lst e1 (by simp)) (W := []) (fun i σ H' => Ext [] H1 H' ∧ ∃ o13, σ = [some (.ref a), some (.ref b), some (vi m), some (.ref q2), some (vi g), some (vi s), some (.ref sq), some (.ref pt), some (.ref pw), some (.ref dc), o10, o11, o12, o13, none, none]) ⟨Ext.refl, o13, rfl⟩ (fun i σ H' h => h.1) ?_ ?_
  · rintro j v σ Ha Hb hj ⟨x2, o13, rfl⟩ ⟨rfl, rfl⟩
    have Lb := (L.ext x1).ext x2
    obtain ⟨r, d, m', nu, er, S, So, hm'⟩ : ∃ (r d : Addr) (m' : Nat) (nu : Nat → Nat), [V.ref pt, V.ref pw].getD j .non = V.ref r ∧ ClosAt C Hb r d m' g s ks ot nu ∧ Sound m' g s ks ot nu ∧ m' ≤ 1000 := by
      have hj2 : j < 2 := hj
      have : j = 0 ∨ j = 1 := by omega
      rcases this with z | z <;> subst z
      · exact ⟨pt, dT, g, nuT, rfl, Lb.T, Lb.ST, by omega⟩
      · exact ⟨pw, dW, 2 * g - 1, nuW, rfl, Lb.W, Lb.SW, by omega⟩
    have hcur := Lb.cur
    dsimp only
    rw [er]
    clear Lb
    obtain ⟨dx, ad, p0, _⟩ := id S
    walk_at "e"
    refine ⟨r, dx, _, rfl, p0, clf_meth, ?_⟩
    walk_at "e"
    refine ⟨r, d, m', g, s, ks, ot, nu, rfl, S, So.nd, by omega, fun us sp H2 hperm hsort x3 SA => ?_⟩
    have hul := hperm.length_eq
    obtain ⟨rs, sa1, sa2, sa3⟩ := id SA
    walk_at "e"
    intro Da hDa
    refine lc_any hDa (src_refsT sa1 (by simp)) (fun _ => true) (fun i y H => ∃ t, y = .ref t ∧ H t = some (.tup [vi (gt us i), vi (ot (gt us i))])) (by omega) (fun i y Ha Hb ⟨t, e, h⟩ x => ⟨t, e, x.tup h⟩) (fun i v Hc Hd Kt Kf hi y ⟨ev, eh⟩ kt kf => ?_) fun H3 ys z0 x4 e3 hys => ?_
    · subst ev eh
      have r1 := y.tup (sa3 i (by omega))
      walk_at "e"
      refine ⟨ag rs i, _, _, _, rfl, rfl, r1, rfl, ?_⟩
      walk_at "e"
      refine ⟨ag rs i, _, _, _, rfl, rfl, r1, rfl, ?_⟩
      walk_at "e"
      intro t ht
      refine kt _ _ rfl (Ext.add ht) fun D' zs hD' => ⟨t, rfl, ?_⟩
      rw [hide_ne (fun z => by rw [z, hD'] at ht; cases ht), upd_same]
    rw [filter_true, sa2] at hys
    obtain ⟨ts1, ets1, hts1⟩ := rows_of (Paired.mapP hys fun i y ⟨t, e, h⟩ => (⟨t, e, of_hide h⟩ : ∃ t, y = V.ref t ∧ H3 t = some (.tup [vi (gt us i), vi (ot (gt us i))])))
    subst ets1
    have c3 := (x3.trans x4).dK hcur
    walk_at "e"
    refine ⟨dc, ks.map (prI ot), rfl, by rw [← cd_kvI]; exact c3, fun H4 lp ts qs hsame hlp hts hlst hpair hqp hqs => ?_⟩
    have x5 : Ext [] H3 H4 := Ext.of_same hsame
    have eqs : qs = us.map (prI ot) := items_eq hqp hqs hperm hsort
    subst eqs
    have hrows := items_rows hpair
    refine ⟨pR (rowsK us ot), pR (rowsK us ot), dp_listR (x5.lst e3) (Paired.mapP hts1 fun a r h => x5.tup h), dp_listR hlst hrows, sh_R _, sh_R _, ?_⟩
    rw [eq_R]
    have S4 := S.ext ((x3.trans x4).trans x5)
    have y4 := (x3.trans x4).trans x5
    obtain ⟨dx4, ad4, p4, _⟩ := id S4
    walk_at "e"
    refine ⟨r, dx4, _, rfl, p4, clf_meth, ?_⟩
    walk_at "e"
    refine ⟨r, d, m', g, s, ks, ot, nu, rfl, S4, So, hg1, by omega, by omega, by omega, fun H5 x6 => ?_⟩
    have S5 := S4.ext x6
    obtain ⟨dx5, ad5, p5, _⟩ := id S5
    walk_at "e"
    refine ⟨r, dx5, _, rfl, p5, clf_meth, ?_⟩
    walk_at "e"
    refine ⟨r, d, m', g, s, ks, ot, nu, rfl, S5, So.nd, by omega, fun us2 sp2 H6 hperm2 hsort2 x7 SA2 => ?_⟩
    have eus : us2 = us := perm_le (hperm2.trans hperm.symm) hsort2 hsort
    subst eus
    have mem : ∀ a, a ∈ us2 → a ∈ ks := fun a h => hperm.mem_iff.mp h
    walk_at "e"
    refine ⟨sp2, g, us2, ot, nu, rfl, SA2, by omega, hg1, by omega, hperm.nodup_iff.mpr So.nd, fun a ha b hb => So.in_ a (mem a ha) b (mem b hb), fun a ha b hb => So.out a (mem a ha) b (mem b hb), fun H7 x8 => ?_⟩
    have S7 := (S5.ext x7).ext x8
    obtain ⟨dx7, ad7, p7, _⟩ := id S7
    walk_at "e"
    refine ⟨r, dx7, _, rfl, p7, clf_meth, ?_⟩
    walk_at "e"
    refine ⟨r, d, m', g, s, ks, ot, nu, rfl, S7, So.nd, by omega, fun us3 sp3 H8 hperm3 hsort3 x9 SA3 => ?_⟩
    have eus : us3 = us2 := perm_le (hperm3.trans hperm2.symm) hsort3 hsort2
    subst eus
    obtain ⟨rs3, sb1, sb2, sb3⟩ := id SA3
    have S8 := S7.ext x9
    obtain ⟨dx8, ad8, p8, _⟩ := id S8
    walk_at "e"
    intro Dc hDc
    refine lc_any hDc (src_refsT sb1 (by simp)) (fun _ => false) (fun i y H => True) (by omega) (fun i y Ha Hb _ x => True.intro) (fun i v Hc Hd Kt Kf hi y ⟨ev, eh⟩ kt kf => ?_) fun H9 ys3 u0 x10 e9 hys3 => ?_
    · subst ev eh
      have r1 := y.tup (sb3 i (by omega))
      have p9 := y.ins p8
      have hnu := So.ltm _ (mem _ (gt_mem (l := us3) (i := i) (by omega)))
      walk_at "e"
      refine ⟨ag rs3 i, _, _, _, rfl, rfl, r1, rfl, ?_⟩
      walk_at "e"
      refine ⟨r, dx8, _, _, rfl, p9, clf_middle _ _ _ _, ?_⟩
      walk_at "e"
      have hd : decide (((nu (gt us3 i) : Nat) : Int) < (m' : Int)) = true := decide_eq_true (by omega)
      rw [hd]
      exact ifF rfl (kf _ rfl Ext.refl)
    have hys0 : ys3 = [] := by
      have hl := Paired.length hys3
      have : ((List.range rs3.length).filter fun _ => false) = [] := by simp
      rw [this] at hl
      exact List.length_eq_zero_iff.mp hl.symm
    subst hys0
    walk_at "e"
    intro q3 hq3
    generalize hH10 : L2.upd H9 q3 _ = H10
    have x11 : Ext [] H9 H10 := by rw [← hH10]; exact Ext.add hq3
    have e10 := (congrFun hH10.symm q3).trans upd_same
    refine ⟨pL [], pL [], dp_list (l := []) (x11.lst e9), dp_list (l := []) e10, sh_L _, sh_L _, ?_⟩
    refine ⟨_, rfl, ?_⟩
    exact ⟨((((((x2.trans y4).trans x6).trans x7).trans x8).trans x9).trans x10).trans x11, _, rfl⟩
  · rintro σ H' ⟨x2, o13, rfl⟩
    exact hN o13 H' (x1.trans x2)
end
end CL
set_option Elab.async false
set_option linter.all false
set_option maxRecDepth 100000
set_option maxHeartbeats 4000000
namespace CL
open PySem PySem.Spec PyProof.Rows L2 RX

local macro_rules | `(tactic| walk_at "e") => `(tactic| (repeat (first
  | refine ⟨_, rfl, ?_⟩
  | refine ⟨_, _, rfl, rfl, ?_⟩
  | refine ⟨_, _, rfl, rfl, (by first | decide | omega | (dsimp only; omega)), ?_⟩
  | refine ⟨_, _, rfl, rfl, cmul1 (by omega), ?_⟩
  | refine ⟨_, _, rfl, rfl, cmul2 (by omega), ?_⟩
  | refine ⟨_, _, rfl, rfl, ⟨by omega, by omega⟩, ?_⟩
  | refine ⟨_, _, rfl, ‹_›, ?_⟩
  | refine ⟨_, _, _, _, rfl, rfl, ‹_›, at_vi (by assumption) rfl, ?_⟩
  | refine ⟨_, _, rfl, SqT.of ‹_›, rfl, ?_⟩
  | refine ⟨_, _, rfl, SqT.of ‹_›, ?_⟩
  | refine ⟨_, _, rfl, SqL.of ‹_›, ?_⟩
  | refine And.intro rfl ?_
  | refine ⟨_, _, rfl, ?_⟩
  | refine And.intro (by first | decide | omega | (dsimp only; omega)) ?_
  | refine And.intro (cmul1 (by omega)) ?_
  | refine And.intro (cmul2 (by omega)) ?_
  | refine And.intro ⟨by omega, by omega⟩ ?_
  | refine And.intro ⟨_, SqT.of ‹_›⟩ ?_
  | refine And.intro ⟨_, SqL.of ‹_›⟩ ?_
  | refine And.intro (Or.inl ⟨rfl, _, SqL.of ‹_›⟩) ?_
  | refine And.intro sz0 ?_
  | refine And.intro sz1 ?_
  | refine And.intro sz2 ?_
  | refine And.intro sz3 ?_
  | refine yesT ?_)))
section
variable {P : Program} {w : World} {K : PySem.W.Frag} {mg : Str → Option Value} {base : Heap}
/-! the law -/
set_option pp.maxSteps 1500
abbrev s_law : Stmt := top 36
theorem sc_law : FnScope ["script", "dice", "many", "pairs", "gates", "switches", "shown", "tight", "wide", "calls", "step", "one", "other", "each", "row", "k"] ["script"] (defScope s_law) := ⟨rfl, rfl, rfl, by decide +kernel, rfl, by decide +kernel, by decide +kernel⟩
def spLaw (K : PySem.W.Frag) (PC PN PK PA : Addr) : Sp := fun vs H Q _ => ∃ (a : Addr) (cs : List Int), vs = [.ref a] ∧ SqL K H a (cs.map V.int) ∧ GxR.TabG H PC ∧ GxR.TabG H PN ∧ GxR.TabG H PK ∧ GxR.TabG H PA ∧ ∀ H', Q (.bl true) H'
theorem ok_law {f C PC PN PK PA : Addr} {fd : FuncData} (F : Fun K "law" "law" s_law f fd) (B : Bts mg)
    (G_law_rounds : FnF P w K mg base "_law_rounds" 2 ["script", "most"] (spRounds K)) (G_law_roll : FnF P w K mg base "_law_roll" 1 ["dice", "many"] spRoll) (G_law_part : FnF P w K mg base "_law_part" 2 ["dice", "many"] spPart)
    (G_law_carried : FnF P w K mg base "_law_carried" 13 ["pairs"] (spCarriedL PC PN PK)) (G_law_apart : FnF P w K mg base "_law_apart" 2 ["shown", "gates"] spApart)
    (G_carried_net : FnF P w K mg base "carried_net" 7 ["pairs", "middle", "gates"] (spCarriedN C PA))
    (T_Clos : ClF K C ["middle", "gates", "switches", "calls"]) (K_Clos : MkF P w K mg base "Clos" C 1 ["self", "middle", "gates", "switches"] (spClosI C))
    (M_Clos_shown : MtF P w K mg base C "shown" 1 ["self"] (spShown C)) (M_Clos_end : MtF P w K mg base C "end" 1 ["self", "one"] (spEnd C))
    (M_Clos_put_moving : MtF P w K mg base C "put_moving" 4 ["self", "one", "other"] (spPutM C)) (M_Clos_is_sound : MtF P w K mg base C "is_sound" 2 ["self"] (spSoundM C)) :
    FnOk P w K mg base CX0 14 f fd ["script"] (spLaw K PC PN PK PA) := by
  refine F.ok sc_law (fun vs H Q E h => ?_) (fun cdv A outer sh H vs Q E hr h => ?_)
  · obtain ⟨a, cs, rfl, _⟩ := h
    rfl
  · obtain ⟨a, cs, rfl, e, tc, tn, tk, ta, k⟩ := h
    refine ⟨_, (pss_cons (ps_for PassesOwn.never rfl (piL_K K rfl (pf_call G_law_rounds (hr.mono (by omega)) (by rfl) (pa_cons (pv 0) (pa_cons pe_int pa_nil)))) (pg_name (i := 1) sc_law.nd rfl (by first | exact Or.inl rfl | exact Or.inr rfl)) (pss_cons (ps_set (i := 2) sc_law.nd rfl (Or.inl rfl) (pe_ix ixL (pe_lst (pa_cons pe_int (pa_cons pe_int (pa_cons pe_int (pa_cons pe_int (pa_cons pe_int (pa_cons pe_int pa_nil))))))) (pf_call G_law_roll (hr.mono (by omega)) (by rfl) (pa_cons (pv 1) (pa_cons pe_int pa_nil))) (fun _ _ => rfl)))
      (pss_cons (ps_set (i := 3) sc_law.nd rfl (Or.inr rfl) (pf_call G_law_part (hr.mono (by omega)) (by rfl) (pa_cons (pv 1) (pa_cons (pv 2) pa_nil))))
      (pss_cons (ps_if (pt_not (pt_val (pf_call G_law_carried (hr.mono (by omega)) (by rfl) (pa_cons (pv 3) pa_nil)))) (pss_one (ps_ret pe_bl)) pss_nil)
      (pss_cons (ps_asg (pe_tup (pa_cons (pe_op op_add pe_int (pf_call G_law_roll (hr.mono (by omega)) (by rfl) (pa_cons (pv 1) (pa_cons pe_int pa_nil)))) (pa_cons (pe_op op_add pe_int (pf_call G_law_roll (hr.mono (by omega)) (by rfl) (pa_cons (pv 1) (pa_cons pe_int pa_nil)))) pa_nil))) (pg_tupK (n := 2) K rfl rfl (pgs_cons (pg_name (i := 4) sc_law.nd rfl (by first | exact Or.inl rfl | exact Or.inr rfl)) (pgs_cons (pg_name (i := 5) sc_law.nd rfl (by first | exact Or.inl rfl | exact Or.inr rfl)) pgs_nil))))
      (pss_cons (ps_set (i := 3) sc_law.nd rfl (Or.inr rfl) (pf_call G_law_part (hr.mono (by omega)) (by rfl) (pa_cons (pv 1) (pa_cons (pe_op op_mul (pv 4) (pv 5)) pa_nil))))
      (pss_cons (ps_set (i := 6) sc_law.nd rfl (Or.inl rfl) (pm_call0 M_Clos_shown (hr.mono (by omega)) (pf_call G_carried_net (hr.mono (by omega)) (by rfl) (pa_cons (pv 3) (pa_cons (pv 4) (pa_cons (pv 4) pa_nil))))))
      (pss_cons (ps_if (pw_or (pt_cmpR (neD_K K rfl hr.units) (pe_lc (own := [("row", 14)]) (g := (gName 14)) (tt := tYes) rfl sc_law.nd (piT_K K rfl (pv 6)) (blkOk_by (N := ["script", "dice", "many", "pairs", "gates", "switches", "shown", "tight", "wide", "calls", "step", "one", "other", "each", "row", "k"]) (sc := defScope s_law) (by decide +kernel)) (fun _ _ _ _ _ => (pg_name (i := 14) sc_law.nd rfl (by first | exact Or.inl rfl | exact Or.inr rfl))) (fun _ _ _ _ _ => pts_nil) (fun _ _ _ _ _ => (pe_tup (pa_cons (pe_ix ixT (pv 14) pe_int (fun _ _ => rfl)) (pa_cons (pe_ix ixT (pv 14) pe_int (fun _ _ => rfl)) pa_nil))))) (pe_lc (own := [("k", 15)]) (g := (gName 15)) rfl sc_law.nd (pi_range1 (by rfl) B.range (pa_cons (pe_op op_mul (pv 4) (pv 5)) pa_nil)) (blkOk_by (N := ["script", "dice", "many", "pairs", "gates", "switches", "shown", "tight", "wide", "calls", "step", "one", "other", "each", "row", "k"]) (sc := defScope s_law) (by decide +kernel)) (fun _ _ _ _ _ => (pg_name (i := 15) sc_law.nd rfl (by first | exact Or.inl rfl | exact Or.inr rfl))) (fun _ _ _ _ _ => (pts_one (pt_cmpR op_notN (pe_ix ixT (pv 3) (pv 15) (fun _ _ => rfl)) pe_non (nomark _)))) (fun _ _ _ _ _ => (pe_tup (pa_cons (pv 15) (pa_cons (pe_ix ixT (pv 3) (pv 15) (fun _ _ => rfl)) pa_nil))))) (nomark _)) (pw_or (pt_not (pt_val (pf_call G_law_apart (hr.mono (by omega)) (by rfl) (pa_cons (pv 6) (pa_cons (pv 4) pa_nil))))) (pw_or1 (pt_cmpR (neD_K K rfl hr.units) (pe_lc (own := [("row", 14)]) (g := (gName 14)) rfl sc_law.nd (piT_K K rfl (pv 6)) (blkOk_by (N := ["script", "dice", "many", "pairs", "gates", "switches", "shown", "tight", "wide", "calls", "step", "one", "other", "each", "row", "k"]) (sc := defScope s_law) (by decide +kernel)) (fun _ _ _ _ _ => (pg_name (i := 14) sc_law.nd rfl (by first | exact Or.inl rfl | exact Or.inr rfl))) (fun _ _ _ _ _ => (pts_one (pt_not (pt_chain op_le op_lt pe_int (pe_ix ixT (pv 14) pe_int (fun _ _ => rfl)) (pv 4))))) (fun _ _ _ _ _ => (pv 14))) (pe_lst pa_nil) (nomark _))))).pt (pss_one (ps_ret pe_bl)) pss_nil)
      (pss_cons (ps_asg (pe_tup (pa_cons (pk_make K_Clos (hr.mono (by omega)) (by rfl) (pa_cons (pv 4) (pa_cons (pv 4) (pa_cons (pv 5) pa_nil)))) (pa_cons (pk_make K_Clos (hr.mono (by omega)) (by rfl) (pa_cons (pe_op op_sub (pe_op op_mul pe_int (pv 4)) pe_int) (pa_cons (pv 4) (pa_cons (pv 5) pa_nil)))) (pa_cons pe_dnewK pa_nil)))) (pg_tupK (n := 3) K rfl rfl (pgs_cons (pg_name (i := 7) sc_law.nd rfl (by first | exact Or.inl rfl | exact Or.inr rfl)) (pgs_cons (pg_name (i := 8) sc_law.nd rfl (by first | exact Or.inl rfl | exact Or.inr rfl)) (pgs_cons (pg_name (i := 9) sc_law.nd rfl (by first | exact Or.inl rfl | exact Or.inr rfl)) pgs_nil)))))
      (pss_one (ps_for PassesOwn.never rfl (pi_range1 (by rfl) B.range (pa_cons (pf_call G_law_roll (hr.mono (by omega)) (by rfl) (pa_cons (pv 1) (pa_cons pe_int pa_nil))) pa_nil)) (pg_name (i := 10) sc_law.nd rfl (by first | exact Or.inl rfl | exact Or.inr rfl)) (pss_cons (ps_asg (pe_tup (pa_cons (pf_call G_law_roll (hr.mono (by omega)) (by rfl) (pa_cons (pv 1) (pa_cons (pe_op op_mul (pv 4) (pv 5)) pa_nil))) (pa_cons (pf_call G_law_roll (hr.mono (by omega)) (by rfl) (pa_cons (pv 1) (pa_cons (pe_op op_mul (pv 4) (pv 5)) pa_nil))) pa_nil))) (pg_tupK (n := 2) K rfl rfl (pgs_cons (pg_name (i := 11) sc_law.nd rfl (by first | exact Or.inl rfl | exact Or.inr rfl)) (pgs_cons (pg_name (i := 12) sc_law.nd rfl (by first | exact Or.inl rfl | exact Or.inr rfl)) pgs_nil))))
      (pss_cons (ps_if (pt_cmp (pc_din (hu_of hr) (pv 11) (pv 9))) (pss_cons (ps_expr (pm_call M_Clos_end (hr.mono (by omega)) (pv 7) (pa_cons (pv 11) pa_nil)))
      (pss_cons (ps_expr (pm_call M_Clos_end (hr.mono (by omega)) (pv 8) (pa_cons (pv 11) pa_nil)))
      (pss_one (ps_set (i := 9) sc_law.nd rfl (Or.inr rfl) (pe_callTy (call_dictP rfl) (by rfl) B.dict (by decide +kernel) (pa_cons (pe_lock (pe_lc (own := [("k", 15)]) (g := (gName 15)) rfl sc_law.nd (pi_keys (pv 9)) (blkOk_by (N := ["script", "dice", "many", "pairs", "gates", "switches", "shown", "tight", "wide", "calls", "step", "one", "other", "each", "row", "k"]) (sc := defScope s_law) (by decide +kernel)) (fun _ _ _ _ _ => (pg_name (i := 15) sc_law.nd rfl (by first | exact Or.inl rfl | exact Or.inr rfl))) (fun _ _ _ _ _ => (pts_one (pt_cmpR op_ne (pv 15) (pv 11) (nomark _)))) (fun _ _ _ _ _ => (pe_tup (pa_cons (pv 15) (pa_cons (pe_dget (hu_of hr) (pv 9) (pv 15) (fun _ _ => rfl)) pa_nil)))))) pa_nil)))))) (pss_one (ps_if (pt_cmpR notInS (pv 12) (pe_lock (pe_lc (own := [("k", 15)]) (g := (gName 15)) (tt := tYes) rfl sc_law.nd (pi_keys (pv 9)) (blkOk_by (N := ["script", "dice", "many", "pairs", "gates", "switches", "shown", "tight", "wide", "calls", "step", "one", "other", "each", "row", "k"]) (sc := defScope s_law) (by decide +kernel)) (fun _ _ _ _ _ => (pg_name (i := 15) sc_law.nd rfl (by first | exact Or.inl rfl | exact Or.inr rfl))) (fun _ _ _ _ _ => pts_nil) (fun _ _ _ _ _ => (pe_dget (hu_of hr) (pv 9) (pv 15) (fun _ _ => rfl))))) (by rfl)) (pss_cons (ps_dput (hu_of hr) (pv 9) (pv 11) (pv 12) rfl)
      (pss_cons (ps_expr (pm_call M_Clos_put_moving (hr.mono (by omega)) (pv 7) (pa_cons (pv 11) (pa_cons (pv 12) pa_nil))))
      (pss_one (ps_if (pt_cmpR (neD_K K rfl hr.units) (pm_call M_Clos_put_moving (hr.mono (by omega)) (pv 8) (pa_cons (pv 11) (pa_cons (pv 12) pa_nil))) (pe_tup pa_nil) (nomark _)) (pss_one (ps_ret pe_bl)) pss_nil)))) pss_nil)))
      (pss_one (ps_for PassesOwn.never rfl (piL_K K rfl (pe_lst (pa_cons (pv 7) (pa_cons (pv 8) pa_nil)))) (pg_name (i := 13) sc_law.nd rfl (by first | exact Or.inl rfl | exact Or.inr rfl)) (pss_cons (ps_if (pw_or (pt_cmpR (neD_K K rfl hr.units) (pe_lc (own := [("row", 14)]) (g := (gName 14)) (tt := tYes) rfl sc_law.nd (piT_K K rfl (pm_call0 M_Clos_shown (hr.mono (by omega)) (pv 13))) (blkOk_by (N := ["script", "dice", "many", "pairs", "gates", "switches", "shown", "tight", "wide", "calls", "step", "one", "other", "each", "row", "k"]) (sc := defScope s_law) (by decide +kernel)) (fun _ _ _ _ _ => (pg_name (i := 14) sc_law.nd rfl (by first | exact Or.inl rfl | exact Or.inr rfl))) (fun _ _ _ _ _ => pts_nil) (fun _ _ _ _ _ => (pe_tup (pa_cons (pe_ix ixT (pv 14) pe_int (fun _ _ => rfl)) (pa_cons (pe_ix ixT (pv 14) pe_int (fun _ _ => rfl)) pa_nil))))) (pe_sortedItems rfl (by rfl) B.sorted (pv 9)) (nomark _)) (pw_or1 (pt_not (pt_val (pm_call0 M_Clos_is_sound (hr.mono (by omega)) (pv 13)))))).pt (pss_one (ps_ret pe_bl)) pss_nil)
      (pss_one (ps_if (pw_or (pt_not (pt_val (pf_call G_law_apart (hr.mono (by omega)) (by rfl) (pa_cons (pm_call0 M_Clos_shown (hr.mono (by omega)) (pv 13)) (pa_cons (pv 4) pa_nil))))) (pw_or1 (pt_cmpR (neD_K K rfl hr.units) (pe_lc (own := [("row", 14)]) (g := (gName 14)) rfl sc_law.nd (piT_K K rfl (pm_call0 M_Clos_shown (hr.mono (by omega)) (pv 13))) (blkOk_by (N := ["script", "dice", "many", "pairs", "gates", "switches", "shown", "tight", "wide", "calls", "step", "one", "other", "each", "row", "k"]) (sc := defScope s_law) (by decide +kernel)) (fun _ _ _ _ _ => (pg_name (i := 14) sc_law.nd rfl (by first | exact Or.inl rfl | exact Or.inr rfl))) (fun _ _ _ _ _ => (pts_one (pt_not (pt_chain op_le op_lt pe_int (pe_ix ixT (pv 14) pe_int (fun _ _ => rfl)) (fldC T_Clos (by decide +kernel) (pv 13) rfl))))) (fun _ _ _ _ _ => (pv 14))) (pe_lst pa_nil) (nomark _)))).pt (pss_one (ps_ret pe_bl)) pss_nil))))))))))))))))))
      (pss_one (ps_ret pe_bl))), ?_⟩
    walk_at "e"
    intro p0 b H1 x1 e1 nb DB1
    have tc1 := x1.tab _ tc
    have tn1 := x1.tab _ tn
    have tk1 := x1.tab _ tk
    have ta1 := x1.tab _ ta
    have hbl : ∀ {Hx : Hp}, DiceAt Hx b → ∀ w ∈ [b], (∃ kv, Hx w = some (.dK kv)) ∨ ∃ xs, Hx w = some (.lst xs) := fun D w hw => by
      obtain ⟨d0, d1, d2, e⟩ := D
      have : w = b := by simpa using hw
      subst this
      exact .inr ⟨_, e⟩
    have np0 : p0 ≠ b := fun z => by
      obtain ⟨d0, d1, d2, e⟩ := DB1
      rw [← z, e1] at e; cases e
    walk_at "e"
    refine for_any (src_lst e1 (by simp [np0])) (W := [b]) (fun i σ H' => Ext [b] H1 H' ∧ (i = 0 → DiceAt H' b ∧ σ = [some (.ref a), none, none, none, none, none, none, none, none, none, none, none, none, none, none, none])) ⟨Ext.refl, fun _ => ⟨DB1, rfl⟩⟩ (fun i σ H' h => h.1) ?_ ?_
    · rintro i v σ Ha Hb hi ⟨x2, hσ⟩ ⟨ev, eh⟩
      have hi0 : i = 0 := by have : i < 1 := hi; omega
      subst hi0
      obtain ⟨DB, rfl⟩ := hσ rfl
      subst ev eh
      clear hσ
      walk_at "e"
      intro ls hls
      generalize hH3 : L2.upd Hb ls _ = H3
      have x3 : Ext [] Hb H3 := by rw [← hH3]; exact Ext.add hls
      have e3 := (congrFun hH3.symm ls).trans upd_same
      have D3 := DB.ext x3
      have nbs : ∀ {q : Addr} {Hx : Hp}, Hx q = none → DiceAt Hx b → q ≠ b := fun h D z => by
        obtain ⟨d0, d1, d2, e⟩ := D
        rw [z, e] at h; cases h
      have nlb : ls ≠ b := nbs hls DB
      have y3 := x2.trans x3.wide0
      walk_at "e"
      intro c H4 hc x4 D4
      have hc : c < 6 := hc
      have e4 := x4.at_ _ _ e3 nt_lst (by simp [nlb])
      have y4 := y3.trans x4
      have hm : atI [V.int 2, V.int 4, V.int 8, V.int 16, V.int 32, V.int 64] (c : Int) = some (vi (2 ^ (c + 1))) := by
        match c, hc with
        | 0, _ => rfl
        | 1, _ => rfl
        | 2, _ => rfl
        | 3, _ => rfl
        | 4, _ => rfl
        | 5, _ => rfl
      have h64 : 2 ^ (c + 1) ≤ 64 := Nat.le_trans (Nat.pow_le_pow_right (by omega) (show c + 1 ≤ 6 by omega)) (by decide)
      have h01 : 1 ≤ 2 ^ (c + 1) := Nat.two_pow_pos _
      walk_at "e"
      refine ⟨ls, _, _, _, rfl, rfl, e4, hm, ?_⟩
      walk_at "e"
      intro l q H5 hp x5 D5 e5 hqb nq
      have y5 := y4.trans x5
      walk_at "e"
      refine ⟨q, c, l, rfl, e5, by omega, hp, y5.tab _ tc1, y5.tab _ tn1, y5.tab _ tk1, fun H6 x6 => ?_⟩
      have y6 := y5.trans x6.wide0
      have D6 := D5.ext x6
      walk_at "e"
      intro g0 H7 hg0 x7 D7
      have hg0 : g0 < 6 := hg0
      walk_at "e"
      intro s0 H8 hs0 x8 D8
      have hs0 : s0 < 8 := hs0
      walk_at "e"
      intro tp htp
      generalize hH9 : L2.upd H8 tp _ = H9
      have x9 : Ext [] H8 H9 := by rw [← hH9]; exact Ext.add htp
      have e9 : H9 tp = some (.tup [vi (1 + g0), vi (1 + s0)]) := by
        rw [← hH9, upd_same]
        show some (HO.tup [V.int (1 + (g0 : Int)), V.int (1 + (s0 : Int))]) = some (HO.tup [V.int ((1 + g0 : Nat) : Int), V.int ((1 + s0 : Nat) : Int)])
        rw [Int.natCast_add, Int.natCast_add]; rfl
      have D9 := D8.ext x9
      have y9 := ((y6.trans x7).trans x8).trans x9.wide0
      walk_at "e"
      have hg1 : 1 ≤ 1 + g0 := by omega
      have hg6 : 1 + g0 ≤ 6 := by omega
      have hs1 : 1 ≤ 1 + s0 := by omega
      have hs8 : 1 + s0 ≤ 8 := by omega
      clear hg0 hs0 hH9
      generalize 1 + g0 = g at *
      generalize 1 + s0 = s at *
      have hgs : g * s ≤ 6 * 8 := Nat.mul_le_mul hg6 hs8
      have hgs1 : 1 * 1 ≤ g * s := Nat.mul_le_mul hg1 hs1
      have hcast : (g : Int) * (s : Int) = ((g * s : Nat) : Int) := by rw [Int.natCast_mul]
      refine ⟨by omega, by omega, fun l2 q2 H10 hp2 x10 D10 e10 hqb2 nq2 => ?_⟩
      have y10 := y9.trans x10
      have hln2 := hp2.len
      walk_at "e"
      refine ⟨q2, g, g, s, l2, rfl, e10, hp2, by omega, hg1, hs1, Nat.le_refl _, by omega, y10.tab _ ta1, fun p d nu H11 x11 nd S11 So => ?_⟩
      have D11 := D10.ext x11
      have y11 := y10.trans x11.wide0
      obtain ⟨dx, ad, p11, d11, _⟩ := id S11
      have hil := isL_len l2
      walk_at "e"
      refine ⟨p, dx, _, rfl, p11, clf_meth, ?_⟩
      walk_at "e"
      refine ⟨p, d, g, g, s, isL l2, ov l2, nu, rfl, S11, isL_nd l2, by omega, fun us sq H12 hperm hsort x12 SA => ?_⟩
      have eus : us = isL l2 := perm_le hperm hsort (isL_sorted l2)
      subst eus
      have D12 := D11.ext x12
      have y12 := y11.trans x12.wide0
      have e12 := (x11.trans x12).tup e10
      obtain ⟨rs, sa1, sa2, sa3⟩ := id SA
      walk_at "e"
      intro Da hDa
      refine lc_any hDa (src_refsT sa1 (by simp)) (fun _ => true) (fun i y H => ∃ t, y = .ref t ∧ H t = some (.tup [vi (gt (isL l2) i), vi (ov l2 (gt (isL l2) i))])) (by omega) (fun i y Ha Hb ⟨t, e, h⟩ x => ⟨t, e, x.tup h⟩) (fun i v Hc Hd Kt Kf hi y ⟨ev, eh⟩ kt kf => ?_) fun H13 ys z0 x13 e13 hys => ?_
      · subst ev eh
        have r1 := y.tup (sa3 i (by omega))
        walk_at "e"
        refine ⟨ag rs i, _, _, _, rfl, rfl, r1, rfl, ?_⟩
        walk_at "e"
        refine ⟨ag rs i, _, _, _, rfl, rfl, r1, rfl, ?_⟩
        walk_at "e"
        intro t ht
        refine kt _ _ rfl (Ext.add ht) fun D' zs hD' => ⟨t, rfl, ?_⟩
        rw [hide_ne (fun z => by rw [z, hD'] at ht; cases ht), upd_same]
      rw [filter_true, sa2] at hys
      obtain ⟨ts1, ets1, hts1⟩ := rows_of (Paired.mapP hys fun i y ⟨t, e, h⟩ => (⟨t, e, of_hide h⟩ : ∃ t, y = V.ref t ∧ H13 t = some (.tup [vi (gt (isL l2) i), vi (ov l2 (gt (isL l2) i))])))
      subst ets1
      have D13 := D12.ext x13
      have y13 := y12.trans x13.wide0
      have el13 := x13.tup e12
      have SA13 := SA.ext x13
      walk_at "e"
      intro Db hDb
      have hzn : ((g : Int) * (s : Int)).toNat = g * s := by rw [hcast, Int.toNat_natCast]
      rw [hzn]
      refine lc_any hDb (src_rngN (n := g * s)) (fun k => (go l2 k).isSome) (fun k y H => ∃ t, y = .ref t ∧ H t = some (.tup [vi k, vi (ov l2 k)])) (by omega) (fun i y Ha Hb ⟨t, e, h⟩ x => ⟨t, e, x.tup h⟩) (fun k v Hc Hd Kt Kf hk y ⟨ev, eh⟩ kt kf => ?_) fun H14 ys2 w0 x14 e14 hys2 => ?_
      · subst ev eh
        have r1 := y.tup el13
        walk_at "e"
        refine ⟨q2, _, _, _, rfl, rfl, r1, at_vo (i := k) (by omega) rfl, ?_⟩
        walk_at "e"
        cases ql : go l2 k with
        | none => exact ifF rfl (kf _ (by rw [ql]; rfl) Ext.refl)
        | some z =>
          refine ifT rfl ?_
          walk_at "e"
          refine ⟨q2, _, _, _, rfl, rfl, r1, at_vo (i := k) (by omega) rfl, ?_⟩
          walk_at "e"
          intro t ht
          refine kt _ _ (by rw [ql]; rfl) (Ext.add ht) fun D' zs hD' => ⟨t, rfl, ?_⟩
          rw [hide_ne (fun z => by rw [z, hD'] at ht; cases ht), upd_same]
          have : ov l2 k = z := by unfold ov; rw [ql]; rfl
          rw [this]
          show some (HO.tup [vi k, vo (go l2 k)]) = _
          rw [ql]
          rfl
      obtain ⟨ts2, ets2, hts2⟩ := rows_of2 (Paired.mapP hys2 fun i y ⟨t, e, h⟩ => (⟨t, e, of_hide h⟩ : ∃ t, y = V.ref t ∧ H14 t = some (.tup [vi i, vi (ov l2 i)])))
      subst ets2
      have efl : ((List.range (g * s)).filter fun k => (go l2 k).isSome) = isL l2 := by unfold isL; rw [hln2]
      rw [efl] at hts2
      have D14 := D13.ext x14
      have y14 := y13.trans x14.wide0
      have SA14 := SA13.ext x14
      refine ⟨pR (rowsK (isL l2) (ov l2)), pR (rowsK (isL l2) (ov l2)), dp_listR (x14.lst e13) (Paired.mapP hts1 fun a r h => x14.tup h), dp_listR e14 hts2, sh_R _, sh_R _, ?_⟩
      rw [eq_R]
      walk_at "e"
      refine ⟨sq, g, isL l2, ov l2, nu, rfl, SA14, by omega, hg1, by omega, isL_nd l2, So.in_, So.out, fun H15 x15 => ?_⟩
      have D15 := D14.ext x15
      have y15 := y14.trans x15.wide0
      have SA15 := SA14.ext x15
      obtain ⟨rs3, sb1, sb2, sb3⟩ := id SA15
      walk_at "e"
      intro Dc hDc
      refine lc_any hDc (src_refsT sb1 (by simp)) (fun _ => false) (fun i y H' => True) (by omega) (fun i y Ha Hb _ x => True.intro) (fun i v Hc Hd Kt Kf hi y ⟨ev, eh⟩ kt kf => ?_) fun H16 ys3 u0 x16 e16 hys3 => ?_
      · subst ev eh
        have r1 := y.tup (sb3 i (by omega))
        have hnu := So.ltm _ (gt_mem (l := isL l2) (i := i) (by omega))
        walk_at "e"
        refine ⟨ag rs3 i, _, _, _, rfl, rfl, r1, rfl, ?_⟩
        walk_at "e"
        have hd : decide (((nu (gt (isL l2) i) : Nat) : Int) < (g : Int)) = true := decide_eq_true (by omega)
        rw [hd]
        exact ifF rfl (kf _ rfl Ext.refl)
      have hys0 : ys3 = [] := by
        have hl := Paired.length hys3
        have : ((List.range rs3.length).filter fun _ => false) = [] := by simp
        rw [this] at hl
        exact List.length_eq_zero_iff.mp hl.symm
      subst hys0
      walk_at "e"
      intro q3 hq3
      generalize hH17 : L2.upd H16 q3 _ = H17
      have x17 : Ext [] H16 H17 := by rw [← hH17]; exact Ext.add hq3
      have e17 := (congrFun hH17.symm q3).trans upd_same
      refine ⟨pL [], pL [], dp_list (l := []) (x17.lst e16), dp_list (l := []) e17, sh_L _, sh_L _, ?_⟩
      have D17 := (D15.ext x16).ext x17
      have y17 := y15.trans (x16.trans x17).wide0
      walk_at "e"
      intro pt dxt hpt hdxt hnt
      have zt : Ext [] H17 (upd (upd H17 dxt (.own pt)) pt (.ins C dxt [])) := (Ext.add hdxt).new (by rw [upd_ne hnt.symm]; exact hpt)
      refine ⟨pt, dxt, g, g, s, rfl, upd_same, hg1, hg1, hs1, fun dT H18 x18 ndT ST => ⟨rfl, ?_⟩⟩
      have y18 : Ext [] H17 H18 := Ext.drop zt x18 fun b hb => by
        have : b = pt := by simpa using hb
        subst this; exact hpt
      have ndT7 : H17 dT = none := zt.dom _ ndT
      walk_at "e"
      intro pw dxw hpw hdxw hnw
      have zw : Ext [] H18 (upd (upd H18 dxw (.own pw)) pw (.ins C dxw [])) := (Ext.add hdxw).new (by rw [upd_ne hnw.symm]; exact hpw)
      refine ⟨pw, dxw, 2 * g - 1, g, s, ?_, upd_same, by omega, hg1, hs1, fun dW H19 x19 ndW SW => ⟨rfl, ?_⟩⟩
      · show [V.ref pw, V.int (2 * (g : Int) - 1), vi g, vi s] = _
        rw [show 2 * (g : Int) - 1 = ((2 * g - 1 : Nat) : Int) by omega]
        rfl
      have y19 : Ext [] H18 H19 := Ext.drop zw x19 fun b hb => by
        have : b = pw := by simpa using hb
        subst this; exact hpw
      have ndW8 : H18 dW = none := zw.dom _ ndW
      walk_at "e"
      intro dc hdc
      generalize hH20 : L2.upd H19 dc _ = H20
      have x20 : Ext [] H19 H20 := by rw [← hH20]; exact Ext.add hdc
      have e20 := (congrFun hH20.symm dc).trans upd_same
      walk_at "e"
      intro tp2 htp2
      generalize hH21 : L2.upd H20 tp2 _ = H21
      have x21 : Ext [] H20 H21 := by rw [← hH21]; exact Ext.add htp2
      have e21 := (congrFun hH21.symm tp2).trans upd_same
      have D21 := (((D17.ext y18).ext y19).ext x20).ext x21
      have y21 := y17.trans (((y18.trans y19).trans x20).trans x21).wide0
      have c21 := x21.dK e20
      walk_at "e"
      intro r22 H22 hr22 x22 D22
      have hr22 : r22 < 41 := hr22
      have b17 : Ext [] H17 H21 := ((y18.trans y19).trans x20).trans x21
      have nW7 : H17 dW = none := y18.dom _ ndW8
      have nc7 : H17 dc = none := (y18.trans y19).dom _ hdc
      obtain ⟨_, _, _, dT8, _⟩ := (ST (fun _ => 0) (fun _ => 0)).ex
      obtain ⟨_, _, _, dW9, _⟩ := (SW (fun _ => 0) (fun _ => 0)).ex
      have neTW : dT ≠ dW := fun z => by rw [z, ndW8] at dT8; cases dT8
      have neT : dc ≠ dT := fun z => by rw [z, y19.dK dT8] at hdc; cases hdc
      have neW : dc ≠ dW := fun z => by rw [z, dW9] at hdc; cases hdc
      have nbT : dT ≠ b := fun z => by
        obtain ⟨d0, d1, d2, e⟩ := D17.ext y18
        rw [z, e] at dT8; cases dT8
      have sound0 : ∀ m, Sound m g s [] (fun _ => 0) (fun _ => 0) := fun m => ⟨List.nodup_nil, fun _ h => (nomatch h), fun _ h => (nomatch h), fun _ h => (nomatch h), fun _ h => (nomatch h), fun _ h => (nomatch h), fun _ h => (nomatch h)⟩
      have L21 : LInv C H21 pt dT pw dW dc g s [] (fun _ => 0) (fun _ => 0) (fun _ => 0) := ⟨((ST _ _).ext y19).ext (x20.trans x21), sound0 _, (SW _ _).ext (x20.trans x21), sound0 _, c21⟩
      have L22 := L21.extB x22 D21
      walk_at "e"
      refine for_any (src_rngN (n := r22)) (W := [b]) (Hs := H17) (fun i σ H' => Ext [b] H17 H' ∧ ∃ (ks : List Nat) (ot nuT nuW : Nat → Nat) (dcur : Addr) (o10 o11 o12 o13 : Option V),
        σ = [some (.ref a), some (.ref b), some (vi (2 ^ (c + 1))), some (.ref q2), some (vi g), some (vi s), some (.ref sq), some (.ref pt), some (.ref pw), some (.ref dcur), o10, o11, o12, o13, none, none] ∧ DiceAt H' b ∧
        LInv C H' pt dT pw dW dcur g s ks ot nuT nuW ∧ H17 dcur = none ∧ dcur ≠ dT ∧ dcur ≠ dW) ⟨b17.wide0.trans x22, [], _, _, _, dc, none, none, none, none, rfl, D22, L22, nc7, neT, neW⟩ (fun i σ H' h => h.1) ?_ ?_
      · rintro i v σ Ha Hb hi ⟨xL, ks, ot, nuT, nuW, dcur, o10, o11, o12, o13, rfl, DL, L, nc, ne1, ne2⟩ ⟨ev, eh⟩
        subst ev eh
        walk_at "e"
        intro one H23 h1 x23 D23
        walk_at "e"
        intro other H24 h2 x24 D24
        have h1 : one < g * s := h1
        have h2 : other < g * s := h2
        walk_at "e"
        intro tp3 htp3
        generalize hH25 : L2.upd H24 tp3 _ = H25
        have x25 : Ext [] H24 H25 := by rw [← hH25]; exact Ext.add htp3
        have e25 : H25 tp3 = some (.tup [vi one, vi other]) := (congrFun hH25.symm tp3).trans upd_same
        have D25 := D24.ext x25
        have L25 := ((L.extB x23 DL).extB x24 D23).ext x25
        have xL5 := ((xL.trans x23).trans x24).trans x25.wide0
        have hkl : ks.length ≤ g * s := by
          have := pigeon (m := List.range (g * s)) L.ST.nd fun x hx => List.mem_range.mpr (L.ST.lt1 x hx)
          simpa using this
        clear L D24 DL hH25
        obtain ⟨dxT, adT, pT5, dT5, _⟩ := id L25.T
        obtain ⟨dxW, adW, pW5, dW5, _⟩ := id L25.W
        walk_at "e"
        refine ⟨dcur, _, rfl, DGet.k (k := Sum.inl ((one : Nat) : Int)) L25.cur, ?_⟩
        by_cases hin : one ∈ ks
        · rw [cd_get hin L25.ST.nd]
          walk_at "e"
          refine ⟨pt, dxT, _, rfl, pT5, clf_meth, ?_⟩
          walk_at "e"
          refine ⟨pt, dT, g, g, s, one, ks, ot, nuT, rfl, L25.T, L25.ST.nd, hin, fun H26 x26 T26 => ?_⟩
          have hwT : ∀ w ∈ [dT], (∃ kv, H25 w = some (.dK kv)) ∨ ∃ xs, H25 w = some (.lst xs) := fun w hw => by
            have : w = dT := by simpa using hw
            subst this
            exact .inl ⟨_, dT5⟩
          have W26 := L25.W.extW x26 (by simp [neTW.symm]) hwT
          have c26 := x26.at_ _ _ L25.cur nt_dK (by simp [ne1])
          obtain ⟨dxW6, adW6, pW6, dW6, _⟩ := id W26
          obtain ⟨d0, d1, d2, ed25⟩ := id D25
          have ed26 := x26.at_ _ _ ed25 nt_lst (by simp [nbT.symm])
          walk_at "e"
          refine ⟨pw, dxW6, _, rfl, pW6, clf_meth, ?_⟩
          walk_at "e"
          refine ⟨pw, dW, 2 * g - 1, g, s, one, ks, ot, nuW, rfl, W26, L25.SW.nd, hin, fun H27 x27 W27 => ?_⟩
          have hwW : ∀ w ∈ [dW], (∃ kv, H26 w = some (.dK kv)) ∨ ∃ xs, H26 w = some (.lst xs) := fun w hw => by
            have : w = dW := by simpa using hw
            subst this
            exact .inl ⟨_, dW6⟩
          have T27 := T26.extW x27 (by simp [neTW]) hwW
          have c27 := x27.at_ _ _ c26 nt_dK (by simp [ne2])
          have nbW : b ≠ dW := fun z => by rw [← z, ed26] at dW6; cases dW6
          have ed27 := x27.at_ _ _ ed26 nt_lst (by simp [nbW])
          have xL7 := (xL5.dropW x26 fun w hw => .inl (by
            have : w = dT := by simpa using hw
            subst this; exact ndT7)).dropW x27 fun w hw => .inl (by
            have : w = dW := by simpa using hw
            subst this; exact nW7)
          walk_at "e"
          refine ⟨dcur, _, c27, trivial, fun od => ?_⟩
          walk_at "e"
          refine ⟨dcur, od, rfl, .inl ⟨_, upd_same, ?_⟩⟩
          intro Dn hDn
          refine lc_any hDn (src_keysC upd_same (by simp)) (fun i => decide (gt ks i ≠ one)) (fun i y H => ∃ t, y = .ref t ∧ H t = some (.tup [vi (gt ks i), vi (ot (gt ks i))])) (by omega) (fun i y Ha Hb ⟨t, e, h⟩ x => ⟨t, e, x.tup h⟩) (fun i v Hc Hd Kt Kf hi y ⟨ev, eh⟩ kt kf => ?_) fun H28 ys z0 x28 e28 hys => ?_
          · subst ev eh
            have rd := y.at_ dcur _ upd_same nt_frz (by simp)
            have hki := gt_mem (l := ks) (i := i) (by omega)
            walk_at "e"
            refine ifB (fun hb => ?_) (fun hb => ?_)
            · have hb' : (!decide (vi (gt ks i) = vi one)) = true := hb
              have hne : gt ks i ≠ one := fun z => by
                rw [z] at hb'
                simp at hb'
              walk_at "e"
              refine ⟨dcur, _, rfl, .inl ⟨_, Sum.inl ((gt ks i : Nat) : Int), .inr ⟨_, rd⟩, rfl, (cd_get hki L25.ST.nd).symm⟩, ?_⟩
              walk_at "e"
              intro t ht
              refine kt _ _ (decide_eq_true hne) (Ext.add ht) fun D' zs hD' => ⟨t, rfl, ?_⟩
              rw [hide_ne (fun z => by rw [z, hD'] at ht; cases ht), upd_same]
            · have hb' : (!decide (vi (gt ks i) = vi one)) = false := hb
              have hne : gt ks i = one := by
                have q : decide (vi (gt ks i) = vi one) = true := by
                  cases h : decide (vi (gt ks i) = vi one) with
                  | true => rfl
                  | false => rw [h] at hb'; cases hb'
                have := V.int.inj (of_decide_eq_true q)
                omega
              exact kf _ (decide_eq_false (fun z => z hne)) Ext.refl
          · have fr28 := x28.at_ dcur _ upd_same nt_frz (by simp)
            refine ⟨fr28, ?_⟩
            have xu := Ext.unlock c27 nt_dK x28
            have nDd : Dn ≠ dcur := fun z => by rw [z, upd_same] at hDn; cases hDn
            generalize hH29 : L2.upd H28 dcur _ = H29 at xu ⊢
            have e29 : H29 Dn = some (.lst ys) := by rw [← hH29, upd_ne nDd]; exact e28
            obtain ⟨ts, ets, hpr⟩ := cd_pairs (K := K) (H := H29) (q := fun x => decide (x ≠ one)) (Paired.mapP hys fun i y ⟨t, e, h⟩ => (⟨t, e, by
              have h' := of_hide h
              rw [← hH29, upd_ne (fun z => by rw [z, fr28] at h'; cases h')]
              exact h'⟩ : ∃ t, y = V.ref t ∧ H29 t = some (.tup [vi (gt ks i), vi (ot (gt ks i))])))
            subst ets
            have T29 := T27.ext xu
            have W29 := W27.ext xu
            obtain ⟨_, _, _, dT29, _⟩ := id T29
            obtain ⟨_, _, _, dW29, _⟩ := id W29
            walk_at "e"
            refine ⟨Dn, ts, cd (ks.filter fun x => decide (x ≠ one)) ot, rfl, .of e29, hpr, fun dd hdd => ?_⟩
            rw [cd_merge (L25.ST.nd.filter _)]
            generalize hH30 : L2.upd H29 dd _ = H30
            have x30 : Ext [] H29 H30 := by rw [← hH30]; exact Ext.add hdd
            have c30 := (congrFun hH30.symm dd).trans upd_same
            have L30 : LInv C H30 pt dT pw dW dd g s (ks.filter fun x => decide (x ≠ one)) ot nuT nuW := ⟨T29.ext x30, sound_drop L25.ST _, W29.ext x30, sound_drop L25.SW _, c30⟩
            exact chk_ok L30 hg1 hg6 hs1 hs8 fun o13 H' xz => ⟨(xL7.trans ((xu.trans x30).trans xz).wide0), _, _, _, _, dd, _, _, _, o13, rfl, ⟨d0, d1, d2, ((xu.trans x30).trans xz).lst ed27⟩, L30.ext xz, (xL7.trans xu.wide0).dom _ hdd, (fun z => by rw [z, dT29] at hdd; cases hdd), (fun z => by rw [z, dW29] at hdd; cases hdd)⟩
        · rw [cd_none hin]
          walk_at "e"
          refine ⟨dcur, _, L25.cur, trivial, fun od => ?_⟩
          walk_at "e"
          refine ⟨dcur, od, rfl, .inl ⟨_, upd_same, ?_⟩⟩
          intro Dn hDn
          refine lc_all hDn (src_keysC upd_same (by simp)) (fun i => vi (ot (gt ks i))) (by omega) (fun i v Hc Hd Kt hi y ⟨ev, eh⟩ kt => ?_) (fun v σ H Q Q' i h => i _ _ h) fun H26 x0 x26 e26 => ?_
          · subst ev eh
            have rd := y.at_ dcur _ upd_same nt_frz (by simp)
            have hki := gt_mem (l := ks) (i := i) (by omega)
            walk_at "e"
            refine ⟨dcur, _, rfl, .inl ⟨_, Sum.inl ((gt ks i : Nat) : Int), .inr ⟨_, rd⟩, rfl, (cd_get hki L25.ST.nd).symm⟩, ?_⟩
            exact kt _ Ext.refl
          · refine ⟨x26.at_ dcur _ upd_same nt_frz (by simp), ?_⟩
            have xu := Ext.unlock L25.cur nt_dK x26
            have nDd : Dn ≠ dcur := fun z => by rw [z, upd_same] at hDn; cases hDn
            have e26' : H26 Dn = some (.lst ((ks.map ot).map vi)) := by
              rw [e26, all_map ks (fun y => vi (ot y)), List.map_map]; rfl
            generalize hH27 : L2.upd H26 dcur _ = H27 at xu ⊢
            have e27 : H27 Dn = some (.lst ((ks.map ot).map vi)) := by rw [← hH27, upd_ne nDd]; exact e26'
            have L27 := L25.ext xu
            have D27 := D25.ext xu
            have xL7 := xL5.trans xu.wide0
            refine ⟨Dn, _, rfl, .inl e27, rfl, flat_vi _, ?_⟩
            by_cases hb : ∃ k ∈ ks, ot k = other
            · have hv : inV (vi other) ((ks.map ot).map vi) = true := by
                obtain ⟨k0, hk1, hk2⟩ := hb
                unfold inV
                rw [List.any_eq_true]
                exact ⟨vi other, List.mem_map.mpr ⟨other, List.mem_map.mpr ⟨k0, hk1, hk2⟩, rfl⟩, by show decide ((other : Int) = (other : Int)) = true; simp⟩
              rw [hv]
              refine ⟨_, rfl, ?_⟩
              refine ifF rfl ?_
              exact chk_ok L27 hg1 hg6 hs1 hs8 fun o13 H' xz => ⟨xL7.trans xz.wide0, _, _, _, _, dcur, _, _, _, o13, rfl, D27.ext xz, L27.ext xz, nc, ne1, ne2⟩
            · have hv : inV (vi other) ((ks.map ot).map vi) = false := by
                unfold inV
                rw [List.any_eq_false]
                intro y hy
                obtain ⟨z, hz, rfl⟩ := List.mem_map.mp hy
                obtain ⟨k', hk', rfl⟩ := List.mem_map.mp hz
                have : ot k' ≠ other := fun w => hb ⟨k', hk', w⟩
                show ¬ decide ((ot k' : Int) = (other : Int)) = true
                simp; omega
              rw [hv]
              refine ⟨_, rfl, ?_⟩
              refine ifT rfl ?_
              walk_at "e"
              refine ⟨dcur, _, rfl, DPut.k (k := Sum.inl ((one : Nat) : Int)) L27.cur (by rw [cd_len]; exact sl_lt (by omega)), ?_⟩
              rw [cd_put hin]
              generalize hH28 : L2.upd H27 dcur _ = H28
              have x28 : Ext [dcur] H27 H28 := by rw [← hH28]; exact Ext.refl.wr (.inr (by simp)) L27.cur nt_dK
              have c28 := (congrFun hH28.symm dcur).trans upd_same
              have hwC : ∀ w ∈ [dcur], (∃ kv, H27 w = some (.dK kv)) ∨ ∃ xs, H27 w = some (.lst xs) := fun w hw => by
                have : w = dcur := by simpa using hw
                subst this
                exact .inl ⟨_, L27.cur⟩
              have T28 := L27.T.extW x28 (by simp [ne1.symm]) hwC
              have W28 := L27.W.extW x28 (by simp [ne2.symm]) hwC
              obtain ⟨d0, d1, d2, ed27⟩ := id D27
              have nbC : b ≠ dcur := fun z => by
                have q := L27.cur
                rw [← z, ed27] at q; cases q
              have ed28 := x28.at_ _ _ ed27 nt_lst (by simp [nbC])
              have xL8 := xL7.dropW x28 fun w hw => .inl (by
                have : w = dcur := by simpa using hw
                subst this; exact nc)
              have hot : ∀ k ∈ ks, ot k ≠ other := fun k hk z => hb ⟨k, hk, z⟩
              obtain ⟨dxT8, _, pT8, dT28, _⟩ := id T28
              walk_at "e"
              refine ⟨pt, dxT8, _, rfl, pT8, clf_meth, ?_⟩
              walk_at "e"
              refine ⟨pt, dT, g, g, s, one, other, ks, ot, nuT, rfl, T28, L27.ST, hg1, by omega, Nat.le_refl _, by omega, by omega, h1, h2, hin, hot, fun nuT' v H29 x29 T29 ST29 _ => ?_⟩
              have hwT : ∀ w ∈ [dT], (∃ kv, H28 w = some (.dK kv)) ∨ ∃ xs, H28 w = some (.lst xs) := fun w hw => by
                have : w = dT := by simpa using hw
                subst this
                exact .inl ⟨_, dT28⟩
              have W29 := W28.extW x29 (by simp [neTW.symm]) hwT
              have c29 := x29.at_ _ _ c28 nt_dK (by simp [ne1])
              have ed29 := x29.at_ _ _ ed28 nt_lst (by simp [nbT.symm])
              have xL9 := xL8.dropW x29 fun w hw => .inl (by
                have : w = dT := by simpa using hw
                subst this; exact ndT7)
              obtain ⟨dxW9, _, pW9, dW29, _⟩ := id W29
              have nbW : b ≠ dW := fun z => by rw [← z, ed29] at dW29; cases dW29
              walk_at "e"
              refine ⟨pw, dxW9, _, rfl, pW9, clf_meth, ?_⟩
              walk_at "e"
              refine ⟨pw, dW, 2 * g - 1, g, s, one, other, ks, ot, nuW, rfl, W29, L27.SW, hg1, by omega, by omega, by omega, by omega, h1, h2, hin, hot, fun nuW' v2 H30 x30 W30 SW30 hv2 => ?_⟩
              obtain ⟨qv, rfl, eqv⟩ := hv2 (Nat.le_refl _)
              have hwW : ∀ w ∈ [dW], (∃ kv, H29 w = some (.dK kv)) ∨ ∃ xs, H29 w = some (.lst xs) := fun w hw => by
                have : w = dW := by simpa using hw
                subst this
                exact .inl ⟨_, dW29⟩
              have T30 := T29.extW x30 (by simp [neTW]) hwW
              have c30 := x30.at_ _ _ c29 nt_dK (by simp [ne2])
              have ed30 := x30.at_ _ _ ed29 nt_lst (by simp [nbW])
              have xL10 := xL9.dropW x30 fun w hw => .inl (by
                have : w = dW := by simpa using hw
                subst this; exact nW7)
              walk_at "e"
              intro q9 hq9
              generalize hH31 : L2.upd H30 q9 _ = H31
              have x31 : Ext [] H30 H31 := by rw [← hH31]; exact Ext.add hq9
              have e31 := (congrFun hH31.symm q9).trans upd_same
              refine ⟨pT [], pT [], dp_tup (l := []) (x31.tup eqv), dp_tup (l := []) e31, sh_T _, sh_T _, ?_⟩
              refine ⟨_, rfl, ?_⟩
              refine ifF rfl ?_
              have L31 : LInv C H31 pt dT pw dW dcur g s (ks ++ [one]) (fset ot one other) nuT' nuW' := ⟨T30.ext x31, ST29, W30.ext x31, SW30, x31.dK c30⟩
              exact chk_ok L31 hg1 hg6 hs1 hs8 fun o13 H' xz => ⟨xL10.trans (x31.trans xz).wide0, _, _, _, _, dcur, _, _, _, o13, rfl, ⟨d0, d1, d2, (x31.trans xz).lst ed30⟩, L31.ext xz, nc, ne1, ne2⟩
      · rintro σ H' ⟨xL, _⟩
        refine ⟨(y17.dropW xL (by simp)), fun h => absurd h (by omega)⟩
    · rintro σ H' _
      exact k H'
end
end CL
set_option Elab.async false
set_option linter.all false
set_option maxRecDepth 100000
set_option maxHeartbeats 4000000
namespace CL
open PySem PySem.Spec PyProof.Rows L2 RX

section
variable {P : Program} {w : World} {K : PySem.W.Frag} {mg : Str → Option Value} {base : Heap}
structure DefAt (K : PySem.W.Frag) (mg : Str → Option Value) (x : Str) (st : Stmt) : Prop where
  ex : ∃ (f : Addr) (fd : FuncData), mg x = some (.ref f) ∧ Fun K x x st f fd
structure DefC (K : PySem.W.Frag) (mg : Str → Option Value) (x : Str) (st : Stmt) (c : Addr) : Prop where
  ex : ∃ (f : Addr) (fd : FuncData), mg x = some (.ref f) ∧ Fun K x x st f fd ∧ fd.code = .ref c
structure MetAt (K : PySem.W.Frag) (C : Addr) (m qual : Str) (st : Stmt) : Prop where
  ex : ∃ (f : Addr) (fd : FuncData), PySem.W.findIn K (.ref C) m = some (some (.ref f)) ∧ PySem.W.isFn K (.ref f) = true ∧ Fun K m qual st f fd
structure MetC (K : PySem.W.Frag) (C : Addr) (m qual : Str) (st : Stmt) (c : Addr) : Prop where
  ex : ∃ (f : Addr) (fd : FuncData), PySem.W.findIn K (.ref C) m = some (some (.ref f)) ∧ PySem.W.isFn K (.ref f) = true ∧ Fun K m qual st f fd ∧ fd.code = .ref c
theorem fnOk_false {k : Nat} {f : Addr} {fd : FuncData} {ps : List Str} : FnOk P w K mg base CX0 k f fd ps (fun _ _ _ _ => False) := ⟨fun _ _ _ _ h => h.elim, fun _ _ _ _ _ _ _ _ _ _ _ _ _ h => h.elim⟩
def clsAt (mg : Str → Option Value) (K : PySem.W.Frag) (x : Str) (C : Addr) : Prop := mg x = some (.ref C) ∧ PySem.W.makesIn K C = true ∧ PySem.W.keepIn K (.ref C) = true
end

theorem join {P : Program} {w : World} {K : PySem.W.Frag} {mg : Str → Option Value} {base : Heap} {CN CC CS cPC cPN cPK cPA PC PN PK PA f : Addr} {fd : FuncData}
    (B : Bts mg)
    (hCN : clsAt mg K "Net" CN) (T_Net : ClF K CN ["many", "wires"])
    (hCC : clsAt mg K "Calls" CC) (T_Calls : ClF K CC ["calls", "left", "right", "colours"])
    (hCS : clsAt mg K "Clos" CS) (T_Clos : ClF K CS ["middle", "gates", "switches", "calls"])
    (TB_PC : LamX.TabB base mg cPC PC)
    (TB_PN : LamX.TabB base mg cPN PN)
    (TB_PK : LamX.TabB base mg cPK PK)
    (TB_PA : LamX.TabB base mg cPA PA)
    (d_Calls___init : MetC K CC "__init__" "Calls.__init__" s_Calls___init cPA)
    (d_Calls_at : MetAt K CC "at" "Calls.at" s_Calls_at)
    (d_Calls_first_free : MetAt K CC "first_free" "Calls.first_free" s_Calls_first_free)
    (d_Calls_exchange : MetAt K CC "exchange" "Calls.exchange" s_Calls_exchange)
    (d_Calls_colour : MetAt K CC "colour" "Calls.colour" s_Calls_colour)
    (d_assigned : DefAt K mg "assigned" s_assigned)
    (d_Clos___init : MetAt K CS "__init__" "Clos.__init__" s_Clos___init)
    (d_Clos_size : MetAt K CS "size" "Clos.size" s_Clos_size)
    (d_Clos_check : MetAt K CS "check" "Clos.check" s_Clos_check)
    (d_Clos_ends : MetAt K CS "ends" "Clos.ends" s_Clos_ends)
    (d_Clos_used_in : MetAt K CS "used_in" "Clos.used_in" s_Clos_used_in)
    (d_Clos_used_out : MetAt K CS "used_out" "Clos.used_out" s_Clos_used_out)
    (d_Clos_free_middle : MetAt K CS "free_middle" "Clos.free_middle" s_Clos_free_middle)
    (d_Clos_put_by : MetAt K CS "put_by" "Clos.put_by" s_Clos_put_by)
    (d_carried_net : DefAt K mg "carried_net" s_carried_net)
    (d_check_pairing : DefC K mg "check_pairing" s_check_pairing cPC)
    (d_filled : DefAt K mg "filled" s_filled)
    (d_turned_over : DefAt K mg "turned_over" s_turned_over)
    (d_partner : DefAt K mg "partner" s_partner)
    (d_halves_of : DefAt K mg "halves_of" s_halves_of)
    (d_in_halves : DefAt K mg "in_halves" s_in_halves)
    (d_is_full : DefAt K mg "is_full" s_is_full)
    (d_law_dice : DefAt K mg "_law_dice" s_law_dice)
    (d_law_rounds : DefAt K mg "_law_rounds" s_law_rounds)
    (d_law_roll : DefAt K mg "_law_roll" s_law_roll)
    (d_law_part : DefAt K mg "_law_part" s_law_part)
    (d_logarithm : DefAt K mg "logarithm" s_logarithm)
    (d_plain_wires : DefAt K mg "plain_wires" s_plain_wires)
    (d_parted_wires : DefAt K mg "parted_wires" s_parted_wires)
    (d_Net___init : MetC K CN "__init__" "Net.__init__" s_Net___init cPN)
    (d_net_of : DefAt K mg "net_of" s_net_of)
    (d_settings_for : DefAt K mg "settings_for" s_settings_for)
    (d_Net_stages : MetAt K CN "stages" "Net.stages" s_Net_stages)
    (d_Net_check : MetC K CN "check" "Net.check" s_Net_check cPK)
    (d_Net_way : MetAt K CN "way" "Net.way" s_Net_way)
    (d_law_carried : DefAt K mg "_law_carried" s_law_carried)
    (d_law_apart : DefAt K mg "_law_apart" s_law_apart)
    (d_Clos_shown : MetAt K CS "shown" "Clos.shown" s_Clos_shown)
    (d_Clos_end : MetAt K CS "end" "Clos.end" s_Clos_end)
    (d_Clos_at : MetAt K CS "at" "Clos.at" s_Clos_at)
    (d_Clos_exchange : MetAt K CS "exchange" "Clos.exchange" s_Clos_exchange)
    (d_Clos_put_moving : MetAt K CS "put_moving" "Clos.put_moving" s_Clos_put_moving)
    (d_Clos_is_sound : MetAt K CS "is_sound" "Clos.is_sound" s_Clos_is_sound)
    (F : Fun K "law" "law" s_law f fd) :
    FnOk P w K mg base CX0 14 f fd ["script"] (spLaw K PC PN PK PA) := by
  have K_Calls : MkF P w K mg base "Calls" CC 4 ["self", "calls", "left", "right"] (spCallsI CC PA) := by
    obtain ⟨f, fd, h1, h2, F, hc⟩ := d_Calls___init.ex
    exact ⟨hCC.1, f, fd, ⟨hCC.2.1, h1, h2, hCC.2.2⟩, F.binds (ps := ["self", "calls", "left", "right"]) (fun _ _ _ _ _ _ us hl => match us, hl with | [_, _, _, _], _ => rfl), ok_callsi F hc TB_PA B T_Calls⟩
  have M_Calls_at : MtF P w K mg base CC "at" 1 ["self", "side", "gate", "colour"] (spAt CC) := by
    obtain ⟨f, fd, h1, h2, F⟩ := d_Calls_at.ex
    exact ⟨T_Calls.cl, f, fd, ⟨h1, h2, F.kp⟩, F.binds (ps := ["self", "side", "gate", "colour"]) (fun _ _ _ _ _ _ us hl => match us, hl with | [_, _, _, _], _ => rfl), ok_at F B T_Calls⟩
  have M_Calls_first_free : MtF P w K mg base CC "first_free" 2 ["self", "side", "gate", "many"] (spFree CC) := by
    obtain ⟨f, fd, h1, h2, F⟩ := d_Calls_first_free.ex
    exact ⟨T_Calls.cl, f, fd, ⟨h1, h2, F.kp⟩, F.binds (ps := ["self", "side", "gate", "many"]) (fun _ _ _ _ _ _ us hl => match us, hl with | [_, _, _, _], _ => rfl), ok_free F B M_Calls_at⟩
  have M_Calls_exchange : MtF P w K mg base CC "exchange" 2 ["self", "start", "here", "other"] (spExch CC) := by
    obtain ⟨f, fd, h1, h2, F⟩ := d_Calls_exchange.ex
    exact ⟨T_Calls.cl, f, fd, ⟨h1, h2, F.kp⟩, F.binds (ps := ["self", "start", "here", "other"]) (fun _ _ _ _ _ _ us hl => match us, hl with | [_, _, _, _], _ => rfl), ok_exch F B T_Calls M_Calls_at⟩
  have M_Calls_colour : MtF P w K mg base CC "colour" 3 ["self", "number", "many"] (spColour CC) := by
    obtain ⟨f, fd, h1, h2, F⟩ := d_Calls_colour.ex
    exact ⟨T_Calls.cl, f, fd, ⟨h1, h2, F.kp⟩, F.binds (ps := ["self", "number", "many"]) (fun _ _ _ _ _ _ us hl => match us, hl with | [_, _, _], _ => rfl), ok_colour F B T_Calls M_Calls_at M_Calls_first_free M_Calls_exchange⟩
  have G_assigned : FnF P w K mg base "assigned" 6 ["pairs", "gates"] (spAsg PA) := by
    obtain ⟨f, fd, h1, F⟩ := d_assigned.ex
    exact ⟨f, fd, h1, F.kp, F.binds (ps := ["pairs", "gates"]) (fun _ _ _ _ _ _ us hl => match us, hl with | [_, _], _ => rfl), ok_asg F B T_Calls K_Calls M_Calls_colour⟩
  have K_Clos : MkF P w K mg base "Clos" CS 1 ["self", "middle", "gates", "switches"] (spClosI CS) := by
    obtain ⟨f, fd, h1, h2, F⟩ := d_Clos___init.ex
    exact ⟨hCS.1, f, fd, ⟨hCS.2.1, h1, h2, hCS.2.2⟩, F.binds (ps := ["self", "middle", "gates", "switches"]) (fun _ _ _ _ _ _ us hl => match us, hl with | [_, _, _, _], _ => rfl), ok_closi F T_Clos⟩
  have M_Clos_size : MtF P w K mg base CS "size" 1 ["self"] (spSize CS) := by
    obtain ⟨f, fd, h1, h2, F⟩ := d_Clos_size.ex
    exact ⟨T_Clos.cl, f, fd, ⟨h1, h2, F.kp⟩, F.binds (ps := ["self"]) (fun _ _ _ _ _ _ us hl => match us, hl with | [_], _ => rfl), ok_size F T_Clos⟩
  have M_Clos_check : MtF P w K mg base CS "check" 2 ["self", "one", "other"] (spClosK CS) := by
    obtain ⟨f, fd, h1, h2, F⟩ := d_Clos_check.ex
    exact ⟨T_Clos.cl, f, fd, ⟨h1, h2, F.kp⟩, F.binds (ps := ["self", "one", "other"]) (fun _ _ _ _ _ _ us hl => match us, hl with | [_, _, _], _ => rfl), ok_closk F T_Clos M_Clos_size⟩
  have M_Clos_ends : MtF P w K mg base CS "ends" 1 ["self", "one", "other"] (spEnds CS) := by
    obtain ⟨f, fd, h1, h2, F⟩ := d_Clos_ends.ex
    exact ⟨T_Clos.cl, f, fd, ⟨h1, h2, F.kp⟩, F.binds (ps := ["self", "one", "other"]) (fun _ _ _ _ _ _ us hl => match us, hl with | [_, _, _], _ => rfl), ok_ends F T_Clos⟩
  have M_Clos_used_in : MtF P w K mg base CS "used_in" 1 ["self", "switch"] (spUsed CS fun _ k => k) := by
    obtain ⟨f, fd, h1, h2, F⟩ := d_Clos_used_in.ex
    exact ⟨T_Clos.cl, f, fd, ⟨h1, h2, F.kp⟩, F.binds (ps := ["self", "switch"]) (fun _ _ _ _ _ _ us hl => match us, hl with | [_, _], _ => rfl), ok_usedin F B T_Clos⟩
  have M_Clos_used_out : MtF P w K mg base CS "used_out" 1 ["self", "switch"] (spUsed CS fun ot k => ot k) := by
    obtain ⟨f, fd, h1, h2, F⟩ := d_Clos_used_out.ex
    exact ⟨T_Clos.cl, f, fd, ⟨h1, h2, F.kp⟩, F.binds (ps := ["self", "switch"]) (fun _ _ _ _ _ _ us hl => match us, hl with | [_, _], _ => rfl), ok_usedout F B T_Clos⟩
  have M_Clos_free_middle : MtF P w K mg base CS "free_middle" 2 ["self", "one", "other"] (spFreeM CS) := by
    obtain ⟨f, fd, h1, h2, F⟩ := d_Clos_free_middle.ex
    exact ⟨T_Clos.cl, f, fd, ⟨h1, h2, F.kp⟩, F.binds (ps := ["self", "one", "other"]) (fun _ _ _ _ _ _ us hl => match us, hl with | [_, _, _], _ => rfl), ok_freem F B T_Clos M_Clos_ends M_Clos_used_in M_Clos_used_out⟩
  have M_Clos_put_by : MtF P w K mg base CS "put_by" 3 ["self", "one", "other", "number"] (spPutBy CS) := by
    obtain ⟨f, fd, h1, h2, F⟩ := d_Clos_put_by.ex
    exact ⟨T_Clos.cl, f, fd, ⟨h1, h2, F.kp⟩, F.binds (ps := ["self", "one", "other", "number"]) (fun _ _ _ _ _ _ us hl => match us, hl with | [_, _, _, _], _ => rfl), ok_putby F T_Clos M_Clos_check M_Clos_free_middle⟩
  have G_carried_net : FnF P w K mg base "carried_net" 7 ["pairs", "middle", "gates"] (spCarriedN CS PA) := by
    obtain ⟨f, fd, h1, F⟩ := d_carried_net.ex
    exact ⟨f, fd, h1, F.kp, F.binds (ps := ["pairs", "middle", "gates"]) (fun _ _ _ _ _ _ us hl => match us, hl with | [_, _, _], _ => rfl), ok_carried F B T_Clos K_Clos M_Clos_put_by G_assigned⟩
  have G_check_pairing : FnF P w K mg base "check_pairing" 4 ["pairs", "many"] (spCheckP PC) := by
    obtain ⟨f, fd, h1, F, hc⟩ := d_check_pairing.ex
    exact ⟨f, fd, h1, F.kp, F.binds (ps := ["pairs", "many"]) (fun _ _ _ _ _ _ us hl => match us, hl with | [_, _], _ => rfl), ok_checkp F hc TB_PC B⟩
  have G_filled : FnF P w K mg base "filled" 1 ["pairs"] spFilled := by
    obtain ⟨f, fd, h1, F⟩ := d_filled.ex
    exact ⟨f, fd, h1, F.kp, F.binds (ps := ["pairs"]) (fun _ _ _ _ _ _ us hl => match us, hl with | [_], _ => rfl), ok_filled F B⟩
  have G_turned_over : FnF P w K mg base "turned_over" 1 ["pairs"] spTurn := by
    obtain ⟨f, fd, h1, F⟩ := d_turned_over.ex
    exact ⟨f, fd, h1, F.kp, F.binds (ps := ["pairs"]) (fun _ _ _ _ _ _ us hl => match us, hl with | [_], _ => rfl), ok_turn F B⟩
  have G_partner : FnF P w K mg base "partner" 1 ["gate"] spPartner := by
    obtain ⟨f, fd, h1, F⟩ := d_partner.ex
    exact ⟨f, fd, h1, F.kp, F.binds (ps := ["gate"]) (fun _ _ _ _ _ _ us hl => match us, hl with | [_], _ => rfl), ok_partner F⟩
  have G_halves_of : FnF P w K mg base "halves_of" 2 ["pairs"] spHalf := by
    obtain ⟨f, fd, h1, F⟩ := d_halves_of.ex
    exact ⟨f, fd, h1, F.kp, F.binds (ps := ["pairs"]) (fun _ _ _ _ _ _ us hl => match us, hl with | [_], _ => rfl), ok_half F B G_turned_over G_partner⟩
  have G_in_halves : FnF P w K mg base "in_halves" 1 ["one", "other"] spHalves2 := by
    obtain ⟨f, fd, h1, F⟩ := d_in_halves.ex
    exact ⟨f, fd, h1, F.kp, F.binds (ps := ["one", "other"]) (fun _ _ _ _ _ _ us hl => match us, hl with | [_, _], _ => rfl), ok_inhalves F B⟩
  have G_is_full : FnF P w K mg base "is_full" 1 ["pairs"] spFull := by
    obtain ⟨f, fd, h1, F⟩ := d_is_full.ex
    exact ⟨f, fd, h1, F.kp, F.binds (ps := ["pairs"]) (fun _ _ _ _ _ _ us hl => match us, hl with | [_], _ => rfl), ok_full F⟩
  have G_law_dice : FnF P w K mg base "_law_dice" 1 ["cell"] spDice := by
    obtain ⟨f, fd, h1, F⟩ := d_law_dice.ex
    exact ⟨f, fd, h1, F.kp, F.binds (ps := ["cell"]) (fun _ _ _ _ _ _ us hl => match us, hl with | [_], _ => rfl), ok_dice F B⟩
  have G_law_rounds : FnF P w K mg base "_law_rounds" 2 ["script", "most"] (spRounds K) := by
    obtain ⟨f, fd, h1, F⟩ := d_law_rounds.ex
    exact ⟨f, fd, h1, F.kp, F.binds (ps := ["script", "most"]) (fun _ _ _ _ _ _ us hl => match us, hl with | [_, _], _ => rfl), ok_rounds F B G_law_dice⟩
  have G_law_roll : FnF P w K mg base "_law_roll" 1 ["dice", "many"] spRoll := by
    obtain ⟨f, fd, h1, F⟩ := d_law_roll.ex
    exact ⟨f, fd, h1, F.kp, F.binds (ps := ["dice", "many"]) (fun _ _ _ _ _ _ us hl => match us, hl with | [_, _], _ => rfl), ok_roll F B⟩
  have G_law_part : FnF P w K mg base "_law_part" 2 ["dice", "many"] spPart := by
    obtain ⟨f, fd, h1, F⟩ := d_law_part.ex
    exact ⟨f, fd, h1, F.kp, F.binds (ps := ["dice", "many"]) (fun _ _ _ _ _ _ us hl => match us, hl with | [_, _], _ => rfl), ok_part F B G_law_roll⟩
  have G_logarithm : FnF P w K mg base "logarithm" 1 ["many"] spLog := by
    obtain ⟨f, fd, h1, F⟩ := d_logarithm.ex
    exact ⟨f, fd, h1, F.kp, F.binds (ps := ["many"]) (fun _ _ _ _ _ _ us hl => match us, hl with | [_], _ => rfl), ok_log F⟩
  have G_plain_wires : FnF P w K mg base "plain_wires" 1 ["many"] spPlain := by
    obtain ⟨f, fd, h1, F⟩ := d_plain_wires.ex
    exact ⟨f, fd, h1, F.kp, F.binds (ps := ["many"]) (fun _ _ _ _ _ _ us hl => match us, hl with | [_], _ => rfl), ok_plain F B⟩
  have G_parted_wires : FnF P w K mg base "parted_wires" 1 ["many"] spParted := by
    obtain ⟨f, fd, h1, F⟩ := d_parted_wires.ex
    exact ⟨f, fd, h1, F.kp, F.binds (ps := ["many"]) (fun _ _ _ _ _ _ us hl => match us, hl with | [_], _ => rfl), ok_parted F B⟩
  have K_Net : MkF P w K mg base "Net" CN 5 ["self", "many", "wires"] (spNetI CN PC PN) := by
    obtain ⟨f, fd, h1, h2, F, hc⟩ := d_Net___init.ex
    exact ⟨hCN.1, f, fd, ⟨hCN.2.1, h1, h2, hCN.2.2⟩, F.binds (ps := ["self", "many", "wires"]) (fun _ _ _ _ _ _ us hl => match us, hl with | [_, _, _], _ => rfl), ok_neti F hc TB_PN B T_Net G_check_pairing G_is_full⟩
  have G_net_of : FnF P w K mg base "net_of" 12 ["many"] (spNetAll CN PC PN) := by
    obtain ⟨f, fd, h1, F⟩ := d_net_of.ex
    have b := F.binds (ps := ["many"]) (fun _ _ _ _ _ _ us hl => match us, hl with | [_], _ => rfl)
    have all : ∀ j, FnOk P w K mg base CX0 (7 + j) f fd ["many"] (spNetOf CN PC PN j) := by
      intro j
      induction j with
      | zero => exact net_step (by decide) (.inl rfl) F B T_Net G_logarithm G_turned_over G_plain_wires G_parted_wires G_in_halves K_Net (⟨f, fd, h1, F.kp, b, fnOk_false⟩ : FnF P w K mg base "net_of" 6 ["many"] (fun _ _ _ _ => False))
      | succ j ih => exact net_step (show 6 ≤ 7 + j by omega) (.inr ⟨j, rfl, rfl⟩) F B T_Net G_logarithm G_turned_over G_plain_wires G_parted_wires G_in_halves K_Net (⟨f, fd, h1, F.kp, b, ih⟩ : FnF P w K mg base "net_of" (7 + j) ["many"] (spNetOf CN PC PN j))
    exact ⟨f, fd, h1, F.kp, b, ⟨fun vs H Q E ⟨j, _, h⟩ => (all j).len _ _ _ _ h, fun A outer s H args us vs Q E hr he hb hv ⟨j, hj, h⟩ => ((all j).mono (by omega)).run A outer s H args us vs Q E hr he hb hv h⟩⟩
  have G_settings_for : FnF P w K mg base "settings_for" 10 ["pairs"] (spSetAll PC) := by
    obtain ⟨f, fd, h1, F⟩ := d_settings_for.ex
    have b := F.binds (ps := ["pairs"]) (fun _ _ _ _ _ _ us hl => match us, hl with | [_], _ => rfl)
    have all : ∀ j, FnOk P w K mg base CX0 (5 + j) f fd ["pairs"] (spSet PC j) := by
      intro j
      induction j with
      | zero => exact set_step (by decide) (.inl rfl) F B G_check_pairing G_filled G_logarithm G_halves_of G_turned_over (⟨f, fd, h1, F.kp, b, fnOk_false⟩ : FnF P w K mg base "settings_for" 4 ["pairs"] (fun _ _ _ _ => False))
      | succ j ih => exact set_step (show 4 ≤ 5 + j by omega) (.inr ⟨j, rfl, rfl⟩) F B G_check_pairing G_filled G_logarithm G_halves_of G_turned_over (⟨f, fd, h1, F.kp, b, ih⟩ : FnF P w K mg base "settings_for" (5 + j) ["pairs"] (spSet PC j))
    exact ⟨f, fd, h1, F.kp, b, ⟨fun vs H Q E ⟨j, _, h⟩ => (all j).len _ _ _ _ h, fun A outer s H args us vs Q E hr he hb hv ⟨j, hj, h⟩ => ((all j).mono (by omega)).run A outer s H args us vs Q E hr he hb hv h⟩⟩
  have M_Net_stages : MtF P w K mg base CN "stages" 1 ["self"] (spStages CN) := by
    obtain ⟨f, fd, h1, h2, F⟩ := d_Net_stages.ex
    exact ⟨T_Net.cl, f, fd, ⟨h1, h2, F.kp⟩, F.binds (ps := ["self"]) (fun _ _ _ _ _ _ us hl => match us, hl with | [_], _ => rfl), ok_stages F B T_Net⟩
  have M_Net_check : MtF P w K mg base CN "check" 4 ["self", "settings"] (spNetK CN PK) := by
    obtain ⟨f, fd, h1, h2, F, hc⟩ := d_Net_check.ex
    exact ⟨T_Net.cl, f, fd, ⟨h1, h2, F.kp⟩, F.binds (ps := ["self", "settings"]) (fun _ _ _ _ _ _ us hl => match us, hl with | [_, _], _ => rfl), ok_netk F hc TB_PK B T_Net M_Net_stages⟩
  have M_Net_way : MtF P w K mg base CN "way" 5 ["self", "settings", "gate"] (spWay CN PK) := by
    obtain ⟨f, fd, h1, h2, F⟩ := d_Net_way.ex
    exact ⟨T_Net.cl, f, fd, ⟨h1, h2, F.kp⟩, F.binds (ps := ["self", "settings", "gate"]) (fun _ _ _ _ _ _ us hl => match us, hl with | [_, _, _], _ => rfl), ok_way F B T_Net M_Net_check⟩
  have G_law_carried : FnF P w K mg base "_law_carried" 13 ["pairs"] (spCarriedL PC PN PK) := by
    obtain ⟨f, fd, h1, F⟩ := d_law_carried.ex
    exact ⟨f, fd, h1, F.kp, F.binds (ps := ["pairs"]) (fun _ _ _ _ _ _ us hl => match us, hl with | [_], _ => rfl), ok_carriedL F B G_net_of G_settings_for M_Net_way M_Net_stages⟩
  have G_law_apart : FnF P w K mg base "_law_apart" 2 ["shown", "gates"] spApart := by
    obtain ⟨f, fd, h1, F⟩ := d_law_apart.ex
    exact ⟨f, fd, h1, F.kp, F.binds (ps := ["shown", "gates"]) (fun _ _ _ _ _ _ us hl => match us, hl with | [_, _], _ => rfl), ok_apart F B⟩
  have M_Clos_shown : MtF P w K mg base CS "shown" 1 ["self"] (spShown CS) := by
    obtain ⟨f, fd, h1, h2, F⟩ := d_Clos_shown.ex
    exact ⟨T_Clos.cl, f, fd, ⟨h1, h2, F.kp⟩, F.binds (ps := ["self"]) (fun _ _ _ _ _ _ us hl => match us, hl with | [_], _ => rfl), ok_shown F B T_Clos⟩
  have M_Clos_end : MtF P w K mg base CS "end" 1 ["self", "one"] (spEnd CS) := by
    obtain ⟨f, fd, h1, h2, F⟩ := d_Clos_end.ex
    exact ⟨T_Clos.cl, f, fd, ⟨h1, h2, F.kp⟩, F.binds (ps := ["self", "one"]) (fun _ _ _ _ _ _ us hl => match us, hl with | [_, _], _ => rfl), ok_end F T_Clos⟩
  have M_Clos_at : MtF P w K mg base CS "at" 2 ["self", "side", "switch", "number"] (spClosAt CS) := by
    obtain ⟨f, fd, h1, h2, F⟩ := d_Clos_at.ex
    exact ⟨T_Clos.cl, f, fd, ⟨h1, h2, F.kp⟩, F.binds (ps := ["self", "side", "switch", "number"]) (fun _ _ _ _ _ _ us hl => match us, hl with | [_, _, _, _], _ => rfl), ok_closat F B T_Clos M_Clos_ends⟩
  have M_Clos_exchange : MtF P w K mg base CS "exchange" 3 ["self", "start", "one", "other"] (spClosX CS) := by
    obtain ⟨f, fd, h1, h2, F⟩ := d_Clos_exchange.ex
    exact ⟨T_Clos.cl, f, fd, ⟨h1, h2, F.kp⟩, F.binds (ps := ["self", "start", "one", "other"]) (fun _ _ _ _ _ _ us hl => match us, hl with | [_, _, _, _], _ => rfl), ok_closx F B T_Clos M_Clos_at M_Clos_ends⟩
  have M_Clos_put_moving : MtF P w K mg base CS "put_moving" 4 ["self", "one", "other"] (spPutM CS) := by
    obtain ⟨f, fd, h1, h2, F⟩ := d_Clos_put_moving.ex
    exact ⟨T_Clos.cl, f, fd, ⟨h1, h2, F.kp⟩, F.binds (ps := ["self", "one", "other"]) (fun _ _ _ _ _ _ us hl => match us, hl with | [_, _, _], _ => rfl), ok_putm F B T_Clos M_Clos_check M_Clos_free_middle M_Clos_ends M_Clos_used_in M_Clos_used_out M_Clos_exchange⟩
  have M_Clos_is_sound : MtF P w K mg base CS "is_sound" 2 ["self"] (spSoundM CS) := by
    obtain ⟨f, fd, h1, h2, F⟩ := d_Clos_is_sound.ex
    exact ⟨T_Clos.cl, f, fd, ⟨h1, h2, F.kp⟩, F.binds (ps := ["self"]) (fun _ _ _ _ _ _ us hl => match us, hl with | [_], _ => rfl), ok_sound F B T_Clos M_Clos_used_in M_Clos_used_out⟩
  exact ok_law F B G_law_rounds G_law_roll G_law_part G_law_carried G_law_apart G_carried_net T_Clos K_Clos M_Clos_shown M_Clos_end M_Clos_put_moving M_Clos_is_sound
end CL
set_option Elab.async false
set_option linter.all false
set_option maxRecDepth 100000
set_option maxHeartbeats 4000000
namespace CL
open PySem PySem.Spec PyProof.Rows L2 RX

section
variable {K : PySem.W.Frag} {mg : Str → Option Value} {h : Heap} {x : Str} {st : Stmt} {f C c : Addr} {oc : Value} {od an : Option Addr} {osl : Array (Option Value)} {kV doc pm cdv ct : Value}
theorem def_at (X : K.In h) (G : h.Ns mainGlobals mg) (a : PySem.W.nsIn K mainGlobals x = some (some (.ref f)))
    (l : K.lookup f = some ⟨oc, od, .func (PySem.W.fnOf x x (defArgs st) (defBody st) (defScope st) .none kV doc pm an cdv ct), osl⟩)
    (cc : PySem.W.codeIn K cdv x = true) (k : PySem.W.keepIn K (.ref f) = true) : DefAt K mg x st := ⟨f, _, PySem.W.mg_of X G a, fun_mk l cc k⟩
theorem defc_at (X : K.In h) (G : h.Ns mainGlobals mg) (a : PySem.W.nsIn K mainGlobals x = some (some (.ref f)))
    (l : K.lookup f = some ⟨oc, od, .func (PySem.W.fnOf x x (defArgs st) (defBody st) (defScope st) .none kV doc pm an (.ref c) ct), osl⟩)
    (cc : PySem.W.codeIn K (.ref c) x = true) (k : PySem.W.keepIn K (.ref f) = true) : DefC K mg x st c := ⟨f, _, PySem.W.mg_of X G a, fun_mk l cc k, rfl⟩
theorem met_at {qual : Str} (a : PySem.W.findIn K (.ref C) x = some (some (.ref f))) (i : PySem.W.isFn K (.ref f) = true)
    (l : K.lookup f = some ⟨oc, od, .func (PySem.W.fnOf x qual (defArgs st) (defBody st) (defScope st) .none kV doc pm an cdv ct), osl⟩)
    (cc : PySem.W.codeIn K cdv qual = true) (k : PySem.W.keepIn K (.ref f) = true) : MetAt K C x qual st := ⟨f, _, a, i, fun_mk l cc k⟩
theorem metc_at {qual : Str} (a : PySem.W.findIn K (.ref C) x = some (some (.ref f))) (i : PySem.W.isFn K (.ref f) = true)
    (l : K.lookup f = some ⟨oc, od, .func (PySem.W.fnOf x qual (defArgs st) (defBody st) (defScope st) .none kV doc pm an (.ref c) ct), osl⟩)
    (cc : PySem.W.codeIn K (.ref c) qual = true) (k : PySem.W.keepIn K (.ref f) = true) : MetC K C x qual st c := ⟨f, _, a, i, fun_mk l cc k, rfl⟩
theorem cls_at (X : K.In h) (G : h.Ns mainGlobals mg) (a : PySem.W.nsIn K mainGlobals x = some (some (.ref C))) (m : PySem.W.makesIn K C = true) (k : PySem.W.keepIn K (.ref C) = true) : clsAt mg K x C := ⟨PySem.W.mg_of X G a, m, k⟩
theorem cls_is (a : PySem.W.plainGet K C Str.empty = true) (b : PySem.W.hasDictIn K C = true) (c : PySem.W.plainOver K C = true) (d : PySem.W.findIn K (.ref C) "__setattr__" = some (some (.builtin "object.__setattr__"))) : Cls K C := ⟨a, b, c, d⟩
theorem clf_nil (c : Cls K C) : ClF K C [] := ⟨c, fun _ h => nomatch h⟩
theorem clf_cons {fs : List Str} (n : PySem.W.findIn K (.ref C) x = some none) (c : ClF K C fs) : ClF K C (x :: fs) := ⟨c.cl, fun _ h => by
  rcases List.mem_cons.mp h with e | e
  · rw [e]
    exact n
  · exact c.na _ e⟩
end
theorem law_at {l : PySem.W.OpenLaw} {w : World} {K : PySem.W.Frag} {mg : Str → Option Value} {h : Heap} {CN CC CS cPC cPN cPK cPA PC PN PK PA fa : Addr}
    (X : K.In h) (G : h.Ns mainGlobals mg) (hmg : mg "law" = some (.ref fa)) (hT : ∀ P ∈ [PC, PN, PK, PA], h.get? P = some (PySem.W.tabObj #[]))
    (B : Bts mg)
    (hCN : clsAt mg K "Net" CN) (T_Net : ClF K CN ["many", "wires"])
    (hCC : clsAt mg K "Calls" CC) (T_Calls : ClF K CC ["calls", "left", "right", "colours"])
    (hCS : clsAt mg K "Clos" CS) (T_Clos : ClF K CS ["middle", "gates", "switches", "calls"])
    (nPC : K.lookup PC = none) (ePC : PySem.W.codeHdIn K cPC PC = true)
    (nPN : K.lookup PN = none) (ePN : PySem.W.codeHdIn K cPN PN = true)
    (nPK : K.lookup PK = none) (ePK : PySem.W.codeHdIn K cPK PK = true)
    (nPA : K.lookup PA = none) (ePA : PySem.W.codeHdIn K cPA PA = true)
    (d_Calls___init : MetC K CC "__init__" "Calls.__init__" s_Calls___init cPA)
    (d_Calls_at : MetAt K CC "at" "Calls.at" s_Calls_at)
    (d_Calls_first_free : MetAt K CC "first_free" "Calls.first_free" s_Calls_first_free)
    (d_Calls_exchange : MetAt K CC "exchange" "Calls.exchange" s_Calls_exchange)
    (d_Calls_colour : MetAt K CC "colour" "Calls.colour" s_Calls_colour)
    (d_assigned : DefAt K mg "assigned" s_assigned)
    (d_Clos___init : MetAt K CS "__init__" "Clos.__init__" s_Clos___init)
    (d_Clos_size : MetAt K CS "size" "Clos.size" s_Clos_size)
    (d_Clos_check : MetAt K CS "check" "Clos.check" s_Clos_check)
    (d_Clos_ends : MetAt K CS "ends" "Clos.ends" s_Clos_ends)
    (d_Clos_used_in : MetAt K CS "used_in" "Clos.used_in" s_Clos_used_in)
    (d_Clos_used_out : MetAt K CS "used_out" "Clos.used_out" s_Clos_used_out)
    (d_Clos_free_middle : MetAt K CS "free_middle" "Clos.free_middle" s_Clos_free_middle)
    (d_Clos_put_by : MetAt K CS "put_by" "Clos.put_by" s_Clos_put_by)
    (d_carried_net : DefAt K mg "carried_net" s_carried_net)
    (d_check_pairing : DefC K mg "check_pairing" s_check_pairing cPC)
    (d_filled : DefAt K mg "filled" s_filled)
    (d_turned_over : DefAt K mg "turned_over" s_turned_over)
    (d_partner : DefAt K mg "partner" s_partner)
    (d_halves_of : DefAt K mg "halves_of" s_halves_of)
    (d_in_halves : DefAt K mg "in_halves" s_in_halves)
    (d_is_full : DefAt K mg "is_full" s_is_full)
    (d_law_dice : DefAt K mg "_law_dice" s_law_dice)
    (d_law_rounds : DefAt K mg "_law_rounds" s_law_rounds)
    (d_law_roll : DefAt K mg "_law_roll" s_law_roll)
    (d_law_part : DefAt K mg "_law_part" s_law_part)
    (d_logarithm : DefAt K mg "logarithm" s_logarithm)
    (d_plain_wires : DefAt K mg "plain_wires" s_plain_wires)
    (d_parted_wires : DefAt K mg "parted_wires" s_parted_wires)
    (d_Net___init : MetC K CN "__init__" "Net.__init__" s_Net___init cPN)
    (d_net_of : DefAt K mg "net_of" s_net_of)
    (d_settings_for : DefAt K mg "settings_for" s_settings_for)
    (d_Net_stages : MetAt K CN "stages" "Net.stages" s_Net_stages)
    (d_Net_check : MetC K CN "check" "Net.check" s_Net_check cPK)
    (d_Net_way : MetAt K CN "way" "Net.way" s_Net_way)
    (d_law_carried : DefAt K mg "_law_carried" s_law_carried)
    (d_law_apart : DefAt K mg "_law_apart" s_law_apart)
    (d_Clos_shown : MetAt K CS "shown" "Clos.shown" s_Clos_shown)
    (d_Clos_end : MetAt K CS "end" "Clos.end" s_Clos_end)
    (d_Clos_at : MetAt K CS "at" "Clos.at" s_Clos_at)
    (d_Clos_exchange : MetAt K CS "exchange" "Clos.exchange" s_Clos_exchange)
    (d_Clos_put_moving : MetAt K CS "put_moving" "Clos.put_moving" s_Clos_put_moving)
    (d_Clos_is_sound : MetAt K CS "is_sound" "Clos.is_sound" s_Clos_is_sound)
    (d_law : DefAt K mg "law" s_law) :
    LamX.LawAtS l w K CX0 14 63 "script" mg fa h := by
  obtain ⟨f, fd, h1, F⟩ := d_law.ex
  obtain rfl : f = fa := by
    have e := h1.symm.trans hmg
    cases e
    rfl
  refine ⟨fd, [(cPC, PC), (cPN, PN), (cPK, PK), (cPA, PA)], spLaw K PC PN PK PA, ?_, ?_, ?_, ?_, ?_, ?_⟩
  · exact List.forall_mem_cons.mpr ⟨hT PC (by simp), List.forall_mem_cons.mpr ⟨hT PN (by simp), List.forall_mem_cons.mpr ⟨hT PK (by simp), List.forall_mem_cons.mpr ⟨hT PA (by simp), fun _ h => nomatch h⟩⟩⟩⟩
  · exact List.forall_mem_cons.mpr ⟨nPC, List.forall_mem_cons.mpr ⟨nPN, List.forall_mem_cons.mpr ⟨nPK, List.forall_mem_cons.mpr ⟨nPA, fun _ h => nomatch h⟩⟩⟩⟩
  · exact List.forall_mem_cons.mpr ⟨PySem.W.codeHd_of_K X ePC, List.forall_mem_cons.mpr ⟨PySem.W.codeHd_of_K X ePN, List.forall_mem_cons.mpr ⟨PySem.W.codeHd_of_K X ePK, List.forall_mem_cons.mpr ⟨PySem.W.codeHd_of_K X ePA, fun _ h => nomatch h⟩⟩⟩⟩
  · obtain ⟨oc, od, kV, doc, pm, an, cdv, ct, osl, rfl, lk, hcd⟩ := F.ex
    exact fun s u => .of_eq rfl
  · intro H a ns _ _ hH hS
    exact ⟨a, ns, rfl, hS, ⟨#[], hH (cPC, PC) (by simp), True.intro⟩, ⟨#[], hH (cPN, PN) (by simp), True.intro⟩, ⟨#[], hH (cPK, PK) (by simp), True.intro⟩, ⟨#[], hH (cPA, PA) (by simp), True.intro⟩, fun _ => rfl⟩
  · intro base _ _ TB
    have TB_PC := TB (cPC, PC) (by simp)
    have TB_PN := TB (cPN, PN) (by simp)
    have TB_PK := TB (cPK, PK) (by simp)
    have TB_PA := TB (cPA, PA) (by simp)
    exact join B hCN T_Net hCC T_Calls hCS T_Clos TB_PC TB_PN TB_PK TB_PA d_Calls___init d_Calls_at d_Calls_first_free d_Calls_exchange d_Calls_colour d_assigned d_Clos___init d_Clos_size d_Clos_check d_Clos_ends d_Clos_used_in d_Clos_used_out d_Clos_free_middle d_Clos_put_by d_carried_net d_check_pairing d_filled d_turned_over d_partner d_halves_of d_in_halves d_is_full d_law_dice d_law_rounds d_law_roll d_law_part d_logarithm d_plain_wires d_parted_wires d_Net___init d_net_of d_settings_for d_Net_stages d_Net_check d_Net_way d_law_carried d_law_apart d_Clos_shown d_Clos_end d_Clos_at d_Clos_exchange d_Clos_put_moving d_Clos_is_sound F
end CL
open PySem PySem.W PyProof.Rows
set_option Elab.async false
set_option linter.all false
local macro_rules | `(tactic| o_head ($f $k $a $e)) => `(tactic| o_head (PySem.W.kmHook $k $a $e [84, 122, 141, 222]))
set_option maxRecDepth 100000 in
set_option maxHeartbeats 0 in
theorem PySem.Challenge.cw_crossloom_k64_whole_pairings_at_any_size_holds : PySem.Challenge.rw_crossloom_k64_whole_pairings_at_any_size.Holds := by
  w_on; o_law; k_head; (case hw => w_witness2)
  k_fill
  refine LamX.walk_ofTs (n := 63) (k := 14) (x := "script") (CX := fun _ => L2.CX0) rfl (by decide) rfl ⟨rfl, by decide, by decide⟩ (fun w h Y => PySem.W.km_in_of Y) (fun w mg fa h Y KX G hmg => ?_) fun _ _ _ _ _ z => z
  refine' CL.law_at (CN := 168) (CC := 268) (CS := ?CS) (cPC := 86) (PC := 84) (cPN := 124) (PN := 122) (cPK := 145) (PK := 141) (cPA := 224) (PA := 222) KX G hmg (PySem.W.km_tabs_of Y) ?B ?hCN ?T_Net ?hCC ?T_Calls ?hCS ?T_Clos ?nPC ?ePC ?nPN ?ePN ?nPK ?ePK ?nPA ?ePA ?d_Calls___init ?d_Calls_at ?d_Calls_first_free ?d_Calls_exchange ?d_Calls_colour ?d_assigned ?d_Clos___init ?d_Clos_size ?d_Clos_check ?d_Clos_ends ?d_Clos_used_in ?d_Clos_used_out ?d_Clos_free_middle ?d_Clos_put_by ?d_carried_net ?d_check_pairing ?d_filled ?d_turned_over ?d_partner ?d_halves_of ?d_in_halves ?d_is_full ?d_law_dice ?d_law_rounds ?d_law_roll ?d_law_part ?d_logarithm ?d_plain_wires ?d_parted_wires ?d_Net___init ?d_net_of ?d_settings_for ?d_Net_stages ?d_Net_check ?d_Net_way ?d_law_carried ?d_law_apart ?d_Clos_shown ?d_Clos_end ?d_Clos_at ?d_Clos_exchange ?d_Clos_put_moving ?d_Clos_is_sound ?d_law
  (case B => exact ⟨PySem.W.mg_none_of KX G (by k_is), PySem.W.mg_none_of KX G (by k_is), PySem.W.mg_none_of KX G (by k_is), PySem.W.mg_none_of KX G (by k_is), PySem.W.mg_none_of KX G (by k_is), PySem.W.mg_none_of KX G (by k_is), PySem.W.mg_none_of KX G (by k_is), PySem.W.mg_none_of KX G (by k_is), PySem.W.mg_none_of KX G (by k_is), PySem.W.mg_none_of KX G (by k_is), PySem.W.mg_none_of KX G (by k_is)⟩)
  (case hCN => refine' CL.cls_at KX G ?a ?m ?k; (case a => k_is); (case m => k_is); (case k => k_is))
  (case T_Net => refine CL.clf_cons (by k_is) ?_; refine CL.clf_cons (by k_is) ?_;  refine' CL.clf_nil (CL.cls_is ?a ?b ?c ?d); (case a => k_is); (case b => k_is); (case c => k_is); (case d => k_is))
  (case hCC => refine' CL.cls_at KX G ?a ?m ?k; (case a => k_is); (case m => k_is); (case k => k_is))
  (case T_Calls => refine CL.clf_cons (by k_is) ?_; refine CL.clf_cons (by k_is) ?_; refine CL.clf_cons (by k_is) ?_; refine CL.clf_cons (by k_is) ?_;  refine' CL.clf_nil (CL.cls_is ?a ?b ?c ?d); (case a => k_is); (case b => k_is); (case c => k_is); (case d => k_is))
  (case hCS => refine' CL.cls_at KX G ?a ?m ?k; (case a => k_is); (case m => k_is); (case k => k_is))
  (case T_Clos => refine CL.clf_cons (by k_is) ?_; refine CL.clf_cons (by k_is) ?_; refine CL.clf_cons (by k_is) ?_; refine CL.clf_cons (by k_is) ?_;  refine' CL.clf_nil (CL.cls_is ?a ?b ?c ?d); (case a => k_is); (case b => k_is); (case c => k_is); (case d => k_is))
  (case nPC => kernel_rfl)
  (case ePC => kernel_rfl)
  (case nPN => kernel_rfl)
  (case ePN => kernel_rfl)
  (case nPK => kernel_rfl)
  (case ePK => kernel_rfl)
  (case nPA => kernel_rfl)
  (case ePA => kernel_rfl)
  (case d_Calls___init => refine' CL.metc_at ?a ?i ?l ?cc ?k; (case a => k_is); (case i => k_is); (case l => k_is); (case cc => k_is); (case k => k_is))
  (case d_Calls_at => refine' CL.met_at ?a ?i ?l ?cc ?k; (case a => k_is); (case i => k_is); (case l => k_is); (case cc => k_is); (case k => k_is))
  (case d_Calls_first_free => refine' CL.met_at ?a ?i ?l ?cc ?k; (case a => k_is); (case i => k_is); (case l => k_is); (case cc => k_is); (case k => k_is))
  (case d_Calls_exchange => refine' CL.met_at ?a ?i ?l ?cc ?k; (case a => k_is); (case i => k_is); (case l => k_is); (case cc => k_is); (case k => k_is))
  (case d_Calls_colour => refine' CL.met_at ?a ?i ?l ?cc ?k; (case a => k_is); (case i => k_is); (case l => k_is); (case cc => k_is); (case k => k_is))
  (case d_assigned => refine' CL.def_at KX G ?a ?l ?cc ?k; (case a => k_is); (case l => k_is); (case cc => k_is); (case k => k_is))
  (case d_Clos___init => refine' CL.met_at ?a ?i ?l ?cc ?k; (case a => k_is); (case i => k_is); (case l => k_is); (case cc => k_is); (case k => k_is))
  (case d_Clos_size => refine' CL.met_at ?a ?i ?l ?cc ?k; (case a => k_is); (case i => k_is); (case l => k_is); (case cc => k_is); (case k => k_is))
  (case d_Clos_check => refine' CL.met_at ?a ?i ?l ?cc ?k; (case a => k_is); (case i => k_is); (case l => k_is); (case cc => k_is); (case k => k_is))
  (case d_Clos_ends => refine' CL.met_at ?a ?i ?l ?cc ?k; (case a => k_is); (case i => k_is); (case l => k_is); (case cc => k_is); (case k => k_is))
  (case d_Clos_used_in => refine' CL.met_at ?a ?i ?l ?cc ?k; (case a => k_is); (case i => k_is); (case l => k_is); (case cc => k_is); (case k => k_is))
  (case d_Clos_used_out => refine' CL.met_at ?a ?i ?l ?cc ?k; (case a => k_is); (case i => k_is); (case l => k_is); (case cc => k_is); (case k => k_is))
  (case d_Clos_free_middle => refine' CL.met_at ?a ?i ?l ?cc ?k; (case a => k_is); (case i => k_is); (case l => k_is); (case cc => k_is); (case k => k_is))
  (case d_Clos_put_by => refine' CL.met_at ?a ?i ?l ?cc ?k; (case a => k_is); (case i => k_is); (case l => k_is); (case cc => k_is); (case k => k_is))
  (case d_carried_net => refine' CL.def_at KX G ?a ?l ?cc ?k; (case a => k_is); (case l => k_is); (case cc => k_is); (case k => k_is))
  (case d_check_pairing => refine' CL.defc_at KX G ?a ?l ?cc ?k; (case a => k_is); (case l => k_is); (case cc => k_is); (case k => k_is))
  (case d_filled => refine' CL.def_at KX G ?a ?l ?cc ?k; (case a => k_is); (case l => k_is); (case cc => k_is); (case k => k_is))
  (case d_turned_over => refine' CL.def_at KX G ?a ?l ?cc ?k; (case a => k_is); (case l => k_is); (case cc => k_is); (case k => k_is))
  (case d_partner => refine' CL.def_at KX G ?a ?l ?cc ?k; (case a => k_is); (case l => k_is); (case cc => k_is); (case k => k_is))
  (case d_halves_of => refine' CL.def_at KX G ?a ?l ?cc ?k; (case a => k_is); (case l => k_is); (case cc => k_is); (case k => k_is))
  (case d_in_halves => refine' CL.def_at KX G ?a ?l ?cc ?k; (case a => k_is); (case l => k_is); (case cc => k_is); (case k => k_is))
  (case d_is_full => refine' CL.def_at KX G ?a ?l ?cc ?k; (case a => k_is); (case l => k_is); (case cc => k_is); (case k => k_is))
  (case d_law_dice => refine' CL.def_at KX G ?a ?l ?cc ?k; (case a => k_is); (case l => k_is); (case cc => k_is); (case k => k_is))
  (case d_law_rounds => refine' CL.def_at KX G ?a ?l ?cc ?k; (case a => k_is); (case l => k_is); (case cc => k_is); (case k => k_is))
  (case d_law_roll => refine' CL.def_at KX G ?a ?l ?cc ?k; (case a => k_is); (case l => k_is); (case cc => k_is); (case k => k_is))
  (case d_law_part => refine' CL.def_at KX G ?a ?l ?cc ?k; (case a => k_is); (case l => k_is); (case cc => k_is); (case k => k_is))
  (case d_logarithm => refine' CL.def_at KX G ?a ?l ?cc ?k; (case a => k_is); (case l => k_is); (case cc => k_is); (case k => k_is))
  (case d_plain_wires => refine' CL.def_at KX G ?a ?l ?cc ?k; (case a => k_is); (case l => k_is); (case cc => k_is); (case k => k_is))
  (case d_parted_wires => refine' CL.def_at KX G ?a ?l ?cc ?k; (case a => k_is); (case l => k_is); (case cc => k_is); (case k => k_is))
  (case d_Net___init => refine' CL.metc_at ?a ?i ?l ?cc ?k; (case a => k_is); (case i => k_is); (case l => k_is); (case cc => k_is); (case k => k_is))
  (case d_net_of => refine' CL.def_at KX G ?a ?l ?cc ?k; (case a => k_is); (case l => k_is); (case cc => k_is); (case k => k_is))
  (case d_settings_for => refine' CL.def_at KX G ?a ?l ?cc ?k; (case a => k_is); (case l => k_is); (case cc => k_is); (case k => k_is))
  (case d_Net_stages => refine' CL.met_at ?a ?i ?l ?cc ?k; (case a => k_is); (case i => k_is); (case l => k_is); (case cc => k_is); (case k => k_is))
  (case d_Net_check => refine' CL.metc_at ?a ?i ?l ?cc ?k; (case a => k_is); (case i => k_is); (case l => k_is); (case cc => k_is); (case k => k_is))
  (case d_Net_way => refine' CL.met_at ?a ?i ?l ?cc ?k; (case a => k_is); (case i => k_is); (case l => k_is); (case cc => k_is); (case k => k_is))
  (case d_law_carried => refine' CL.def_at KX G ?a ?l ?cc ?k; (case a => k_is); (case l => k_is); (case cc => k_is); (case k => k_is))
  (case d_law_apart => refine' CL.def_at KX G ?a ?l ?cc ?k; (case a => k_is); (case l => k_is); (case cc => k_is); (case k => k_is))
  (case d_Clos_shown => refine' CL.met_at ?a ?i ?l ?cc ?k; (case a => k_is); (case i => k_is); (case l => k_is); (case cc => k_is); (case k => k_is))
  (case d_Clos_end => refine' CL.met_at ?a ?i ?l ?cc ?k; (case a => k_is); (case i => k_is); (case l => k_is); (case cc => k_is); (case k => k_is))
  (case d_Clos_at => refine' CL.met_at ?a ?i ?l ?cc ?k; (case a => k_is); (case i => k_is); (case l => k_is); (case cc => k_is); (case k => k_is))
  (case d_Clos_exchange => refine' CL.met_at ?a ?i ?l ?cc ?k; (case a => k_is); (case i => k_is); (case l => k_is); (case cc => k_is); (case k => k_is))
  (case d_Clos_put_moving => refine' CL.met_at ?a ?i ?l ?cc ?k; (case a => k_is); (case i => k_is); (case l => k_is); (case cc => k_is); (case k => k_is))
  (case d_Clos_is_sound => refine' CL.met_at ?a ?i ?l ?cc ?k; (case a => k_is); (case i => k_is); (case l => k_is); (case cc => k_is); (case k => k_is))
  (case d_law => refine' CL.def_at KX G ?a ?l ?cc ?k; (case a => k_is); (case l => k_is); (case cc => k_is); (case k => k_is))
