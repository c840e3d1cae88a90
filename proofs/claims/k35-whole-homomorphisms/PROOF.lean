import PyProof.Rows.All
import Wide.All
import OpenK.AllK
import Wide.FinOn
import HandS.ForMost
import HandS.GenList
import HandS.Conv
import HandS.IsInst
import HandS.Deep
import HandS.Style
import HandS.TupAny
import PySem.Challenge.RW_reesblocks_k35_whole_homomorphisms
import HandS.Zip
import KE.SortData
/-! Tables as lists of lists of numbers; what makes a semigroup. Plain Lean. -/
namespace K35

/-- the entry of a table -/
def el (T : List (List Nat)) (x y : Nat) : Nat := (T.getD x []).getD y 0

structure Sg (n : Nat) (T : List (List Nat)) : Prop where
  pos : 0 < n
  len : T.length = n
  row : ∀ r ∈ T, r.length = n
  lt : ∀ x y, x < n → y < n → el T x y < n
  assoc : ∀ x y z, x < n → y < n → z < n → el T (el T x y) z = el T x (el T y z)

def tabF (n : Nat) (f : Nat → Nat → Nat) : List (List Nat) :=
  (List.range n).map fun x => (List.range n).map fun y => f x y

theorem getD_map_range {α : Type} (n : Nat) (g : Nat → α) (d : α) {x : Nat} (h : x < n) : ((List.range n).map g).getD x d = g x := by
  rw [List.getD_eq_getElem?_getD, List.getElem?_map, List.getElem?_range h]
  rfl

theorem el_tabF {n : Nat} {f : Nat → Nat → Nat} {x y : Nat} (hx : x < n) (hy : y < n) : el (tabF n f) x y = f x y := by
  unfold el tabF
  rw [getD_map_range n _ _ hx, getD_map_range n _ _ hy]

theorem tabF_len {n : Nat} {f : Nat → Nat → Nat} : (tabF n f).length = n := by
  unfold tabF; simp

theorem tabF_row {n : Nat} {f : Nat → Nat → Nat} : ∀ r ∈ tabF n f, r.length = n := by
  intro r hr
  unfold tabF at hr
  obtain ⟨x, _, rfl⟩ := List.mem_map.mp hr
  simp

theorem sg_tabF {n : Nat} {f : Nat → Nat → Nat} (h0 : 0 < n) (hl : ∀ x y, x < n → y < n → f x y < n)
    (ha : ∀ x y z, x < n → y < n → z < n → f (f x y) z = f x (f y z)) : Sg n (tabF n f) where
  pos := h0
  len := tabF_len
  row := tabF_row
  lt := fun x y hx hy => by rw [el_tabF hx hy]; exact hl x y hx hy
  assoc := fun x y z hx hy hz => by
    rw [el_tabF hx hy, el_tabF (hl x y hx hy) hz, el_tabF hy hz, el_tabF hx (hl y z hy hz)]
    exact ha x y z hx hy hz

/-- a table of the right shape is told by its entries -/
theorem tab_eq {n : Nat} {T : List (List Nat)} (hl : T.length = n) (hr : ∀ r ∈ T, r.length = n) : T = tabF n (el T) := by
  apply List.ext_getElem
  · rw [hl, tabF_len]
  · intro x h1 h2
    have hx : x < n := by rw [← hl]; exact h1
    have e1 : T[x].length = n := hr _ (List.getElem_mem h1)
    have e2 : (tabF n (el T))[x] = (List.range n).map fun y => el T x y := by
      simp [tabF]
    rw [e2]
    apply List.ext_getElem
    · rw [e1]; simp
    · intro y h3 h4
      rw [List.getElem_map, List.getElem_range]
      unfold el
      have : T.getD x [] = T[x] := by
        rw [List.getD_eq_getElem?_getD, List.getElem?_eq_getElem h1]; rfl
      rw [this, List.getD_eq_getElem?_getD, List.getElem?_eq_getElem h3]; rfl

theorem el_get {T : List (List Nat)} {x : Nat} {r : List Nat} {y v : Nat} (h1 : T[x]? = some r) (h2 : r[y]? = some v) : el T x y = v := by
  simp [el, h1, h2]

theorem Sg.at {n : Nat} {T : List (List Nat)} (s : Sg n T) {x y : Nat} (hx : x < n) (hy : y < n) :
    ∃ r, T[x]? = some r ∧ r[y]? = some (el T x y) := by
  have h1 : x < T.length := by rw [s.len]; exact hx
  have h2 : T[x].length = n := s.row _ (List.getElem_mem h1)
  refine ⟨T[x], List.getElem?_eq_getElem h1, ?_⟩
  have h3 : y < T[x].length := by rw [h2]; exact hy
  rw [el_get (List.getElem?_eq_getElem h1) (List.getElem?_eq_getElem h3)]
  exact List.getElem?_eq_getElem h3

/-- a check by computation -/
def sgb (n : Nat) (T : List (List Nat)) : Bool :=
  decide (0 < n) && decide (T.length = n) && T.all (fun r => decide (r.length = n)) &&
  (List.range n).all (fun x => (List.range n).all fun y => decide (el T x y < n)) &&
  (List.range n).all (fun x => (List.range n).all fun y => (List.range n).all fun z => decide (el T (el T x y) z = el T x (el T y z)))

theorem sgb_sound {n : Nat} {T : List (List Nat)} (h : sgb n T = true) : Sg n T := by
  unfold sgb at h
  simp only [Bool.and_eq_true, decide_eq_true_eq, List.all_eq_true, List.mem_range] at h
  obtain ⟨⟨⟨⟨h1, h2⟩, h3⟩, h4⟩, h5⟩ := h
  exact ⟨h1, h2, h3, fun x y hx hy => h4 x hx y hy, fun x y z hx hy hz => h5 x hx y hy z hz⟩

/-! ### the simple builders -/
theorem sg_left {n : Nat} (h : 0 < n) : Sg n (tabF n fun x _ => x) :=
  sg_tabF h (fun _ _ hx _ => hx) fun _ _ _ _ _ _ => rfl
theorem sg_null {n : Nat} (h : 0 < n) : Sg n (tabF n fun _ _ => 0) :=
  sg_tabF h (fun _ _ _ _ => h) fun _ _ _ _ _ _ => rfl
theorem sg_min {n : Nat} (h : 0 < n) : Sg n (tabF n fun x y => min x y) :=
  sg_tabF h (fun x y hx _ => Nat.lt_of_le_of_lt (Nat.min_le_left x y) hx) fun x y z _ _ _ => Nat.min_assoc x y z

/-! ### monogenic -/
def monoE (n d x y : Nat) : Nat := (if x + y + 2 > n then (n + 1 - d) + ((x + y + 2) - (n + 1 - d)) % d else x + y + 2) - 1
theorem mono_all : ∀ n ∈ List.range 6, ∀ d ∈ List.range 6, 0 < n → 0 < d → d ≤ n → sgb n (tabF n (monoE n d)) = true := by decide +kernel
theorem sg_mono {n d : Nat} (h0 : 0 < n) (h5 : n ≤ 5) (hd : 0 < d) (hdn : d ≤ n) : Sg n (tabF n (monoE n d)) :=
  sgb_sound (mono_all n (List.mem_range.mpr (by omega)) d (List.mem_range.mpr (by omega)) h0 hd hdn)

/-! ### triples -/
def tripE (b g : Nat) (tw : List (List Nat)) (ho : List (List Bool)) (z : Bool) (size x y : Nat) : Nat :=
  if z && ((ho.getD (x % b) []).getD (y / (g * b)) false) then size
  else (x / (g * b) * g + (x / b + (tw.getD (x % b) []).getD (y / (g * b)) 0 + y / b) % g) * b + y % b
def tripT (a b g : Nat) (tw : List (List Nat)) (ho : List (List Bool)) (z : Bool) : List (List Nat) :=
  ((List.range (a * b * g)).map fun x => ((List.range (a * b * g)).map fun y => tripE b g tw ho z (a * b * g) x y) ++ (if z then [a * b * g] else [])) ++
  (if z then [(List.range (a * b * g + 1)).map fun _ => a * b * g] else [])

/-- all rows of a length over some values -/
def rowsOver {α : Type} (vals : List α) : Nat → List (List α)
  | 0 => [[]]
  | k + 1 => (rowsOver vals k).flatMap fun r => vals.map fun v => v :: r
theorem mem_rowsOver {α : Type} {vals : List α} : ∀ {k : Nat} {r : List α}, r.length = k → (∀ v ∈ r, v ∈ vals) → r ∈ rowsOver vals k
  | 0, [], _, _ => by simp [rowsOver]
  | k + 1, v :: r, hl, hv => by
    unfold rowsOver
    refine List.mem_flatMap.mpr ⟨r, mem_rowsOver (by simpa using hl) (fun w hw => hv w (List.mem_cons_of_mem _ hw)), ?_⟩
    exact List.mem_map.mpr ⟨v, hv v List.mem_cons_self, rfl⟩
def matsOver {α : Type} (vals : List α) (b a : Nat) : List (List (List α)) := rowsOver (rowsOver vals a) b
theorem mem_matsOver {α : Type} {vals : List α} {b a : Nat} {m : List (List α)} (hl : m.length = b) (hr : ∀ r ∈ m, r.length = a ∧ ∀ v ∈ r, v ∈ vals) : m ∈ matsOver vals b a :=
  mem_rowsOver hl fun r h => mem_rowsOver (hr r h).1 (hr r h).2

def tripN (a b g : Nat) (z : Bool) : Nat := if z then a * b * g + 1 else a * b * g
def tripOk (a b g : Nat) (z : Bool) : Bool :=
  (matsOver (List.range g) b a).all fun tw => (matsOver [false, true] b a).all fun ho => sgb (tripN a b g z) (tripT a b g tw ho z)
theorem trip_all : ∀ a ∈ [1, 2], ∀ b ∈ [1, 2], ∀ g ∈ [1, 2], a * b * g ≤ 4 → ∀ z ∈ [false, true], tripOk a b g z = true := by decide +kernel
theorem sg_trip {a b g : Nat} {tw : List (List Nat)} {ho : List (List Bool)} {z : Bool} (ha : a = 1 ∨ a = 2) (hb : b = 1 ∨ b = 2) (hg : g = 1 ∨ g = 2) (hs : a * b * g ≤ 4)
    (h1 : tw.length = b) (h2 : ∀ r ∈ tw, r.length = a ∧ ∀ v ∈ r, v < g) (h3 : ho.length = b) (h4 : ∀ r ∈ ho, r.length = a) : Sg (tripN a b g z) (tripT a b g tw ho z) := by
  have m2 : ∀ {q : Nat}, (q = 1 ∨ q = 2) → q ∈ [1, 2] := fun {q} h => by rcases h with rfl | rfl <;> simp
  have mz : z ∈ [false, true] := by cases z <;> simp
  have k := trip_all a (m2 ha) b (m2 hb) g (m2 hg) hs z mz
  unfold tripOk at k
  rw [List.all_eq_true] at k
  have k2 := k tw (mem_matsOver h1 fun r hr => ⟨(h2 r hr).1, fun v hv => List.mem_range.mpr ((h2 r hr).2 v hv)⟩)
  rw [List.all_eq_true] at k2
  exact sgb_sound (k2 ho (mem_matsOver h3 fun r hr => ⟨h4 r hr, fun v _ => by cases v <;> simp⟩))

/-! ### the extensions -/
theorem sg_opp {n : Nat} {T : List (List Nat)} (s : Sg n T) : Sg n (tabF n fun x y => el T y x) :=
  sg_tabF s.pos (fun x y hx hy => s.lt y x hy hx) fun x y z hx hy hz => (s.assoc z y x hz hy hx).symm

def zeroT (n : Nat) (T : List (List Nat)) : List (List Nat) := T.map (fun r => r ++ [n]) ++ [(List.range (n + 1)).map fun _ => n]
theorem sg_of_el {n : Nat} {T : List (List Nat)} {f : Nat → Nat → Nat} (h0 : 0 < n) (hlen : T.length = n) (hrow : ∀ r ∈ T, r.length = n) (he : ∀ x y, x < n → y < n → el T x y = f x y)
    (hl : ∀ x y, x < n → y < n → f x y < n) (ha : ∀ x y z, x < n → y < n → z < n → f (f x y) z = f x (f y z)) : Sg n T where
  pos := h0
  len := hlen
  row := hrow
  lt := fun x y hx hy => by rw [he x y hx hy]; exact hl x y hx hy
  assoc := fun x y z hx hy hz => by
    rw [he x y hx hy, he y z hy hz, he _ _ (hl x y hx hy) hz, he _ _ hx (hl y z hy hz)]
    exact ha x y z hx hy hz

theorem getD_append_lt {α : Type} {l r : List α} {d : α} {i : Nat} (h : i < l.length) : (l ++ r).getD i d = l.getD i d := by
  rw [List.getD_eq_getElem?_getD, List.getD_eq_getElem?_getD, List.getElem?_append_left h]
theorem getD_append_at {α : Type} {l : List α} {v d : α} {i : Nat} (h : i = l.length) : (l ++ [v]).getD i d = v := by
  subst h
  rw [List.getD_eq_getElem?_getD, List.getElem?_append_right (Nat.le_refl _), Nat.sub_self]
  rfl
theorem getD_map' {α β : Type} {l : List α} {g : α → β} {d : α} {e : β} {i : Nat} (h : i < l.length) : (l.map g).getD i e = g (l.getD i d) := by
  rw [List.getD_eq_getElem?_getD, List.getD_eq_getElem?_getD, List.getElem?_map, List.getElem?_eq_getElem h]
  rfl
theorem Sg.rowlen {n : Nat} {T : List (List Nat)} (s : Sg n T) {x : Nat} (hx : x < n) : (T.getD x []).length = n := by
  have h1 : x < T.length := by rw [s.len]; exact hx
  rw [List.getD_eq_getElem?_getD, List.getElem?_eq_getElem h1]
  exact s.row _ (List.getElem_mem h1)

def zeroF (n : Nat) (T : List (List Nat)) (x y : Nat) : Nat := if x < n ∧ y < n then el T x y else n
theorem sg_zero {n : Nat} {T : List (List Nat)} (s : Sg n T) : Sg (n + 1) (zeroT n T) := by
  refine sg_of_el (f := zeroF n T) (Nat.succ_pos n) ?_ ?_ ?_ ?_ ?_
  · unfold zeroT; simp [s.len]
  · intro r hr
    unfold zeroT at hr
    rcases List.mem_append.mp hr with h | h
    · obtain ⟨q, hq, rfl⟩ := List.mem_map.mp h
      simp [s.row q hq]
    · rw [List.mem_singleton.mp h]; simp
  · intro x y hx hy
    unfold el zeroT zeroF
    by_cases h1 : x < n
    · rw [getD_append_lt (by simp [s.len]; exact h1), getD_map' (d := []) (by rw [s.len]; exact h1)]
      by_cases h2 : y < n
      · rw [getD_append_lt (by rw [s.rowlen h1]; exact h2), if_pos ⟨h1, h2⟩]; rfl
      · rw [getD_append_at (by rw [s.rowlen h1]; omega), if_neg (fun h => h2 h.2)]
    · rw [getD_append_at (by simp [s.len]; omega), if_neg (fun h => h1 h.1), getD_map_range _ _ _ hy]
  · intro x y _ _
    unfold zeroF
    split
    · rename_i h; exact Nat.lt_succ_of_lt (s.lt x y h.1 h.2)
    · exact Nat.lt_succ_self n
  · intro x y z _ _ _
    unfold zeroF
    by_cases h1 : x < n
    · by_cases h2 : y < n
      · rw [if_pos (show x < n ∧ y < n from ⟨h1, h2⟩)]
        by_cases h3 : z < n
        · rw [if_pos (show y < n ∧ z < n from ⟨h2, h3⟩), if_pos ⟨s.lt x y h1 h2, h3⟩, if_pos ⟨h1, s.lt y z h2 h3⟩]
          exact s.assoc x y z h1 h2 h3
        · rw [if_neg (fun h => h3 h.2), if_neg (show ¬ (y < n ∧ z < n) from fun h => h3 h.2), if_neg (fun h => Nat.lt_irrefl n h.2)]
      · rw [if_neg (show ¬ (x < n ∧ y < n) from fun h => h2 h.2), if_neg (show ¬ (y < n ∧ z < n) from fun h => h2 h.1), if_neg (fun h => Nat.lt_irrefl n h.1), if_neg (fun h => Nat.lt_irrefl n h.2)]
    · rw [if_neg (show ¬ (x < n ∧ y < n) from fun h => h1 h.1), if_neg (fun h => Nat.lt_irrefl n h.1), if_neg (fun h => h1 h.1)]

def unitT (n : Nat) (T : List (List Nat)) : List (List Nat) := ((List.range n).map fun x => T.getD x [] ++ [x]) ++ [List.range (n + 1)]
def unitF (n : Nat) (T : List (List Nat)) (x y : Nat) : Nat := if x < n then (if y < n then el T x y else x) else y
theorem sg_unit {n : Nat} {T : List (List Nat)} (s : Sg n T) : Sg (n + 1) (unitT n T) := by
  refine sg_of_el (f := unitF n T) (Nat.succ_pos n) ?_ ?_ ?_ ?_ ?_
  · unfold unitT; simp
  · intro r hr
    unfold unitT at hr
    rcases List.mem_append.mp hr with h | h
    · obtain ⟨x, hx, rfl⟩ := List.mem_map.mp h
      rw [List.length_append, s.rowlen (List.mem_range.mp hx)]; rfl
    · rw [List.mem_singleton.mp h]; simp
  · intro x y hx hy
    unfold el unitT unitF
    by_cases h1 : x < n
    · rw [getD_append_lt (by simp; exact h1), getD_map_range _ _ _ h1, if_pos h1]
      by_cases h2 : y < n
      · rw [getD_append_lt (by rw [s.rowlen h1]; exact h2), if_pos h2]; rfl
      · rw [getD_append_at (by rw [s.rowlen h1]; omega), if_neg h2]
    · rw [getD_append_at (by simp; omega), if_neg h1]
      rw [List.getD_eq_getElem?_getD, List.getElem?_range hy]; rfl
  · intro x y hx hy
    unfold unitF
    split
    · split
      · rename_i h1 h2; exact Nat.lt_succ_of_lt (s.lt x y h1 h2)
      · exact hx
    · exact hy
  · intro x y z hx hy hz
    unfold unitF
    by_cases h1 : x < n
    · by_cases h2 : y < n
      · by_cases h3 : z < n
        · rw [if_pos h1, if_pos h2, if_pos h2, if_pos h3, if_pos h1, if_pos (s.lt x y h1 h2), if_pos h3, if_pos (s.lt y z h2 h3)]
          exact s.assoc x y z h1 h2 h3
        · rw [if_pos h1, if_pos h2, if_pos h2, if_neg h3, if_pos h1, if_pos (s.lt x y h1 h2), if_neg h3, if_pos h2]
      · rw [if_pos h1, if_neg h2, if_neg h2, if_pos h1]
    · rw [if_neg h1, if_neg h1]

def twoF (c : Bool) (x y : Nat) : Nat := if c then (x + y) % 2 else x % 2 * (y % 2)
theorem sg_prod {n : Nat} {T : List (List Nat)} (s : Sg n T) {S : Nat → Nat → Nat} (hl : ∀ x y, x < 2 → y < 2 → S x y < 2) (ha : ∀ x y z, x < 2 → y < 2 → z < 2 → S (S x y) z = S x (S y z)) :
    Sg (2 * n) (tabF (2 * n) fun x y => 2 * el T (x / 2) (y / 2) + S (x % 2) (y % 2)) := by
  have m2 : ∀ x : Nat, x % 2 < 2 := fun x => Nat.mod_lt _ (by omega)
  refine sg_tabF (by have := s.pos; omega) ?_ ?_
  · intro x y hx hy
    have h1 := s.lt (x / 2) (y / 2) (by omega) (by omega)
    have h2 := hl (x % 2) (y % 2) (m2 x) (m2 y)
    omega
  · intro x y z hx hy hz
    have h2 := hl (x % 2) (y % 2) (m2 x) (m2 y)
    have h3 := hl (y % 2) (z % 2) (m2 y) (m2 z)
    have e1 : (2 * el T (x / 2) (y / 2) + S (x % 2) (y % 2)) / 2 = el T (x / 2) (y / 2) := by omega
    have e2 : (2 * el T (x / 2) (y / 2) + S (x % 2) (y % 2)) % 2 = S (x % 2) (y % 2) := by omega
    have e3 : (2 * el T (y / 2) (z / 2) + S (y % 2) (z % 2)) / 2 = el T (y / 2) (z / 2) := by omega
    have e4 : (2 * el T (y / 2) (z / 2) + S (y % 2) (z % 2)) % 2 = S (y % 2) (z % 2) := by omega
    show 2 * el T ((2 * el T (x / 2) (y / 2) + S (x % 2) (y % 2)) / 2) (z / 2) + S ((2 * el T (x / 2) (y / 2) + S (x % 2) (y % 2)) % 2) (z % 2) =
      2 * el T (x / 2) ((2 * el T (y / 2) (z / 2) + S (y % 2) (z % 2)) / 2) + S (x % 2) ((2 * el T (y / 2) (z / 2) + S (y % 2) (z % 2)) % 2)
    rw [e1, e2, e3, e4, s.assoc _ _ _ (by omega) (by omega) (by omega), ha _ _ _ (m2 x) (m2 y) (m2 z)]

/-! ### renamed -/
/-- an order of the numbers below n -/
structure Ord (n : Nat) (o : List Nat) : Prop where
  len : o.length = n
  lt : ∀ v ∈ o, v < n
  onto : ∀ v, v < n → v ∈ o
  inj : ∀ i j, i < n → j < n → o.getD i 0 = o.getD j 0 → i = j
theorem Ord.at {n : Nat} {o : List Nat} (h : Ord n o) {i : Nat} (hi : i < n) : o[i]? = some (o.getD i 0) ∧ o.getD i 0 < n := by
  have h1 : i < o.length := by rw [h.len]; exact hi
  have e : o[i]? = some (o.getD i 0) := by
    rw [List.getD_eq_getElem?_getD, List.getElem?_eq_getElem h1]; rfl
  exact ⟨e, h.lt _ (List.mem_of_getElem? e)⟩
theorem Ord.pre {n : Nat} {o : List Nat} (h : Ord n o) {v : Nat} (hv : v < n) : ∃ i, i < n ∧ o.getD i 0 = v := by
  obtain ⟨i, hi, e⟩ := List.mem_iff_getElem.mp (h.onto v hv)
  refine ⟨i, by rw [← h.len]; exact hi, ?_⟩
  rw [List.getD_eq_getElem?_getD, List.getElem?_eq_getElem hi]
  exact e
/-- R is T with the elements renamed by o -/
structure Ren (n : Nat) (T R : List (List Nat)) (o : List Nat) : Prop where
  len : R.length = n
  row : ∀ r ∈ R, r.length = n
  eq : ∀ x y, x < n → y < n → el R (o.getD x 0) (o.getD y 0) = o.getD (el T x y) 0
theorem sg_ren {n : Nat} {T R : List (List Nat)} {o : List Nat} (s : Sg n T) (h : Ord n o) (r : Ren n T R o) : Sg n R where
  pos := s.pos
  len := r.len
  row := r.row
  lt := fun x y hx hy => by
    obtain ⟨i, hi, rfl⟩ := h.pre hx
    obtain ⟨j, hj, rfl⟩ := h.pre hy
    rw [r.eq i j hi hj]
    exact (h.at (s.lt i j hi hj)).2
  assoc := fun x y z hx hy hz => by
    obtain ⟨i, hi, rfl⟩ := h.pre hx
    obtain ⟨j, hj, rfl⟩ := h.pre hy
    obtain ⟨k, hk, rfl⟩ := h.pre hz
    rw [r.eq i j hi hj, r.eq j k hj hk, r.eq _ _ (s.lt i j hi hj) hk, r.eq _ _ hi (s.lt j k hj hk), s.assoc i j k hi hj hk]
end K35
/-! The semigroup of some maps: closing, the table. Plain Lean. -/
namespace K35

def after (f g : List Nat) : List Nat := f.map fun x => g.getD x 0
/-- a map of k points -/
structure IsMap (k : Nat) (f : List Nat) : Prop where
  len : f.length = k
  lt : ∀ x ∈ f, x < k
theorem isMap_after {k : Nat} {f g : List Nat} (a : IsMap k f) (b : IsMap k g) : IsMap k (after f g) where
  len := by unfold after; rw [List.length_map]; exact a.len
  lt := fun x hx => by
    obtain ⟨y, hy, rfl⟩ := List.mem_map.mp hx
    have h1 : y < g.length := by rw [b.len]; exact a.lt y hy
    show g.getD y 0 < k
    rw [List.getD_eq_getElem?_getD, List.getElem?_eq_getElem h1]
    exact b.lt _ (List.getElem_mem h1)
theorem after_assoc {k : Nat} {f g h : List Nat} (a : IsMap k f) (b : IsMap k g) : after (after f g) h = after f (after g h) := by
  unfold after
  rw [List.map_map]
  apply List.map_congr_left
  intro x hx
  have h1 : x < g.length := by rw [b.len]; exact a.lt x hx
  show h.getD (g.getD x 0) 0 = _
  rw [getD_map' (d := 0) h1]

/-- the steps of the closing, as the loops take them -/
def stepG (f : List Nat) (acc : List (List Nat)) (g : List Nat) : List (List Nat) := if after f g ∈ acc ∨ 30 ≤ acc.length then acc else acc ++ [after f g]
def stepF (maps : List (List Nat)) (acc : List (List Nat)) (f : List Nat) : List (List Nat) := maps.foldl (stepG f) acc
def round (maps acc : List (List Nat)) : List (List Nat) := acc.foldl (stepF maps) acc
def first (maps : List (List Nat)) : List (List Nat) := maps.foldl (fun acc f => if f ∈ acc then acc else acc ++ [f]) []
def rounds (maps : List (List Nat)) : Nat → List (List Nat)
  | 0 => first maps
  | n + 1 => round maps (rounds maps n)
def closedF (maps : List (List Nat)) : List (List Nat) := rounds maps 30

/-- what comes by maps -/
inductive Gd (maps : List (List Nat)) : List Nat → Prop where
  | base {g} : g ∈ maps → Gd maps g
  | step {f g} : Gd maps f → g ∈ maps → Gd maps (after f g)

/-- kept by all steps -/
structure Cl (k : Nat) (maps acc : List (List Nat)) : Prop where
  nd : acc.Nodup
  map : ∀ f ∈ acc, IsMap k f
  gd : ∀ f ∈ acc, Gd maps f
  all : ∀ g ∈ maps, g ∈ acc

theorem stepG_cases (f : List Nat) (acc : List (List Nat)) (g : List Nat) : (stepG f acc g = acc ∧ (after f g ∈ acc ∨ 30 ≤ acc.length)) ∨ (stepG f acc g = acc ++ [after f g] ∧ after f g ∉ acc) := by
  unfold stepG
  by_cases h : after f g ∈ acc ∨ 30 ≤ acc.length
  · exact .inl ⟨if_pos h, h⟩
  · exact .inr ⟨if_neg h, fun z => h (.inl z)⟩
theorem nodup_snoc {α : Type} {l : List α} {x : α} (h : l.Nodup) (hx : x ∉ l) : (l ++ [x]).Nodup := by
  rw [List.nodup_append]
  refine ⟨h, by simp, fun a ha b hb => ?_⟩
  rw [List.mem_singleton.mp hb]
  rintro rfl
  exact hx ha
theorem Cl.stepG {k : Nat} {maps acc : List (List Nat)} {f g : List Nat} (c : Cl k maps acc) (hm : ∀ g ∈ maps, IsMap k g) (hf : IsMap k f ∧ Gd maps f) (hg : g ∈ maps) : Cl k maps (stepG f acc g) := by
  rcases stepG_cases f acc g with ⟨e, _⟩ | ⟨e, h⟩
  · rw [e]; exact c
  · rw [e]
    refine ⟨nodup_snoc c.nd h, fun x hx => ?_, fun x hx => ?_, fun x hx => List.mem_append_left _ (c.all x hx)⟩
    · rcases List.mem_append.mp hx with z | z
      · exact c.map x z
      · rw [List.mem_singleton.mp z]; exact isMap_after hf.1 (hm g hg)
    · rcases List.mem_append.mp hx with z | z
      · exact c.gd x z
      · rw [List.mem_singleton.mp z]; exact .step hf.2 hg
/-- a step only adds -/
theorem stepG_pre (f : List Nat) (acc : List (List Nat)) (g : List Nat) : ∃ more, stepG f acc g = acc ++ more := by
  rcases stepG_cases f acc g with ⟨e, _⟩ | ⟨e, _⟩
  · exact ⟨[], by rw [e, List.append_nil]⟩
  · exact ⟨_, e⟩
theorem foldl_pre {α β : Type} {s : List β → α → List β} (h : ∀ acc a, ∃ more, s acc a = acc ++ more) : ∀ (l : List α) (acc : List β), ∃ more, l.foldl s acc = acc ++ more
  | [], acc => ⟨[], by simp⟩
  | a :: r, acc => by
    obtain ⟨m1, e1⟩ := h acc a
    obtain ⟨m2, e2⟩ := foldl_pre h r (s acc a)
    exact ⟨m1 ++ m2, by rw [List.foldl_cons, e2, e1, List.append_assoc]⟩
theorem stepF_pre (maps acc : List (List Nat)) (f : List Nat) : ∃ more, stepF maps acc f = acc ++ more := foldl_pre (stepG_pre f) maps acc
theorem round_pre (maps acc : List (List Nat)) : ∃ more, round maps acc = acc ++ more := foldl_pre (fun acc f => stepF_pre maps acc f) acc acc

theorem Cl.foldG {k : Nat} {maps : List (List Nat)} {f : List Nat} (hm : ∀ g ∈ maps, IsMap k g) (hf : IsMap k f ∧ Gd maps f) : ∀ (gs : List (List Nat)) (acc : List (List Nat)), (∀ g ∈ gs, g ∈ maps) → Cl k maps acc → Cl k maps (gs.foldl (K35.stepG f) acc)
  | [], _, _, c => c
  | g :: r, acc, hs, c => Cl.foldG hm hf r _ (fun x hx => hs x (List.mem_cons_of_mem _ hx)) (c.stepG hm hf (hs g List.mem_cons_self))
theorem Cl.foldF {k : Nat} {maps : List (List Nat)} (hm : ∀ g ∈ maps, IsMap k g) : ∀ (fs : List (List Nat)) (acc : List (List Nat)), (∀ f ∈ fs, IsMap k f ∧ Gd maps f) → Cl k maps acc → Cl k maps (fs.foldl (stepF maps) acc)
  | [], _, _, c => c
  | f :: r, acc, hs, c => Cl.foldF hm r _ (fun x hx => hs x (List.mem_cons_of_mem _ hx)) (Cl.foldG hm (hs f List.mem_cons_self) maps acc (fun _ h => h) c)
theorem Cl.round {k : Nat} {maps acc : List (List Nat)} (hm : ∀ g ∈ maps, IsMap k g) (c : Cl k maps acc) : Cl k maps (K35.round maps acc) :=
  Cl.foldF hm acc acc (fun f hf => ⟨c.map f hf, c.gd f hf⟩) c

/-- all products with a map on the right are in, or the list is full -/
theorem foldG_in {maps : List (List Nat)} {f : List Nat} : ∀ (gs acc : List (List Nat)) (g : List Nat), g ∈ gs → after f g ∈ gs.foldl (stepG f) acc ∨ 30 ≤ (gs.foldl (stepG f) acc).length
  | g' :: r, acc, g, hg => by
    rw [List.foldl_cons]
    obtain ⟨more, e⟩ := foldl_pre (stepG_pre f) r (stepG f acc g')
    rcases List.mem_cons.mp hg with h | h
    · subst h
      rw [e]
      rcases stepG_cases f acc g with ⟨e1, h1 | h1⟩ | ⟨e1, _⟩
      · rw [e1]; exact .inl (List.mem_append_left _ h1)
      · rw [e1]; exact .inr (by rw [List.length_append]; omega)
      · rw [e1]; exact .inl (List.mem_append_left _ (List.mem_append_right _ (List.mem_singleton.mpr rfl)))
    · exact foldG_in (maps := maps) r _ g h
theorem foldF_in {maps : List (List Nat)} : ∀ (fs acc : List (List Nat)) (f g : List Nat), f ∈ fs → g ∈ maps → after f g ∈ fs.foldl (stepF maps) acc ∨ 30 ≤ (fs.foldl (stepF maps) acc).length
  | f' :: r, acc, f, g, hf, hg => by
    rw [List.foldl_cons]
    obtain ⟨more, e⟩ := foldl_pre (fun acc f => stepF_pre maps acc f) r (stepF maps acc f')
    rcases List.mem_cons.mp hf with h | h
    · subst h
      rw [e]
      rcases foldG_in (maps := maps) (f := f) maps acc g hg with h1 | h1
      · exact .inl (List.mem_append_left _ h1)
      · refine .inr ?_
        rw [List.length_append]
        have : 30 ≤ (stepF maps acc f).length := h1
        omega
    · exact foldF_in r _ f g h hg

theorem nodup_bound : ∀ (n : Nat) (l : List Nat), l.Nodup → (∀ x ∈ l, x < n) → l.length ≤ n
  | 0, l, _, h => by
    cases l with
    | nil => exact Nat.le_refl _
    | cons x r => exact absurd (h x List.mem_cons_self) (Nat.not_lt_zero _)
  | n + 1, l, nd, h => by
    have h1 := nodup_bound n (l.erase n) (nd.erase n) (fun x hx => by
      have h2 := (nd.mem_erase_iff).mp hx
      have h3 := h x h2.2
      have h4 : x ≠ n := h2.1
      omega)
    by_cases hn : n ∈ l
    · have := List.length_erase_of_mem hn
      omega
    · rw [List.erase_of_not_mem hn] at h1
      omega
def code (f : List Nat) : Nat := f.foldl (fun a x => a * 3 + x) 0
theorem code_lt {k : Nat} {f : List Nat} (hk : k = 2 ∨ k = 3) (h : IsMap k f) : code f < 27 := by
  obtain ⟨hl, hv⟩ := h
  rcases hk with rfl | rfl
  · match f, hl, hv with
    | [a, b], _, hv =>
      have h1 := hv a (by simp)
      have h2 := hv b (by simp)
      show (0 * 3 + a) * 3 + b < 27
      omega
  · match f, hl, hv with
    | [a, b, c], _, hv =>
      have h1 := hv a (by simp)
      have h2 := hv b (by simp)
      have h3 := hv c (by simp)
      show ((0 * 3 + a) * 3 + b) * 3 + c < 27
      omega
theorem code_inj {k : Nat} {f g : List Nat} (hk : k = 2 ∨ k = 3) (h : IsMap k f) (h' : IsMap k g) (e : code f = code g) : f = g := by
  obtain ⟨hl, hv⟩ := h
  obtain ⟨hl', hv'⟩ := h'
  rcases hk with rfl | rfl
  · match f, hl, hv, g, hl', hv', e with
    | [a, b], _, hv, [a', b'], _, hv', e =>
      have h1 := hv a (by simp)
      have h2 := hv b (by simp)
      have h3 := hv' a' (by simp)
      have h4 := hv' b' (by simp)
      have e' : (0 * 3 + a) * 3 + b = (0 * 3 + a') * 3 + b' := e
      have e1 : a = a' := by omega
      have e2 : b = b' := by omega
      rw [e1, e2]
  · match f, hl, hv, g, hl', hv', e with
    | [a, b, c], _, hv, [a', b', c'], _, hv', e =>
      have h1 := hv a (by simp)
      have h2 := hv b (by simp)
      have h3 := hv c (by simp)
      have h4 := hv' a' (by simp)
      have h5 := hv' b' (by simp)
      have h6 := hv' c' (by simp)
      have e' : ((0 * 3 + a) * 3 + b) * 3 + c = ((0 * 3 + a') * 3 + b') * 3 + c' := e
      have e1 : a = a' := by omega
      have e2 : b = b' := by omega
      have e3 : c = c' := by omega
      rw [e1, e2, e3]
theorem nodup_map_inj {α β : Type} {g : α → β} : ∀ {l : List α}, l.Nodup → (∀ a ∈ l, ∀ b ∈ l, g a = g b → a = b) → (l.map g).Nodup
  | [], _, _ => by simp
  | a :: r, nd, h => by
    rw [List.map_cons, List.nodup_cons]
    rw [List.nodup_cons] at nd
    refine ⟨fun hm => ?_, nodup_map_inj nd.2 fun x hx y hy => h x (List.mem_cons_of_mem _ hx) y (List.mem_cons_of_mem _ hy)⟩
    obtain ⟨b, hb, e⟩ := List.mem_map.mp hm
    have := h b (List.mem_cons_of_mem _ hb) a List.mem_cons_self e
    subst this
    exact nd.1 hb
theorem Cl.small {k : Nat} {maps acc : List (List Nat)} (hk : k = 2 ∨ k = 3) (c : Cl k maps acc) : acc.length ≤ 27 := by
  have h := nodup_bound 27 (acc.map code) (nodup_map_inj c.nd fun a ha b hb e => code_inj hk (c.map a ha) (c.map b hb) e) (fun x hx => by
    obtain ⟨f, hf, rfl⟩ := List.mem_map.mp hx
    exact code_lt hk (c.map f hf))
  rwa [List.length_map] at h

theorem first_cl {k : Nat} {maps : List (List Nat)} (hm : ∀ g ∈ maps, IsMap k g) : Cl k maps (first maps) := by
  have main : ∀ (gs acc : List (List Nat)), (∀ g ∈ gs, g ∈ maps) → acc.Nodup → (∀ f ∈ acc, f ∈ maps) →
      (gs.foldl (fun acc f => if f ∈ acc then acc else acc ++ [f]) acc).Nodup ∧ (∀ f ∈ gs.foldl (fun acc f => if f ∈ acc then acc else acc ++ [f]) acc, f ∈ maps) ∧
      (∀ f ∈ acc, f ∈ gs.foldl (fun acc f => if f ∈ acc then acc else acc ++ [f]) acc) ∧ (∀ f ∈ gs, f ∈ gs.foldl (fun acc f => if f ∈ acc then acc else acc ++ [f]) acc) := by
    intro gs
    induction gs with
    | nil => intro acc _ nd h; exact ⟨nd, h, fun _ h => h, fun _ h => by cases h⟩
    | cons g r ih =>
      intro acc hs nd h
      rw [List.foldl_cons]
      have hr : ∀ x ∈ r, x ∈ maps := fun x hx => hs x (List.mem_cons_of_mem _ hx)
      by_cases hg : g ∈ acc
      · rw [if_pos hg]
        obtain ⟨a1, a2, a3, a4⟩ := ih acc hr nd h
        refine ⟨a1, a2, a3, fun f hf => ?_⟩
        rcases List.mem_cons.mp hf with z | z
        · rw [z]; exact a3 g hg
        · exact a4 f z
      · rw [if_neg hg]
        obtain ⟨a1, a2, a3, a4⟩ := ih (acc ++ [g]) hr (nodup_snoc nd hg) (fun x hx => by
          rcases List.mem_append.mp hx with z | z
          · exact h x z
          · rw [List.mem_singleton.mp z]; exact hs g List.mem_cons_self)
        refine ⟨a1, a2, fun f hf => a3 f (List.mem_append_left _ hf), fun f hf => ?_⟩
        rcases List.mem_cons.mp hf with z | z
        · rw [z]; exact a3 g (List.mem_append_right _ (List.mem_singleton.mpr rfl))
        · exact a4 f z
  obtain ⟨a1, a2, _, a4⟩ := main maps [] (fun _ h => h) (by simp) (fun _ h => by cases h)
  exact ⟨a1, fun f hf => hm f (a2 f hf), fun f hf => .base (a2 f hf), a4⟩

theorem rounds_cl {k : Nat} {maps : List (List Nat)} (hm : ∀ g ∈ maps, IsMap k g) : ∀ n, Cl k maps (rounds maps n)
  | 0 => first_cl hm
  | n + 1 => (rounds_cl hm n).round hm
/-- the end is a fixed point -/
theorem rounds_fix {k : Nat} {maps : List (List Nat)} (hk : k = 2 ∨ k = 3) (hm : ∀ g ∈ maps, IsMap k g) : round maps (closedF maps) = closedF maps := by
  have grow : ∀ n, round maps (rounds maps n) = rounds maps n ∨ n + 1 ≤ (rounds maps (n + 1)).length := by
    intro n
    induction n with
    | zero =>
      obtain ⟨more, e⟩ := round_pre maps (rounds maps 0)
      cases more with
      | nil => exact .inl (by rw [e, List.append_nil])
      | cons x r =>
        refine .inr ?_
        show 1 ≤ (round maps (rounds maps 0)).length
        rw [e, List.length_append, List.length_cons]; omega
    | succ n ih =>
      obtain ⟨more, e⟩ := round_pre maps (rounds maps (n + 1))
      cases more with
      | nil => exact .inl (by rw [e, List.append_nil])
      | cons x r =>
        rcases ih with h | h
        · refine .inl ?_
          show round maps (round maps (rounds maps n)) = round maps (rounds maps n)
          rw [h, h]
        · refine .inr ?_
          show n + 1 + 1 ≤ (round maps (rounds maps (n + 1))).length
          rw [e, List.length_append, List.length_cons]; omega
  rcases grow 30 with h | h
  · exact h
  · have h31 : 30 + 1 ≤ (rounds maps 31).length := h
    have := (rounds_cl hm 31).small hk
    omega

/-- what a closed list of maps is -/
structure Fam (k : Nat) (fs : List (List Nat)) : Prop where
  nd : fs.Nodup
  ne : fs ≠ []
  map : ∀ f ∈ fs, IsMap k f
  cl : ∀ f ∈ fs, ∀ g ∈ fs, after f g ∈ fs
theorem fam_closed {k : Nat} {maps : List (List Nat)} (hk : k = 2 ∨ k = 3) (hm : ∀ g ∈ maps, IsMap k g) (hne : maps ≠ []) : Fam k (closedF maps) := by
  have c : Cl k maps (closedF maps) := rounds_cl hm 30
  have fx := rounds_fix hk hm
  have sm := c.small hk
  have right : ∀ f ∈ closedF maps, ∀ g ∈ maps, after f g ∈ closedF maps := fun f hf g hg => by
    have h := foldF_in (maps := maps) (closedF maps) (closedF maps) f g hf hg
    have e : (closedF maps).foldl (stepF maps) (closedF maps) = closedF maps := fx
    rw [e] at h
    rcases h with h | h
    · exact h
    · omega
  have gdMap : ∀ h, Gd maps h → IsMap k h := fun h hh => by
    induction hh with
    | base hg => exact hm _ hg
    | step _ hg ih => exact isMap_after ih (hm _ hg)
  refine ⟨c.nd, fun e => ?_, c.map, fun f hf g hg => ?_⟩
  · obtain ⟨g, hg⟩ := List.exists_mem_of_ne_nil _ hne
    have := c.all g hg
    rw [e] at this
    cases this
  · have key : ∀ h, Gd maps h → after f h ∈ closedF maps := fun h hh => by
      induction hh with
      | base hg => exact right f hf _ hg
      | @step f' g' hf' hg' ih =>
        rw [← after_assoc (h := g') (c.map f hf) (gdMap _ hf')]
        exact right _ ih _ hg'
    exact key g (c.gd g hg)
theorem fam_const {k c : Nat} (hc : c < k) : Fam k [(List.range k).map fun _ => c] := by
  refine ⟨by simp, by simp, fun f hf => ?_, fun f hf g hg => ?_⟩
  · rw [List.mem_singleton.mp hf]
    exact ⟨by simp, fun x hx => by
      obtain ⟨_, _, rfl⟩ := List.mem_map.mp hx
      exact hc⟩
  · rw [List.mem_singleton.mp hf, List.mem_singleton.mp hg]
    refine List.mem_singleton.mpr ?_
    unfold after
    rw [List.map_map]
    apply List.map_congr_left
    intro x _
    show ((List.range k).map fun _ => c).getD c 0 = c
    rw [getD_map_range _ _ _ hc]

/-- the place of an item -/
def famT (fs : List (List Nat)) : List (List Nat) := fs.map fun f => fs.map fun g => fs.idxOf (after f g)
theorem idxOf_get {fs : List (List Nat)} {f : List Nat} (h : f ∈ fs) : fs[fs.idxOf f]? = some f := by
  have h1 : fs.idxOf f < fs.length := List.idxOf_lt_length_of_mem h
  rw [List.getElem?_eq_getElem h1, List.getElem_idxOf h1]
theorem sg_fam {k : Nat} {fs : List (List Nat)} (h : Fam k fs) : Sg fs.length (famT fs) := by
  have at_ : ∀ x, x < fs.length → ∃ f, fs[x]? = some f ∧ f ∈ fs := fun x hx => ⟨fs[x], List.getElem?_eq_getElem hx, List.getElem_mem hx⟩
  have elx : ∀ x y f g, fs[x]? = some f → fs[y]? = some g → el (famT fs) x y = fs.idxOf (after f g) := fun x y f g e1 e2 => by
    refine el_get (r := fs.map fun g => fs.idxOf (after f g)) ?_ ?_
    · unfold famT; rw [List.getElem?_map, e1]; rfl
    · rw [List.getElem?_map, e2]; rfl
  refine ⟨?_, ?_, ?_, ?_, ?_⟩
  · exact List.length_pos_iff.mpr h.ne
  · unfold famT; rw [List.length_map]
  · intro r hr
    obtain ⟨f, _, rfl⟩ := List.mem_map.mp hr
    rw [List.length_map]
  · intro x y hx hy
    obtain ⟨f, e1, m1⟩ := at_ x hx
    obtain ⟨g, e2, m2⟩ := at_ y hy
    rw [elx x y f g e1 e2]
    exact List.idxOf_lt_length_of_mem (h.cl f m1 g m2)
  · intro x y z hx hy hz
    obtain ⟨f, e1, m1⟩ := at_ x hx
    obtain ⟨g, e2, m2⟩ := at_ y hy
    obtain ⟨u, e3, m3⟩ := at_ z hz
    rw [elx x y f g e1 e2, elx y z g u e2 e3, elx _ z _ u (idxOf_get (h.cl f m1 g m2)) e3, elx x _ f _ e1 (idxOf_get (h.cl g m2 u m3)), after_assoc (h.map f m1) (h.map g m2)]
end K35
/-! The search for homomorphisms: steps, extensions, depth first. Plain Lean. -/
namespace K35

abbrev Im := List (Option Nat)
def gt (im : Im) (x : Nat) : Nat := (im.getD x none).getD 0
abbrev Trip := Nat × Nat × Nat
def fillS (Tb : List (List Nat)) (im : Im) (t : Trip) : Im := im.set t.1 (some (el Tb (gt im t.2.1) (gt im t.2.2)))
def fill (Tb : List (List Nat)) (md : List Trip) (im : Im) : Im := md.foldl (fillS Tb) im
structure Step where
  x : Nat
  kn : List Nat
  md : List Trip

inductive Made (T : List (List Nat)) (k0 : List Nat) : List Trip → List Nat → Prop where
  | nil : Made T k0 [] k0
  | snoc {md : List Trip} {kn : List Nat} {l r : Nat} : Made T k0 md kn → l ∈ kn → r ∈ kn → el T l r ∉ kn → Made T k0 (md ++ [(el T l r, l, r)]) (kn ++ [el T l r])

theorem Made.sub {T : List (List Nat)} {k0 : List Nat} {md : List Trip} {kn : List Nat} (h : Made T k0 md kn) : ∀ z ∈ k0, z ∈ kn := by
  induction h with
  | nil => exact fun _ h => h
  | snoc _ _ _ _ ih => exact fun z hz => List.mem_append_left _ (ih z hz)
theorem Made.nodup {T : List (List Nat)} {k0 : List Nat} {md : List Trip} {kn : List Nat} (h : Made T k0 md kn) (h0 : k0.Nodup) : kn.Nodup := by
  induction h with
  | nil => exact h0
  | snoc _ _ _ hp ih =>
    rw [List.nodup_append]
    refine ⟨ih, by simp, fun a ha b hb => ?_⟩
    rw [List.mem_singleton.mp hb]
    rintro rfl
    exact hp ha
theorem Made.lt {n : Nat} {T : List (List Nat)} (s : Sg n T) {k0 : List Nat} {md : List Trip} {kn : List Nat} (h : Made T k0 md kn) (h0 : ∀ z ∈ k0, z < n) : ∀ z ∈ kn, z < n := by
  induction h with
  | nil => exact h0
  | snoc _ hl hr _ ih =>
    intro z hz
    rcases List.mem_append.mp hz with q | q
    · exact ih z q
    · rw [List.mem_singleton.mp q]; exact s.lt _ _ (ih _ hl) (ih _ hr)
theorem Made.trips {n : Nat} {T : List (List Nat)} (s : Sg n T) {k0 : List Nat} {md : List Trip} {kn : List Nat} (h : Made T k0 md kn) (h0 : ∀ z ∈ k0, z < n) :
    ∀ t ∈ md, t.1 < n ∧ t.2.1 < n ∧ t.2.2 < n := by
  induction h with
  | nil => intro t ht; cases ht
  | snoc hm hl hr _ ih =>
    intro t ht
    rcases List.mem_append.mp ht with q | q
    · exact ih t q
    · rw [List.mem_singleton.mp q]
      have a := hm.lt s h0
      exact ⟨s.lt _ _ (a _ hl) (a _ hr), a _ hl, a _ hr⟩

/-- what closing gives: known so far, then the steps -/
inductive StepsOk (n : Nat) (T : List (List Nat)) : List Nat → List Step → Prop where
  | nil {kn : List Nat} : (∀ z, z < n → z ∈ kn) → StepsOk n T kn []
  | cons {kn : List Nat} {st : Step} {rest : List Step} : st.x < n → st.x ∉ kn → (∀ z, z < st.x → z ∈ kn) → Made T (kn ++ [st.x]) st.md st.kn →
      (∀ l ∈ st.kn, ∀ r ∈ st.kn, el T l r ∈ st.kn) → StepsOk n T st.kn rest → StepsOk n T kn (st :: rest)

structure Asg (n m : Nat) (kn : List Nat) (im : Im) : Prop where
  len : im.length = n
  at_ : ∀ z ∈ kn, im.getD z none = some (gt im z) ∧ gt im z < m
theorem Asg.mk' {n m : Nat} {kn : List Nat} {im : Im} (h : im.length = n) (a : ∀ z ∈ kn, ∃ v, im.getD z none = some v ∧ v < m) : Asg n m kn im :=
  ⟨h, fun z hz => by
    obtain ⟨v, e, hv⟩ := a z hz
    have : gt im z = v := by unfold gt; rw [e]; rfl
    rw [this]; exact ⟨e, hv⟩⟩
theorem getD_set_self {im : Im} {x : Nat} {v : Option Nat} (h : x < im.length) : (im.set x v).getD x none = v := by
  rw [List.getD_eq_getElem?_getD, List.getElem?_set_self h]; rfl
theorem getD_set_ne {im : Im} {x y : Nat} {v : Option Nat} (h : x ≠ y) : (im.set x v).getD y none = im.getD y none := by
  rw [List.getD_eq_getElem?_getD, List.getD_eq_getElem?_getD, List.getElem?_set_ne h]
theorem gt_set_ne {im : Im} {x y : Nat} {v : Option Nat} (h : x ≠ y) : gt (im.set x v) y = gt im y := by
  unfold gt; rw [getD_set_ne h]
theorem gt_set_self {im : Im} {x v : Nat} (h : x < im.length) : gt (im.set x (some v)) x = v := by
  unfold gt; rw [getD_set_self h]; rfl

theorem Asg.set {n m : Nat} {kn : List Nat} {im : Im} {x v : Nat} (a : Asg n m kn im) (hx : x < n) (hn : x ∉ kn) (hv : v < m) : Asg n m (kn ++ [x]) (im.set x (some v)) := by
  refine .mk' (by rw [List.length_set]; exact a.len) fun z hz => ?_
  rcases List.mem_append.mp hz with q | q
  · obtain ⟨e, l⟩ := a.at_ z q
    exact ⟨gt im z, by rw [getD_set_ne (by rintro rfl; exact hn q)]; exact e, l⟩
  · rw [List.mem_singleton.mp q]
    exact ⟨v, getD_set_self (by rw [a.len]; exact hx), hv⟩

theorem fill_snoc (Tb : List (List Nat)) (md : List Trip) (t : Trip) (im : Im) : fill Tb (md ++ [t]) im = fillS Tb (fill Tb md im) t := by
  unfold fill; rw [List.foldl_append]; rfl
/-- the values that are laid -/
theorem fill_asg {n m : Nat} {T Tb : List (List Nat)} (s : Sg n T) (sb : Sg m Tb) {k0 : List Nat} {md : List Trip} {kn : List Nat} (h : Made T k0 md kn) (h0 : ∀ z ∈ k0, z < n) {im : Im} (a : Asg n m k0 im) :
    Asg n m kn (fill Tb md im) ∧ ∀ z ∈ k0, gt (fill Tb md im) z = gt im z := by
  induction h with
  | nil => exact ⟨a, fun _ _ => rfl⟩
  | @snoc md kn l r hm hl hr hp ih =>
    obtain ⟨i1, i2⟩ := ih
    rw [fill_snoc]
    have lt := hm.lt s h0
    refine ⟨i1.set (s.lt _ _ (lt _ hl) (lt _ hr)) hp (sb.lt _ _ (i1.at_ l hl).2 (i1.at_ r hr).2), fun z hz => ?_⟩
    show gt ((fill Tb md im).set (el T l r) _) z = _
    rw [gt_set_ne (by rintro rfl; exact hp (hm.sub _ hz))]
    exact i2 z hz

def Hom (n : Nat) (T Tb : List (List Nat)) (h : Nat → Nat) : Prop := ∀ x y, x < n → y < n → h (el T x y) = el Tb (h x) (h y)
def Agr (kn : List Nat) (im : Im) (h : Nat → Nat) : Prop := ∀ z ∈ kn, gt im z = h z
/-- a homomorphism is met -/
theorem fill_agr {n m : Nat} {T Tb : List (List Nat)} (s : Sg n T) (sb : Sg m Tb) {k0 : List Nat} {md : List Trip} {kn : List Nat} (h : Made T k0 md kn) (h0 : ∀ z ∈ k0, z < n) {im : Im} (a : Asg n m k0 im) {f : Nat → Nat} (hf : Hom n T Tb f) (ag : Agr k0 im f) :
    Agr kn (fill Tb md im) f := by
  induction h with
  | nil => exact ag
  | @snoc md kn l r hm hl hr hp ih =>
    rw [fill_snoc]
    have lt := hm.lt s h0
    have as_ := (fill_asg s sb hm h0 a).1
    intro z hz
    show gt ((fill Tb md im).set (el T l r) (some (el Tb (gt (fill Tb md im) l) (gt (fill Tb md im) r)))) z = f z
    rcases List.mem_append.mp hz with q | q
    · rw [gt_set_ne (by rintro rfl; exact hp q)]
      exact ih z q
    · rw [List.mem_singleton.mp q, gt_set_self (by rw [as_.len]; exact s.lt _ _ (lt _ hl) (lt _ hr)), ih l hl, ih r hr]
      exact (hf l r (lt _ hl) (lt _ hr)).symm

def okB (T Tb : List (List Nat)) (kn : List Nat) (f : Im) : Bool := kn.all fun l => kn.all fun r => decide (gt f (el T l r) = el Tb (gt f l) (gt f r))
def injB (kn : List Nat) (f : Im) : Bool := decide ((kn.map (gt f)).Nodup)
def ext (T Tb : List (List Nat)) (u : Bool) (im : Im) (st : Step) (y : Nat) : Option Im :=
  if okB T Tb st.kn (fill Tb st.md (im.set st.x (some y))) = true then
    if u && !injB st.kn (fill Tb st.md (im.set st.x (some y))) then none else some (fill Tb st.md (im.set st.x (some y)))
  else none
theorem okB_iff {T Tb : List (List Nat)} {kn : List Nat} {f : Im} : okB T Tb kn f = true ↔ ∀ l ∈ kn, ∀ r ∈ kn, gt f (el T l r) = el Tb (gt f l) (gt f r) := by
  unfold okB; simp [List.all_eq_true]
theorem injB_iff {kn : List Nat} {f : Im} : injB kn f = true ↔ (kn.map (gt f)).Nodup := by
  unfold injB; simp

/-- a partial homomorphism -/
structure Part (n m : Nat) (T Tb : List (List Nat)) (u : Bool) (kn : List Nat) (im : Im) : Prop where
  asg : Asg n m kn im
  ok : okB T Tb kn im = true
  inj : u = true → injB kn im = true

section
variable {n m : Nat} {T Tb : List (List Nat)} {u : Bool}
theorem ext_some (s : Sg n T) (sb : Sg m Tb) {kn : List Nat} {st : Step} {im f : Im} {y : Nat} (hk : ∀ z ∈ kn, z < n) (hx : st.x < n) (hn : st.x ∉ kn) (hm : Made T (kn ++ [st.x]) st.md st.kn) (a : Asg n m kn im) (hy : y < m)
    (e : ext T Tb u im st y = some f) : Part n m T Tb u st.kn f ∧ (∀ z ∈ kn, gt f z = gt im z) ∧ gt f st.x = y := by
  have h0 : ∀ z ∈ kn ++ [st.x], z < n := fun z hz => by
    rcases List.mem_append.mp hz with q | q
    · exact hk z q
    · rw [List.mem_singleton.mp q]; exact hx
  have a1 := a.set hx hn hy
  obtain ⟨a2, a3⟩ := fill_asg s sb hm h0 a1
  unfold ext at e
  by_cases h1 : okB T Tb st.kn (fill Tb st.md (im.set st.x (some y))) = true
  · rw [if_pos h1] at e
    by_cases h2 : (u && !injB st.kn (fill Tb st.md (im.set st.x (some y)))) = true
    · rw [if_pos h2] at e; cases e
    · rw [if_neg h2] at e
      have e' := Option.some.inj e
      subst e'
      refine ⟨⟨a2, h1, fun hu => ?_⟩, fun z hz => ?_, ?_⟩
      · cases hi : injB st.kn (fill Tb st.md (im.set st.x (some y))) with
        | true => rfl
        | false => rw [hu, hi] at h2; exact absurd rfl h2
      · rw [a3 z (List.mem_append_left _ hz), gt_set_ne (by rintro rfl; exact hn hz)]
      · rw [a3 st.x (List.mem_append_right _ (List.mem_singleton.mpr rfl)), gt_set_self (by rw [a.len]; exact hx)]
  · rw [if_neg h1] at e; cases e

theorem ext_hom (s : Sg n T) (sb : Sg m Tb) {kn : List Nat} {st : Step} {im : Im} {h : Nat → Nat} (hk : ∀ z ∈ kn, z < n) (hx : st.x < n) (hn : st.x ∉ kn) (hm : Made T (kn ++ [st.x]) st.md st.kn)
    (hnd : st.kn.Nodup) (hc : ∀ l ∈ st.kn, ∀ r ∈ st.kn, el T l r ∈ st.kn) (a : Asg n m kn im) (hh : Hom n T Tb h) (hm' : ∀ z, z < n → h z < m) (hi : u = true → ∀ x y, x < n → y < n → h x = h y → x = y) (ag : Agr kn im h) :
    ∃ f, ext T Tb u im st (h st.x) = some f ∧ Agr st.kn f h := by
  have h0 : ∀ z ∈ kn ++ [st.x], z < n := fun z hz => by
    rcases List.mem_append.mp hz with q | q
    · exact hk z q
    · rw [List.mem_singleton.mp q]; exact hx
  have a1 := a.set hx hn (hm' _ hx)
  have lt := hm.lt s h0
  have ag1 : Agr (kn ++ [st.x]) (im.set st.x (some (h st.x))) h := fun z hz => by
    rcases List.mem_append.mp hz with q | q
    · rw [gt_set_ne (by rintro rfl; exact hn q)]; exact ag z q
    · rw [List.mem_singleton.mp q, gt_set_self (by rw [a.len]; exact hx)]
  have ag2 := fill_agr s sb hm h0 a1 hh ag1
  have h1 : okB T Tb st.kn (fill Tb st.md (im.set st.x (some (h st.x)))) = true := okB_iff.mpr fun l hl r hr => by
    rw [ag2 _ (hc l hl r hr), ag2 l hl, ag2 r hr]
    exact hh l r (lt l hl) (lt r hr)
  have h2 : ¬ (u && !injB st.kn (fill Tb st.md (im.set st.x (some (h st.x))))) = true := by
    intro q
    rw [Bool.and_eq_true] at q
    obtain ⟨hu, q⟩ := q
    have : injB st.kn (fill Tb st.md (im.set st.x (some (h st.x)))) = true := injB_iff.mpr (by
      have aux : ∀ l : List Nat, l.Nodup → (∀ z ∈ l, z ∈ st.kn) → (l.map (gt (fill Tb st.md (im.set st.x (some (h st.x)))))).Nodup := by
        intro l
        induction l with
        | nil => intro _ _; simp
        | cons z r ih =>
          intro nd hs
          rw [List.map_cons, List.nodup_cons]
          rw [List.nodup_cons] at nd
          refine ⟨fun hz => ?_, ih nd.2 fun w hw => hs w (List.mem_cons_of_mem _ hw)⟩
          obtain ⟨w, hw, e⟩ := List.mem_map.mp hz
          have hzk := hs z List.mem_cons_self
          have hwk := hs w (List.mem_cons_of_mem _ hw)
          rw [ag2 w hwk, ag2 z hzk] at e
          have := hi hu w z (lt w hwk) (lt z hzk) e
          subst this
          exact nd.1 hw
      exact aux _ hnd fun _ h => h)
    rw [this] at q; cases q
  refine ⟨_, ?_, ag2⟩
  unfold ext
  rw [if_pos h1, if_neg h2]

/-! ### depth first -/
def dfs (m : Nat) (T Tb : List (List Nat)) (u : Bool) : List Step → Im → List Im
  | [], im => [im]
  | st :: rest, im => (List.range m).flatMap fun y => match ext T Tb u im st y with
    | none => []
    | some f => dfs m T Tb u rest f
theorem dfs_cons {st : Step} {rest : List Step} {im : Im} : dfs m T Tb u (st :: rest) im = (List.range m).flatMap fun y => match ext T Tb u im st y with
    | none => []
    | some f => dfs m T Tb u rest f := rfl
theorem mem_dfs_cons {st : Step} {rest : List Step} {im f : Im} : f ∈ dfs m T Tb u (st :: rest) im ↔ ∃ y g, y < m ∧ ext T Tb u im st y = some g ∧ f ∈ dfs m T Tb u rest g := by
  rw [dfs_cons, List.mem_flatMap]
  constructor
  · rintro ⟨y, hy, h⟩
    cases e : ext T Tb u im st y with
    | none => rw [e] at h; cases h
    | some g => rw [e] at h; exact ⟨y, g, List.mem_range.mp hy, e, h⟩
  · rintro ⟨y, g, hy, e, h⟩
    refine ⟨y, List.mem_range.mpr hy, ?_⟩
    rw [e]; exact h

theorem kn_lt (s : Sg n T) {kn : List Nat} {st : Step} (hk : ∀ z ∈ kn, z < n) (hx : st.x < n) (hm : Made T (kn ++ [st.x]) st.md st.kn) : ∀ z ∈ st.kn, z < n :=
  hm.lt s fun z hz => by
    rcases List.mem_append.mp hz with q | q
    · exact hk z q
    · rw [List.mem_singleton.mp q]; exact hx
theorem kn_nd {kn : List Nat} {st : Step} (hk : kn.Nodup) (hn : st.x ∉ kn) (hm : Made T (kn ++ [st.x]) st.md st.kn) : st.kn.Nodup :=
  hm.nodup (by
    rw [List.nodup_append]
    refine ⟨hk, by simp, fun a ha b hb => ?_⟩
    rw [List.mem_singleton.mp hb]
    rintro rfl
    exact hn ha)

theorem dfs_sound (s : Sg n T) (sb : Sg m Tb) {kn : List Nat} {steps : List Step} (h : StepsOk n T kn steps) : (∀ z ∈ kn, z < n) → ∀ im, Part n m T Tb u kn im → ∀ f ∈ dfs m T Tb u steps im,
    (∃ kn', (∀ z, z < n → z ∈ kn') ∧ Part n m T Tb u kn' f) ∧ ∀ z ∈ kn, gt f z = gt im z := by
  induction h with
  | nil ha =>
    intro hk im p f hf
    rw [List.mem_singleton.mp (show f ∈ [im] from hf)]
    exact ⟨⟨_, ha, p⟩, fun _ _ => rfl⟩
  | @cons kn st rest hx hn hz hm hc _ ih =>
    intro hk im p f hf
    obtain ⟨y, g, hy, e, hf⟩ := mem_dfs_cons.mp hf
    obtain ⟨p1, e1, e2⟩ := ext_some s sb hk hx hn hm p.asg hy e
    obtain ⟨q1, q2⟩ := ih (kn_lt s hk hx hm) g p1 f hf
    refine ⟨q1, fun z hzz => ?_⟩
    rw [q2 z (hm.sub z (List.mem_append_left _ hzz)), e1 z hzz]
theorem dfs_full (s : Sg n T) (sb : Sg m Tb) {kn : List Nat} {steps : List Step} {h : Nat → Nat} (hh : Hom n T Tb h) (hm' : ∀ z, z < n → h z < m) (hi : u = true → ∀ x y, x < n → y < n → h x = h y → x = y) (hs : StepsOk n T kn steps) :
    (∀ z ∈ kn, z < n) → kn.Nodup → ∀ im, Part n m T Tb u kn im → Agr kn im h → ∃ f ∈ dfs m T Tb u steps im, ∀ z, z < n → gt f z = h z := by
  induction hs with
  | nil ha =>
    intro _ _ im _ ag
    exact ⟨im, List.mem_singleton.mpr rfl, fun z hz => ag z (ha z hz)⟩
  | @cons kn st rest hx hn hz hm hc _ ih =>
    intro hk hnd im p ag
    obtain ⟨g, e, ag2⟩ := ext_hom s sb hk hx hn hm (kn_nd hnd hn hm) hc p.asg hh hm' hi ag
    obtain ⟨p1, _, _⟩ := ext_some s sb hk hx hn hm p.asg (hm' _ hx) e
    obtain ⟨f, hf, hq⟩ := ih (kn_lt s hk hx hm) (kn_nd hnd hn hm) g p1 ag2
    exact ⟨f, mem_dfs_cons.mpr ⟨_, g, hm' _ hx, e, hf⟩, hq⟩

def LtI (f g : Im) : Prop := ∃ k, (∀ j, j < k → gt f j = gt g j) ∧ gt f k < gt g k ∧ k < f.length
theorem pairwise_flatMap {α β : Type} {R : β → β → Prop} {g : α → List β} : ∀ {l : List α}, (∀ a ∈ l, (g a).Pairwise R) → l.Pairwise (fun a b => ∀ x ∈ g a, ∀ y ∈ g b, R x y) → (l.flatMap g).Pairwise R
  | [], _, _ => List.Pairwise.nil
  | a :: r, h1, h2 => by
    rw [List.flatMap_cons, List.pairwise_append]
    rw [List.pairwise_cons] at h2
    refine ⟨h1 a List.mem_cons_self, pairwise_flatMap (fun b hb => h1 b (List.mem_cons_of_mem _ hb)) h2.2, fun x hx y hy => ?_⟩
    obtain ⟨b, hb, hyb⟩ := List.mem_flatMap.mp hy
    exact h2.1 b hb x hx y hyb
theorem dfs_sorted (s : Sg n T) (sb : Sg m Tb) {kn : List Nat} {steps : List Step} (h : StepsOk n T kn steps) : (∀ z ∈ kn, z < n) → ∀ im, Part n m T Tb u kn im → (dfs m T Tb u steps im).Pairwise LtI := by
  induction h with
  | nil _ => intro _ im _; exact List.pairwise_singleton _ _
  | @cons kn st rest hx hn hz hm hc hr ih =>
    intro hk im p
    rw [dfs_cons]
    have hk2 := kn_lt s hk hx hm
    refine pairwise_flatMap (fun y hy => ?_) ?_
    · cases e : ext T Tb u im st y with
      | none => exact List.Pairwise.nil
      | some g => exact ih hk2 g (ext_some s sb hk hx hn hm p.asg (List.mem_range.mp hy) e).1
    · have hlt : (List.range m).Pairwise (· < ·) := List.pairwise_lt_range
      have hmem : ∀ y ∈ List.range m, y < m := fun y hy => List.mem_range.mp hy
      refine (List.Pairwise.and_mem.mp hlt).imp ?_
      rintro y y' ⟨my, my', hyy⟩ f hf f' hf'
      cases e : ext T Tb u im st y with
      | none => rw [e] at hf; cases hf
      | some g =>
        cases e' : ext T Tb u im st y' with
        | none => rw [e'] at hf'; cases hf'
        | some g' =>
          rw [e] at hf
          rw [e'] at hf'
          obtain ⟨p1, a1, b1⟩ := ext_some s sb hk hx hn hm p.asg (hmem y my) e
          obtain ⟨p2, a2, b2⟩ := ext_some s sb hk hx hn hm p.asg (hmem y' my') e'
          obtain ⟨⟨_, _, pf⟩, q1⟩ := dfs_sound s sb hr hk2 g p1 f hf
          obtain ⟨_, q2⟩ := dfs_sound s sb hr hk2 g' p2 f' hf'
          have xin : st.x ∈ st.kn := hm.sub _ (List.mem_append_right _ (List.mem_singleton.mpr rfl))
          refine ⟨st.x, fun j hj => ?_, ?_, by rw [pf.asg.len]; exact hx⟩
          · have jin := hm.sub j (List.mem_append_left _ (hz j hj))
            rw [q1 j jin, q2 j jin, a1 j (hz j hj), a2 j (hz j hj)]
          · rw [q1 _ xin, q2 _ xin, b1, b2]; exact hyy
end
end K35
/-! All maps, in order; the search gives those that keep products; the loops of the search. Plain Lean. -/
namespace K35

def rowsF (m : Nat) : Nat → List (List Nat)
  | 0 => [[]]
  | k + 1 => (rowsF m k).flatMap fun row => (List.range m).map fun x => row ++ [x]
theorem mem_rowsF {m : Nat} : ∀ {k : Nat} {L : List Nat}, L ∈ rowsF m k ↔ L.length = k ∧ ∀ v ∈ L, v < m
  | 0, L => by
    constructor
    · intro h
      rw [List.mem_singleton.mp (show L ∈ [[]] from h)]
      exact ⟨rfl, fun _ h => by cases h⟩
    · rintro ⟨h, _⟩
      rw [List.length_eq_zero_iff.mp h]
      exact List.mem_singleton.mpr rfl
  | k + 1, L => by
    show L ∈ (rowsF m k).flatMap _ ↔ _
    rw [List.mem_flatMap]
    constructor
    · rintro ⟨row, hr, h⟩
      obtain ⟨x, hx, rfl⟩ := List.mem_map.mp h
      obtain ⟨h1, h2⟩ := mem_rowsF.mp hr
      refine ⟨by simp [h1], fun v hv => ?_⟩
      rcases List.mem_append.mp hv with q | q
      · exact h2 v q
      · rw [List.mem_singleton.mp q]; exact List.mem_range.mp hx
    · rintro ⟨h1, h2⟩
      have hne : L ≠ [] := fun e => by rw [e] at h1; cases h1
      refine ⟨L.dropLast, mem_rowsF.mpr ⟨by simp [h1], fun v hv => h2 v (List.dropLast_subset L hv)⟩, ?_⟩
      refine List.mem_map.mpr ⟨L.getLast hne, List.mem_range.mpr (h2 _ (List.getLast_mem hne)), List.dropLast_concat_getLast hne⟩
def LtL (f g : List Nat) : Prop := ∃ k, (∀ j, j < k → f.getD j 0 = g.getD j 0) ∧ f.getD k 0 < g.getD k 0
theorem LtL.irrefl {f : List Nat} : ¬ LtL f f := fun ⟨_, _, h⟩ => Nat.lt_irrefl _ h
theorem LtL.asymm {f g : List Nat} (a : LtL f g) (b : LtL g f) : False := by
  obtain ⟨k, a1, a2⟩ := a
  obtain ⟨k', b1, b2⟩ := b
  rcases Nat.lt_trichotomy k k' with h | h | h
  · have := b1 k h; omega
  · subst h; omega
  · have := a1 k' h; omega
theorem sorted_eq {α : Type} {R : α → α → Prop} (ir : ∀ a, ¬ R a a) (as : ∀ a b, R a b → R b a → False) : ∀ {l l' : List α}, l.Pairwise R → l'.Pairwise R → (∀ x, x ∈ l ↔ x ∈ l') → l = l'
  | [], [], _, _, _ => rfl
  | [], b :: r, _, _, h => by have := (h b).mpr List.mem_cons_self; cases this
  | a :: r, [], _, _, h => by have := (h a).mp List.mem_cons_self; cases this
  | a :: r, b :: r', p, p', h => by
    rw [List.pairwise_cons] at p p'
    have e : a = b := by
      rcases List.mem_cons.mp ((h a).mp List.mem_cons_self) with q | q
      · exact q
      · rcases List.mem_cons.mp ((h b).mpr List.mem_cons_self) with z | z
        · exact z.symm
        · exact (as a b (p.1 b z) (p'.1 a q)).elim
    subst e
    rw [sorted_eq ir as p.2 p'.2 fun x => ?_]
    constructor
    · intro hx
      rcases List.mem_cons.mp ((h x).mp (List.mem_cons_of_mem _ hx)) with q | q
      · subst q; exact (ir _ (p.1 _ hx)).elim
      · exact q
    · intro hx
      rcases List.mem_cons.mp ((h x).mpr (List.mem_cons_of_mem _ hx)) with q | q
      · subst q; exact (ir _ (p'.1 _ hx)).elim
      · exact q
theorem rowsF_sorted (m : Nat) : ∀ k, (rowsF m k).Pairwise LtL
  | 0 => List.pairwise_singleton _ _
  | k + 1 => by
    show ((rowsF m k).flatMap _).Pairwise LtL
    refine pairwise_flatMap (fun row hr => ?_) ?_
    · rw [List.pairwise_map]
      refine List.pairwise_lt_range.imp fun {x y} h => ⟨row.length, fun j hj => ?_, ?_⟩
      · rw [getD_append_lt hj, getD_append_lt hj]
      · rw [getD_append_at rfl, getD_append_at rfl]; exact h
    · refine (List.Pairwise.and_mem.mp (rowsF_sorted m k)).imp ?_
      rintro f g ⟨hf, hg, j, h1, h2⟩ x hx y hy
      obtain ⟨a, _, rfl⟩ := List.mem_map.mp hx
      obtain ⟨b, _, rfl⟩ := List.mem_map.mp hy
      have lf := (mem_rowsF.mp hf).1
      have lg := (mem_rowsF.mp hg).1
      have hj : j < k := by
        rcases Nat.lt_or_ge j k with q | q
        · exact q
        · exfalso
          rw [List.getD_eq_getElem?_getD, List.getD_eq_getElem?_getD, List.getElem?_eq_none (by omega), List.getElem?_eq_none (by omega)] at h2
          exact Nat.lt_irrefl _ h2
      refine ⟨j, fun i hi => ?_, ?_⟩
      · rw [getD_append_lt (by omega), getD_append_lt (by omega)]; exact h1 i hi
      · rw [getD_append_lt (by omega), getD_append_lt (by omega)]; exact h2

def keepsB (n : Nat) (T Tb : List (List Nat)) (L : List Nat) : Bool := (List.range n).all fun x => (List.range n).all fun y => decide (L.getD (el T x y) 0 = el Tb (L.getD x 0) (L.getD y 0))
theorem keepsB_iff {n : Nat} {T Tb : List (List Nat)} {L : List Nat} : keepsB n T Tb L = true ↔ Hom n T Tb fun z => L.getD z 0 := by
  unfold keepsB Hom
  simp only [List.all_eq_true, List.mem_range, decide_eq_true_eq]
  exact ⟨fun h x y hx hy => h x hx y hy, fun h x hx y hy => h x y hx hy⟩
def apart (n : Nat) (L : List Nat) : List Nat := (List.range n).filter fun x => decide (L.getD x 0 ∈ L.take x)
def nodB (n : Nat) (L : List Nat) : Bool := decide ((apart n L).length = 0)
theorem nodB_iff {n : Nat} {L : List Nat} (hl : L.length = n) : nodB n L = true ↔ ∀ x y, x < n → y < n → L.getD x 0 = L.getD y 0 → x = y := by
  have key : nodB n L = true ↔ ∀ y, y < n → L.getD y 0 ∉ L.take y := by
    unfold nodB apart
    rw [decide_eq_true_eq, List.length_eq_zero_iff, List.filter_eq_nil_iff]
    simp only [List.mem_range, decide_eq_true_eq]
  have at_ : ∀ x y, x < y → y < n → L.getD x 0 ∈ L.take y := fun x y hx hy => by
    have h1 : x < L.length := by omega
    have : (L.take y)[x]? = some (L.getD x 0) := by
      rw [List.getElem?_take_of_lt hx, List.getD_eq_getElem?_getD, List.getElem?_eq_getElem h1]; rfl
    exact List.mem_of_getElem? this
  rw [key]
  constructor
  · intro h x y hx hy e
    rcases Nat.lt_trichotomy x y with q | q | q
    · exact (h y hy (e ▸ at_ x y q hy)).elim
    · exact q
    · exact (h x hx (e ▸ at_ y x q hx)).elim
  · intro h y hy hm
    obtain ⟨x, hx, e⟩ := List.mem_iff_getElem.mp hm
    rw [List.length_take] at hx
    have hxy : x < y := by omega
    have hxl : x < L.length := by omega
    have e2 : L.getD x 0 = L.getD y 0 := by
      rw [List.getElem_take] at e
      rw [← e, List.getD_eq_getElem?_getD, List.getElem?_eq_getElem hxl]; rfl
    have := h x y (by omega) hy e2
    omega

def vals (n : Nat) (f : Im) : List Nat := (List.range n).map (gt f)
theorem vals_getD {n : Nat} {f : Im} {z : Nat} (h : z < n) : (vals n f).getD z 0 = gt f z := getD_map_range n _ _ h
theorem list_of_getD {n : Nat} {L : List Nat} (h : L.length = n) : L = (List.range n).map fun z => L.getD z 0 := by
  apply List.ext_getElem
  · simp [h]
  · intro i h1 h2
    rw [List.getElem_map, List.getElem_range, List.getD_eq_getElem?_getD, List.getElem?_eq_getElem h1]; rfl

section
variable {n m : Nat} {T Tb : List (List Nat)} {u : Bool} {steps : List Step}
def im0 (n : Nat) : Im := List.replicate n none
theorem part0 : Part n m T Tb u [] (im0 n) := ⟨⟨by simp [im0], fun _ h => by cases h⟩, rfl, fun _ => by simp [injB]⟩
def found (m : Nat) (T Tb : List (List Nat)) (u : Bool) (n : Nat) (steps : List Step) : List (List Nat) := (dfs m T Tb u steps (im0 n)).map (vals n)
theorem found_sorted (s : Sg n T) (sb : Sg m Tb) (h : StepsOk n T [] steps) : (found m T Tb u n steps).Pairwise LtL := by
  unfold found
  rw [List.pairwise_map]
  refine (List.Pairwise.and_mem.mp (dfs_sorted s sb h (fun _ h => by cases h) (im0 n) (part0 (u := u)))).imp ?_
  rintro f g ⟨hf, hg, k, h1, h2, h3⟩
  obtain ⟨⟨_, _, pf⟩, _⟩ := dfs_sound s sb h (fun _ h => by cases h) (im0 n) part0 f hf
  rw [pf.asg.len] at h3
  refine ⟨k, fun j hj => ?_, ?_⟩
  · rw [vals_getD (Nat.lt_trans hj h3), vals_getD (Nat.lt_trans hj h3)]; exact h1 j hj
  · rw [vals_getD h3, vals_getD h3]; exact h2
theorem mem_found (s : Sg n T) (sb : Sg m Tb) (h : StepsOk n T [] steps) {L : List Nat} : L ∈ found m T Tb u n steps ↔ (L ∈ rowsF m n ∧ keepsB n T Tb L = true) ∧ (u = true → nodB n L = true) := by
  unfold found
  constructor
  · intro hL
    obtain ⟨f, hf, rfl⟩ := List.mem_map.mp hL
    obtain ⟨⟨kn', ha, pf⟩, _⟩ := dfs_sound s sb h (fun _ h => by cases h) (im0 n) part0 f hf
    have hlen : (vals n f).length = n := by simp [vals]
    refine ⟨⟨mem_rowsF.mpr ⟨hlen, fun v hv => ?_⟩, keepsB_iff.mpr fun x y hx hy => ?_⟩, fun hu => (nodB_iff hlen).mpr fun x y hx hy e => ?_⟩
    · obtain ⟨z, hz, rfl⟩ := List.mem_map.mp hv
      exact (pf.asg.at_ z (ha z (List.mem_range.mp hz))).2
    · show (vals n f).getD (el T x y) 0 = el Tb ((vals n f).getD x 0) ((vals n f).getD y 0)
      rw [vals_getD (s.lt x y hx hy), vals_getD hx, vals_getD hy]
      exact okB_iff.mp pf.ok x (ha x hx) y (ha y hy)
    · rw [vals_getD hx, vals_getD hy] at e
      have nd := injB_iff.mp (pf.inj hu)
      have inj : ∀ (l : List Nat), (l.map (gt f)).Nodup → ∀ a ∈ l, ∀ b ∈ l, gt f a = gt f b → a = b := by
        intro l
        induction l with
        | nil => intro _ a ha; cases ha
        | cons z r ih =>
          intro nd a ha b hb e
          rw [List.map_cons, List.nodup_cons] at nd
          rcases List.mem_cons.mp ha with q | q
          · rcases List.mem_cons.mp hb with w | w
            · rw [q, w]
            · exact (nd.1 (List.mem_map.mpr ⟨b, w, by rw [← e, q]⟩)).elim
          · rcases List.mem_cons.mp hb with w | w
            · exact (nd.1 (List.mem_map.mpr ⟨a, q, by rw [e, w]⟩)).elim
            · exact ih nd.2 a q b w e
      exact inj kn' nd x (ha x hx) y (ha y hy) e
  · rintro ⟨⟨h1, h2⟩, h3⟩
    obtain ⟨hl, hv⟩ := mem_rowsF.mp h1
    have hlt : ∀ z, z < n → L.getD z 0 < m := fun z hz => by
      have h1 : z < L.length := by omega
      rw [List.getD_eq_getElem?_getD, List.getElem?_eq_getElem h1]
      exact hv _ (List.getElem_mem h1)
    obtain ⟨f, hf, e⟩ := dfs_full (u := u) s sb (keepsB_iff.mp h2) hlt (fun hu => (nodB_iff hl).mp (h3 hu)) h (fun _ h => by cases h) (by simp) (im0 n) part0 fun _ h => by cases h
    refine List.mem_map.mpr ⟨f, hf, ?_⟩
    rw [list_of_getD hl]
    unfold vals
    apply List.map_congr_left
    intro z hz
    exact e z (List.mem_range.mp hz)
def due (m n : Nat) (T Tb : List (List Nat)) : List (List Nat) := (rowsF m n).filter (keepsB n T Tb)
theorem due_sorted : (due m n T Tb).Pairwise LtL := (rowsF_sorted m n).filter _
theorem found_due (s : Sg n T) (sb : Sg m Tb) (h : StepsOk n T [] steps) : found m T Tb false n steps = due m n T Tb :=
  sorted_eq (fun _ => LtL.irrefl) (fun _ _ => LtL.asymm) (found_sorted s sb h) due_sorted fun L => by
    rw [mem_found s sb h]
    unfold due
    rw [List.mem_filter]
    exact ⟨fun h => h.1, fun h => ⟨h, fun q => by cases q⟩⟩
theorem found_apart (s : Sg n T) (sb : Sg m Tb) (h : StepsOk n T [] steps) : found m T Tb true n steps = (due m n T Tb).filter (nodB n) :=
  sorted_eq (fun _ => LtL.irrefl) (fun _ _ => LtL.asymm) (found_sorted s sb h) (due_sorted.filter _) fun L => by
    rw [mem_found s sb h]
    unfold due
    rw [List.mem_filter, List.mem_filter]
    exact ⟨fun h => ⟨h.1, h.2 rfl⟩, fun h => ⟨h.1, fun _ => h.2⟩⟩
theorem rowsF_len (m : Nat) : ∀ k, (rowsF m k).length = m ^ k
  | 0 => rfl
  | k + 1 => by
    show ((rowsF m k).flatMap _).length = _
    rw [List.length_flatMap]
    have : ∀ l : List (List Nat), (l.map fun row => ((List.range m).map fun x => row ++ [x]).length).sum = l.length * m := by
      intro l
      induction l with
      | nil => simp
      | cons a r ih => rw [List.map_cons, List.sum_cons, ih]; simp; rw [Nat.add_mul]; omega
    rw [this, rowsF_len m k, Nat.pow_succ]
theorem due_len (hm : m ≤ 4) (hn : n ≤ 5) : (due m n T Tb).length ≤ 1024 := by
  refine Nat.le_trans (List.length_filter_le _ _) ?_
  rw [rowsF_len]
  refine Nat.le_trans (Nat.pow_le_pow_left hm n) ?_
  exact Nat.le_trans (Nat.pow_le_pow_right (by omega) hn) (by decide)
theorem found_len (s : Sg n T) (sb : Sg m Tb) (h : StepsOk n T [] steps) (hm : m ≤ 4) (hn : n ≤ 5) : (dfs m T Tb u steps (im0 n)).length ≤ 1024 := by
  have e : (found m T Tb u n steps).length = (dfs m T Tb u steps (im0 n)).length := by unfold found; rw [List.length_map]
  rw [← e]
  cases u with
  | false => rw [found_due s sb h]; exact due_len hm hn
  | true => rw [found_apart s sb h]; exact Nat.le_trans (List.length_filter_le _ _) (due_len hm hn)
end

/-! ### the loops of close -/
section
variable {n : Nat} {T : List (List Nat)}
abbrev KM := List Nat × List Trip
def addP (T : List (List Nat)) (st : KM) (l r : Nat) : KM := if el T l r ∈ st.1 then st else (st.1 ++ [el T l r], st.2 ++ [(el T l r, l, r)])
theorem addP_made {k0 : List Nat} {st : KM} {l r : Nat} (h : Made T k0 st.2 st.1) (hl : l ∈ st.1) (hr : r ∈ st.1) : Made T k0 (addP T st l r).2 (addP T st l r).1 ∧ el T l r ∈ (addP T st l r).1 ∧ ∃ more, (addP T st l r).1 = st.1 ++ more := by
  unfold addP
  by_cases hp : el T l r ∈ st.1
  · rw [if_pos hp]; exact ⟨h, hp, [], by rw [List.append_nil]⟩
  · rw [if_neg hp]
    exact ⟨.snoc h hl hr hp, List.mem_append_right _ (List.mem_singleton.mpr rfl), _, rfl⟩
def inn (T : List (List Nat)) (k : Nat) (st : KM) (y : Nat) : KM := addP T (addP T st k y) y k
theorem inn_made {k0 : List Nat} {st : KM} {k y : Nat} (h : Made T k0 st.2 st.1) (hk : k ∈ st.1) (hy : y ∈ st.1) :
    Made T k0 (inn T k st y).2 (inn T k st y).1 ∧ (el T k y ∈ (inn T k st y).1 ∧ el T y k ∈ (inn T k st y).1) ∧ ∃ more, (inn T k st y).1 = st.1 ++ more := by
  obtain ⟨a1, a2, m1, a3⟩ := addP_made h hk hy
  have sub : ∀ z ∈ st.1, z ∈ (addP T st k y).1 := fun z hz => by rw [a3]; exact List.mem_append_left _ hz
  obtain ⟨b1, b2, m2, b3⟩ := addP_made a1 (sub y hy) (sub k hk)
  refine ⟨b1, ⟨?_, b2⟩, m1 ++ m2, ?_⟩
  · show el T k y ∈ (addP T (addP T st k y) y k).1
    rw [b3]; exact List.mem_append_left _ a2
  · show (addP T (addP T st k y) y k).1 = _
    rw [b3, a3, List.append_assoc]
theorem innf_made {k0 : List Nat} {k : Nat} : ∀ (ys : List Nat) (st : KM), Made T k0 st.2 st.1 → k ∈ st.1 → (∀ y ∈ ys, y ∈ st.1) →
    Made T k0 (ys.foldl (inn T k) st).2 (ys.foldl (inn T k) st).1 ∧ (∀ y ∈ ys, el T k y ∈ (ys.foldl (inn T k) st).1 ∧ el T y k ∈ (ys.foldl (inn T k) st).1) ∧ ∃ more, (ys.foldl (inn T k) st).1 = st.1 ++ more
  | [], st, h, _, _ => ⟨h, fun _ h => (nomatch h), [], by simp⟩
  | y :: r, st, h, hk, hy => by
    obtain ⟨a1, a2, m1, a3⟩ := inn_made h hk (hy y List.mem_cons_self)
    have sub : ∀ z ∈ st.1, z ∈ (inn T k st y).1 := fun z hz => by rw [a3]; exact List.mem_append_left _ hz
    obtain ⟨b1, b2, m2, b3⟩ := innf_made r (inn T k st y) a1 (sub k hk) fun z hz => sub z (hy z (List.mem_cons_of_mem _ hz))
    rw [List.foldl_cons]
    refine ⟨b1, fun z hz => ?_, m1 ++ m2, by rw [b3, a3, List.append_assoc]⟩
    rcases List.mem_cons.mp hz with q | q
    · rw [q, b3]; exact ⟨List.mem_append_left _ a2.1, List.mem_append_left _ a2.2⟩
    · exact b2 z q
/-- the while loop's word -/
structure CloseW (T : List (List Nat)) (k0 : List Nat) (at_ : Nat) (st : KM) : Prop where
  made : Made T k0 st.2 st.1
  le : at_ ≤ st.1.length
  cl : ∀ i j, i < at_ → j ≤ i → el T (st.1.getD i 0) (st.1.getD j 0) ∈ st.1 ∧ el T (st.1.getD j 0) (st.1.getD i 0) ∈ st.1
def roundC (T : List (List Nat)) (at_ : Nat) (st : KM) : KM := (st.1.take (at_ + 1)).foldl (inn T (st.1.getD at_ 0)) st
theorem getD_mem {l : List Nat} {i : Nat} (h : i < l.length) : l.getD i 0 ∈ l := by
  rw [List.getD_eq_getElem?_getD, List.getElem?_eq_getElem h]
  exact List.getElem_mem h
theorem CloseW.next {k0 : List Nat} {at_ : Nat} {st : KM} (w : CloseW T k0 at_ st) (h : at_ < st.1.length) : CloseW T k0 (at_ + 1) (roundC T at_ st) := by
  obtain ⟨a1, a2, more, a3⟩ := innf_made (k := st.1.getD at_ 0) (st.1.take (at_ + 1)) st w.made (getD_mem h) fun y hy => List.mem_of_mem_take hy
  have a3' : (roundC T at_ st).1 = st.1 ++ more := a3
  refine ⟨a1, by rw [a3', List.length_append]; omega, fun i j hi hj => ?_⟩
  have e : ∀ z, z < st.1.length → (roundC T at_ st).1.getD z 0 = st.1.getD z 0 := fun z hz => by rw [a3', getD_append_lt hz]
  rw [e i (by omega), e j (by omega)]
  rcases Nat.lt_or_ge i at_ with q | q
  · obtain ⟨c1, c2⟩ := w.cl i j q hj
    rw [a3']
    exact ⟨List.mem_append_left _ c1, List.mem_append_left _ c2⟩
  · have ei : i = at_ := by omega
    subst ei
    refine a2 (st.1.getD j 0) ?_
    have : (st.1.take (i + 1))[j]? = some (st.1.getD j 0) := by
      rw [List.getElem?_take_of_lt (by omega), List.getD_eq_getElem?_getD, List.getElem?_eq_getElem (show j < st.1.length by omega)]; rfl
    exact List.mem_of_getElem? this
theorem CloseW.done {k0 : List Nat} {at_ : Nat} {st : KM} (w : CloseW T k0 at_ st) (h : ¬ at_ < st.1.length) : ∀ l ∈ st.1, ∀ r ∈ st.1, el T l r ∈ st.1 := by
  intro l hl r hr
  obtain ⟨i, hi, e1⟩ := List.mem_iff_getElem.mp hl
  obtain ⟨j, hj, e2⟩ := List.mem_iff_getElem.mp hr
  have g : ∀ (z : Nat) (hz : z < st.1.length), st.1.getD z 0 = st.1[z] := fun z hz => by
    rw [List.getD_eq_getElem?_getD, List.getElem?_eq_getElem hz]; rfl
  rcases Nat.le_total j i with q | q
  · have := (w.cl i j (by omega) q).1
    rw [g i hi, g j hj, e1, e2] at this; exact this
  · have := (w.cl j i (by omega) q).2
    rw [g i hi, g j hj, e1, e2] at this; exact this

/-! ### the loop of closing -/
inductive Pre (n : Nat) (T : List (List Nat)) : List Step → List Nat → Prop where
  | nil : Pre n T [] []
  | snoc {sts : List Step} {kn : List Nat} {st : Step} : Pre n T sts kn → st.x < n → st.x ∉ kn → (∀ z, z < st.x → z ∈ kn) → Made T (kn ++ [st.x]) st.md st.kn →
      (∀ l ∈ st.kn, ∀ r ∈ st.kn, el T l r ∈ st.kn) → Pre n T (sts ++ [st]) st.kn
theorem Pre.ok {sts : List Step} {kn : List Nat} (p : Pre n T sts kn) : ∀ rest, StepsOk n T kn rest → StepsOk n T [] (sts ++ rest) := by
  induction p with
  | nil => intro rest h; exact h
  | @snoc sts kn st _ h1 h2 h3 h4 h5 ih =>
    intro rest h
    rw [List.append_assoc]
    exact ih (st :: rest) (.cons h1 h2 h3 h4 h5 h)
theorem Pre.lt (s : Sg n T) {sts : List Step} {kn : List Nat} (p : Pre n T sts kn) : ∀ z ∈ kn, z < n := by
  induction p with
  | nil => intro z h; cases h
  | @snoc sts kn st _ h1 _ _ h4 _ ih => exact kn_lt s ih h1 h4
theorem Pre.nd {sts : List Step} {kn : List Nat} (p : Pre n T sts kn) : kn.Nodup := by
  induction p with
  | nil => simp
  | @snoc sts kn st _ _ h2 _ h4 _ ih => exact kn_nd ih h2 h4
end
/-! ### the stack -/
section
variable {n m : Nat} {T Tb : List (List Nat)} {u : Bool} {steps : List Step}
def tree (m : Nat) (T Tb : List (List Nat)) (u : Bool) : List Step → Im → Nat
  | [], _ => 1
  | st :: rest, im => 1 + ((List.range m).map fun y => match ext T Tb u im st y with
    | none => 0
    | some f => tree m T Tb u rest f).sum
abbrev Ent := Im × Nat
def dfsAt (m : Nat) (T Tb : List (List Nat)) (u : Bool) (steps : List Step) (e : Ent) : List Im := dfs m T Tb u (steps.drop e.2) e.1
def treeAt (m : Nat) (T Tb : List (List Nat)) (u : Bool) (steps : List Step) (e : Ent) : Nat := tree m T Tb u (steps.drop e.2) e.1
def pend (m : Nat) (T Tb : List (List Nat)) (u : Bool) (steps : List Step) (st : List Ent) : List Im := st.reverse.flatMap (dfsAt m T Tb u steps)
def weight (m : Nat) (T Tb : List (List Nat)) (u : Bool) (steps : List Step) (st : List Ent) : Nat := (st.map (treeAt m T Tb u steps)).sum
def pushes (T Tb : List (List Nat)) (u : Bool) (st : Step) (im : Im) (at_ : Nat) (ys : List Nat) : List Ent := ys.filterMap fun y => (ext T Tb u im st y).map fun f => (f, at_ + 1)
theorem filterMap_flatMap {α β γ : Type} (f : α → Option β) (g : β → List γ) : ∀ l : List α, (l.filterMap f).flatMap g = l.flatMap fun a => match f a with | none => [] | some b => g b
  | [] => rfl
  | a :: r => by
    rw [List.filterMap_cons, List.flatMap_cons]
    cases h : f a with
    | none => simp only; rw [filterMap_flatMap f g r]; rfl
    | some b => simp only; rw [List.flatMap_cons, filterMap_flatMap f g r]
theorem drop_at {at_ : Nat} {st : Step} (h : steps[at_]? = some st) : steps.drop at_ = st :: steps.drop (at_ + 1) := by
  obtain ⟨h1, h2⟩ := List.getElem?_eq_some_iff.mp h
  rw [List.drop_eq_getElem_cons h1, h2]
theorem pend_leaf {st : List Ent} {im : Im} : pend m T Tb u steps (st ++ [(im, steps.length)]) = im :: pend m T Tb u steps st := by
  unfold pend
  rw [List.reverse_append]
  show dfsAt m T Tb u steps (im, steps.length) ++ _ = _
  unfold dfsAt
  rw [List.drop_length]; rfl
theorem pend_push {st : List Ent} {im : Im} {at_ : Nat} {s : Step} (h : steps[at_]? = some s) : pend m T Tb u steps (st ++ [(im, at_)]) = pend m T Tb u steps (st ++ pushes T Tb u s im at_ (List.range m).reverse) := by
  unfold pend
  rw [List.reverse_append, List.reverse_append, List.flatMap_append, List.flatMap_append]
  congr 1
  show dfsAt m T Tb u steps (im, at_) ++ [] = _
  unfold pushes
  rw [← List.filterMap_reverse, List.reverse_reverse, filterMap_flatMap, List.append_nil]
  unfold dfsAt
  show dfs m T Tb u (steps.drop at_) im = _
  rw [drop_at h, dfs_cons]
  apply congrArg (fun g => (List.range m).flatMap g)
  funext y
  cases ext T Tb u im s y <;> rfl
theorem tree_pos {sts : List Step} {im : Im} : 0 < tree m T Tb u sts im := by
  cases sts with
  | nil => exact Nat.one_pos
  | cons _ _ => unfold tree; omega
theorem weight_leaf {st : List Ent} {e : Ent} : weight m T Tb u steps st < weight m T Tb u steps (st ++ [e]) := by
  unfold weight
  rw [List.map_append, List.sum_append]
  have : 0 < treeAt m T Tb u steps e := tree_pos
  simp; exact this
theorem sum_filterMap {α β : Type} (f : α → Option β) (g : β → Nat) : ∀ l : List α, ((l.filterMap f).map g).sum = (l.map fun a => match f a with | none => 0 | some b => g b).sum
  | [] => rfl
  | a :: r => by
    rw [List.filterMap_cons, List.map_cons, List.sum_cons]
    cases h : f a with
    | none => simp only; rw [sum_filterMap f g r]; omega
    | some b => simp only; rw [List.map_cons, List.sum_cons, sum_filterMap f g r]
theorem weight_push {st : List Ent} {im : Im} {at_ : Nat} {s : Step} (h : steps[at_]? = some s) : weight m T Tb u steps (st ++ pushes T Tb u s im at_ (List.range m).reverse) < weight m T Tb u steps (st ++ [(im, at_)]) := by
  unfold weight
  rw [List.map_append, List.map_append, List.sum_append, List.sum_append]
  have e1 : ((pushes T Tb u s im at_ (List.range m).reverse).map (treeAt m T Tb u steps)).sum + 1 = treeAt m T Tb u steps (im, at_) := by
    unfold pushes treeAt
    rw [sum_filterMap]
    show _ + 1 = tree m T Tb u (steps.drop at_) im
    rw [drop_at h]
    show _ + 1 = 1 + _
    rw [Nat.add_comm, List.map_reverse, List.sum_reverse]
    congr 1
    apply congrArg (fun g => ((List.range m).map g).sum)
    funext y
    cases ext T Tb u im s y <;> rfl
  simp only [List.map_cons, List.map_nil, List.sum_cons, List.sum_nil]
  omega

/-- what stands on the stack -/
def EntOk (n m : Nat) (T Tb : List (List Nat)) (u : Bool) (steps : List Step) (e : Ent) : Prop := e.2 ≤ steps.length ∧ ∃ kn, (∀ z ∈ kn, z < n) ∧ StepsOk n T kn (steps.drop e.2) ∧ Part n m T Tb u kn e.1
theorem entOk_0 (h : StepsOk n T [] steps) : EntOk n m T Tb u steps (im0 n, 0) := ⟨Nat.zero_le _, [], fun _ h => (nomatch h), h, part0⟩
theorem entOk_push (s : Sg n T) (sb : Sg m Tb) {im f : Im} {at_ y : Nat} {st : Step} (h : steps[at_]? = some st) (e : EntOk n m T Tb u steps (im, at_)) (hy : y < m) (hf : ext T Tb u im st y = some f) : EntOk n m T Tb u steps (f, at_ + 1) := by
  obtain ⟨_, kn, hk, ok, p⟩ := e
  have hd := drop_at h
  have ok' : StepsOk n T kn (steps.drop at_) := ok
  rw [hd] at ok'
  cases ok' with
  | cons h1 h2 h3 h4 h5 h6 => exact ⟨(List.getElem?_eq_some_iff.mp h).1, st.kn, kn_lt s hk h1 h4, h6, (ext_some s sb hk h1 h2 h4 p.asg hy hf).1⟩
theorem entOk_leaf {im : Im} (e : EntOk n m T Tb u steps (im, steps.length)) : im = (vals n im).map some ∧ ∀ z, z < n → gt im z < m := by
  obtain ⟨_, kn, hk, ok, p⟩ := e
  have ok' : StepsOk n T kn (steps.drop steps.length) := ok
  rw [List.drop_length] at ok'
  cases ok' with
  | nil ha =>
    refine ⟨?_, fun z hz => (p.asg.at_ z (ha z hz)).2⟩
    have hlen : im.length = n := p.asg.len
    apply List.ext_getElem
    · simp [vals, hlen]
    · intro i h1 h2
      have hi : i < n := by rw [← hlen]; exact h1
      have e := (p.asg.at_ i (ha i hi)).1
      rw [List.getD_eq_getElem?_getD, List.getElem?_eq_getElem h1] at e
      have e' : im[i] = some (gt im i) := e
      rw [e']
      simp [vals]
end
end K35
set_option Elab.async false
set_option linter.all false
set_option maxRecDepth 100000
set_option maxHeartbeats 1000000
/-! A generator def that a for loop walks: the generator's context is laid anew at each wake. -/
namespace KG
open PySem PySem.Spec PyProof.Rows L2 GenW

/-! ### a heap cut to its first places -/
def cutH (n : Nat) (h : Heap) : Heap := ⟨h.objs.extract 0 n, h.life⟩
theorem cutH_objs {n : Nat} {h : Heap} {b : Nat} : (cutH n h).objs[b]? = if b < n then h.objs[b]? else none := by
  show (h.objs.extract 0 n)[b]? = _
  rw [Array.getElem?_extract]
  by_cases hb : b < n
  · rw [if_pos hb]
    by_cases h2 : b < h.objs.size
    · rw [if_pos (by omega), Nat.zero_add]
    · rw [if_neg (by omega), Array.getElem?_eq_none (by omega)]
  · rw [if_neg hb, if_neg (by omega)]
theorem cutH_get {n : Nat} {h : Heap} {b : Addr} (hb : b < n) : (cutH n h).get? b = h.get? b := by
  unfold Heap.get?
  rw [cutH_objs, if_pos hb]
theorem cutH_none {n : Nat} {h : Heap} {b : Addr} (hb : ¬ b < n) : (cutH n h).get? b = none := by
  unfold Heap.get?
  rw [cutH_objs, if_neg hb]
theorem of_cutH {n : Nat} {h : Heap} {b : Addr} {o : Obj} (e : (cutH n h).get? b = some o) : b < n ∧ h.get? b = some o := by
  by_cases hb : b < n
  · rw [cutH_get hb] at e; exact ⟨hb, e⟩
  · rw [cutH_none hb] at e; cases e
theorem cutH_size {n : Nat} {h : Heap} (hn : n ≤ h.objs.size) : (cutH n h).objs.size = n := by
  show (h.objs.extract 0 n).size = n
  rw [Array.size_extract]; omega
def cut (n : Nat) (s : Shared) : Shared := { s with heap := cutH n s.heap }
theorem FunFrames_cut {n : Nat} {h h0 base : Heap} (hs : h0.objs.size ≤ n) : ∀ {l : List Env}, h0.FunFrames base l → h.FunFrames base l → (cutH n h).FunFrames base l
  | [], _, _ => trivial
  | env :: rest, a, b => by
    obtain ⟨_, ⟨L, o, f1, _, f3, _⟩, ar⟩ := a
    obtain ⟨k, ⟨L', o', g1, g2, g3, g4⟩, br⟩ := b
    rw [f1] at g1
    cases g1
    have hl : L < n := Nat.lt_of_lt_of_le (Heap.lt_size f3) hs
    exact ⟨k, ⟨L, o', f1, g2, by rw [cutH_get hl]; exact g3, g4⟩, FunFrames_cut hs ar br⟩

/-! ### the generator's context -/
abbrev re (X : Cx) (s0 : Shared) (H0 : Hp) : Cx := { X with s_0 := s0, H_0 := H0 }
abbrev n0 (X : Cx) : Nat := X.s_0.heap.objs.size
/-- at a wake from s -/
abbrev rc (X : Cx) (s : Shared) (H0 : Hp) : Cx := re X (cut (n0 X) s) H0

/-- what is fixed: S the consumer's list, L the consumer's frame -/
structure GX (X : Cx) (S L : Addr) : Prop where
  ex : X.ex = []
  xe : ∀ e s, X.xe e s → False
  ne : S ≠ L
  lt : S < n0 X ∧ L < n0 X
  base : X.base.get? S = none ∧ X.base.get? L = none
  pn : ∀ p ∈ X.pn, p.1 ≠ S ∧ p.1 ≠ L
  fs : L ∈ X.fs ∧ S ∉ X.fs
  nocell : ∀ x, X.env.cells.lookup x = none
  above : n0 X ≤ X.env.locals
  funs0 : X.s_0.heap.FunFrames X.base X.outer
  bsz : X.base.objs.size ≤ n0 X

/-- while the generator sleeps: x has been put behind the list at S, L's object is another one -/
structure Asleep (X : Cx) (S L : Addr) (x : V) (s s' : Shared) : Prop where
  bare : AllBare s'.gens
  keep : ∀ b o, b ≠ S → b ≠ L → s.heap.get? b = some o → s'.heap.get? b = some o
  thereL : ∃ o, s'.heap.get? L = some o
  funs : s'.heap.FunFrames X.base X.outer
  sz : s.heap.objs.size ≤ s'.heap.objs.size
  own : ∀ acc c, s.heap.get? S = some (lstObj acc c) → ∃ c' u, RelV x u ∧ s'.heap.get? S = some (lstObj (acc.push u) c')

/-- at a wake: the list holds ys -/
structure WK (X : Cx) (S L : Addr) (ys : List V) (s : Shared) (H : Hp) : Prop where
  un : Un X.fs [S, L] X.H_0 H X.s_0.heap s.heap
  fr : H S = none ∧ H L = none
  at_ : ∃ acc c, s.heap.get? S = some (lstObj acc c) ∧ Vals ys acc.toList

variable {X : Cx} {S L : Addr}
theorem Un.transCut {fs ex : List Addr} {H0 H1 H2 : Hp} {h0 h1 h2 : Heap} {n : Nat} (a : Un fs ex H0 H1 h0 h1) (hn : h0.objs.size ≤ n) (b : Un fs [] H1 H2 (cutH n h1) h2) : Un fs ex H0 H2 h0 h2 := by
  have lt : ∀ c o, h0.get? c = some o → c < n := fun c o e => Nat.lt_of_lt_of_le (Heap.lt_size e) hn
  refine ⟨fun c o q z hc hx => ?_, fun c o q z hc hx => ?_, fun c o q z hx => ?_, fun c o q hx => ?_, fun c xs q => b.tups c xs (a.tups c xs q), fun c o xs q => b.frzs c o xs (a.frzs c o xs q), fun c ps q => ?_⟩
  · exact b.keep c o (by rw [cutH_get (lt c o q)]; exact a.keep c o q z hc hx) (a.free c o q z hx) hc (by simp)
  · obtain ⟨sl, e1⟩ := a.slot c o q z hc hx
    obtain ⟨sl2, e2⟩ := b.slot c _ (by rw [cutH_get (lt c o q)]; exact e1) (a.free c o q z hx) hc (by simp)
    exact ⟨sl2, e2⟩
  · obtain ⟨o', e1⟩ := a.there c o q hx
    exact b.free c o' (by rw [cutH_get (lt c o q)]; exact e1) (a.free c o q z hx) (by simp)
  · obtain ⟨o', e1⟩ := a.there c o q hx
    exact b.there c o' (by rw [cutH_get (lt c o q)]; exact e1) (by simp)
  · obtain ⟨m1, e1⟩ := a.tbls c ps q
    obtain ⟨m2, e2⟩ := b.tbls c _ e1
    exact ⟨m1 ++ m2, by rw [e2, Array.append_assoc]⟩

/-- what is free at S and L stays so -/
theorem free_at {ys : List V} {s s1 : Shared} {H0 H : Hp} {σ : L2.St} (g : GX X S L) (w : WK X S L ys s H0) (hL : ∃ o, s.heap.get? L = some o) (I : Inv (rc X s H0) [] σ H s1) : H S = none ∧ H L = none := by
  obtain ⟨acc, c, e, _⟩ := w.at_
  obtain ⟨o, eL⟩ := hL
  exact ⟨I.base.free S _ (by show (cutH (n0 X) s.heap).get? S = _; rw [cutH_get g.lt.1]; exact e) w.fr.1 (by show S ∉ X.ex; rw [g.ex]; simp),
    I.base.free L _ (by show (cutH (n0 X) s.heap).get? L = _; rw [cutH_get g.lt.2]; exact eL) w.fr.2 (by show L ∉ X.ex; rw [g.ex]; simp)⟩

/-- the context laid anew -/
theorem relaid {s s1 s' : Shared} {H0 H : Hp} {σ : L2.St} (g : GX X S L) (hS : H S = none) (hL : H L = none) (I : Inv (re X s H0) [] σ H s1)
    (bare : AllBare s'.gens) (keep : ∀ b o, b ≠ S → b ≠ L → s1.heap.get? b = some o → s'.heap.get? b = some o) (funs : s'.heap.FunFrames X.base X.outer) (sz : s1.heap.objs.size ≤ s'.heap.objs.size) : Inv (rc X s' H) [] σ H s' := by
  have neB : ∀ b o, X.base.get? b = some o → b ≠ S ∧ b ≠ L := fun b o e => ⟨fun z => (by rw [z, g.base.1] at e; cases e), fun z => (by rw [z, g.base.2] at e; cases e)⟩
  have neT : ∀ b u, H b = some u → b ≠ S ∧ b ≠ L := fun b u e => ⟨fun z => (by rw [z, hS] at e; cases e), fun z => (by rw [z, hL] at e; cases e)⟩
  have noA : ∀ b : Addr, b ∉ X.ex := fun b z => by rw [g.ex] at z; cases z
  have hlt := g.lt
  have habove := g.above
  have bz := g.bsz
  have ok0 := g.funs0
  have hsz : n0 X ≤ s1.heap.objs.size := Nat.le_trans habove (Nat.le_of_lt I.lt)
  have neLoc : X.env.locals ≠ S ∧ X.env.locals ≠ L := ⟨Nat.ne_of_gt (Nat.lt_of_lt_of_le hlt.1 habove), Nat.ne_of_gt (Nat.lt_of_lt_of_le hlt.2 habove)⟩
  have fnone : ∀ b ∈ X.fs, H b = none := fun b hb => by
    obtain ⟨_, o, ho, _⟩ := I.ok.funs.mem hb
    exact I.base.free b o ho (I.ok.frf b hb) (noA b)
  refine ⟨⟨I.ok.mod, I.ok.kind, I.ok.glob, I.ok.blt, ?_, I.ok.inj, I.ok.has, fun x c _ h => ?_, I.ok.hd, I.ok.frames, I.ok.stk, fun b z => absurd z (noA b), fun b o e => ?_, ?_, fun b o _ => noA b, fun b z => absurd z (noA b), ?_, fnone⟩,
    rfl, bare, ?_, ?_, fun x c h => ?_, I.free, I.freeC, fun p hp => ?_, ?_, I.len⟩
  · show (cutH (n0 X) s'.heap).objs.size ≤ X.env.locals
    rw [cutH_size (by omega)]; exact habove
  · have h' : X.env.cells.lookup x = some c := h
    rw [g.nocell x] at h'; cases h'
  · have h1 := I.bs b o e
    obtain ⟨z1, z2⟩ := neB b o e
    refine ⟨?_, h1.2⟩
    show (cutH (n0 X) s'.heap).get? b = some o
    rw [cutH_get (Nat.lt_of_lt_of_le (Heap.lt_size e) bz)]
    exact keep b o z1 z2 h1.1
  · show X.base.objs.size ≤ (cutH (n0 X) s'.heap).objs.size
    rw [cutH_size (by omega)]; exact bz
  · show (cutH (n0 X) s'.heap).FunFrames X.base X.outer
    exact FunFrames_cut (Nat.le_refl _) ok0 funs
  · exact Un.kept fun b o e => (of_cutH e).2
  · obtain ⟨m, ⟨o, es, ep, ho, r⟩, hl⟩ := I.loc
    refine ⟨m, ⟨o, es, ep, keep _ o neLoc.1 neLoc.2 ho, r⟩, fun i x v h1 h2 h3 => ?_⟩
    obtain ⟨u, rv, l⟩ := hl i x v h1 h2 h3
    refine ⟨u, rv, ?_⟩
    rcases l with l | ⟨_, c, e, _⟩
    · exact .inl l
    · have e' : X.env.cells.lookup x = some c := e
      rw [g.nocell x] at e'; cases e'
  · have h' : X.env.cells.lookup x = some c := h
    rw [g.nocell x] at h'; cases h'
  · obtain ⟨e, h1, h2, h3, h4⟩ := I.pin p hp
    have hp' : p ∈ X.pn := by
      rcases List.mem_append.mp hp with z | z
      · exact z
      · cases z
    exact ⟨keep p.1 p.2 (g.pn p hp').1 (g.pn p hp').2 e, h1, h2, h3, h4⟩
  · intro b u e
    refine (I.hok b u e).stay (fun c w hc q => ?_) (fun _ z => z) fun _ _ z => z
    rcases hc with z | z
    · rw [z] at q ⊢
      exact keep b w (neT b u e).1 (neT b u e).2 q
    · exact keep c w (neT c _ z).1 (neT c _ z).2 q
end KG
set_option Elab.async false
set_option linter.all false
set_option maxRecDepth 100000
set_option maxHeartbeats 1000000
namespace KG
open PySem PySem.Spec PyProof.Rows L2 GenW
variable {X : Cx} {S L : Addr}

theorem woken {ys : List V} {x : V} {s s1 s' : Shared} {H0 H : Hp} {σ : L2.St} (g : GX X S L) (w : WK X S L ys s H0) (hL : ∃ o, s.heap.get? L = some o) (I : Inv (rc X s H0) [] σ H s1) (z : Asleep X S L x s1 s') :
    WK X S L (ys ++ [x]) s' H ∧ Inv (rc X s' H) [] σ H s' := by
  obtain ⟨f1, f2⟩ := free_at g w hL I
  refine ⟨⟨?_, ⟨f1, f2⟩, ?_⟩, relaid g f1 f2 I z.bare z.keep z.funs z.sz⟩
  · have u : Un X.fs [S, L] X.H_0 H X.s_0.heap s1.heap := Un.transCut w.un (Nat.le_refl _) (by
      have q := I.base
      have e : (rc X s H0).ex = [] := g.ex
      rw [e] at q
      exact q)
    have k : ∀ b o, b ∉ [S, L] → s1.heap.get? b = some o → s'.heap.get? b = some o := fun b o hb e => z.keep b o (fun q => hb (by simp [q])) (fun q => hb (by simp [q])) e
    refine ⟨fun b o e n hb hx => k b o hx (u.keep b o e n hb hx), fun b o e n hb hx => ?_, u.free, fun b o e hx => ?_, u.tups, u.frzs, u.tbls⟩
    · obtain ⟨sl, e1⟩ := u.slot b o e n hb hx
      exact ⟨sl, k b _ hx e1⟩
    · obtain ⟨o', e1⟩ := u.there b o e hx
      exact ⟨o', k b o' hx e1⟩
  · obtain ⟨acc, c, e, r⟩ := w.at_
    have e1 : s1.heap.get? S = some (lstObj acc c) := I.base.keep S _ (by show (cutH (n0 X) s.heap).get? S = _; rw [cutH_get g.lt.1]; exact e) w.fr.1 g.fs.2 (by show S ∉ X.ex; rw [g.ex]; simp)
    obtain ⟨c', u, ru, e2⟩ := z.own acc c e1
    refine ⟨acc.push u, c', e2, ?_⟩
    rw [Array.toList_push]
    exact r.append (.cons ru .nil)

/-! ### the protocol -/
def GY (X : Cx) (S L : Addr) (Yv : List V → Hp → Prop) : Protocol := fun n s₀ v s kap =>
  ∃ ys x H0 σ H, n + 1 + ys.length = sizeLine ∧ RelV x v ∧ WK X S L ys s₀ H0 ∧ Inv (rc X s₀ H0) [] σ H s ∧ Yv (ys ++ [x]) H ∧ ∀ s', Asleep X S L x s s' → kap (.send .none) s'
def GF (X : Cx) (S L : Addr) (Qe : List V → Hp → Prop) : Nat → Shared → Shared → Prop := fun n s₀ s =>
  ∃ ys H0 σ H, n + ys.length = sizeLine ∧ WK X S L ys s₀ H0 ∧ Inv (rc X s₀ H0) [] σ H s ∧ Qe ys H
def GR (X : Cx) (S L : Addr) (Qe : List V → Hp → Prop) : GenEnd := fun n s₀ r s₁ => ((r = .ok (.ret .none) ∨ r = .ok .next) ∧ GF X S L Qe n s₀ s₁) ∨ ∃ e, r = .error e ∧ (fun (_ : Value) (_ : Shared) => False) e s₁
def GP (X : Cx) (s₀ : Shared) (H0 : Hp) (D : GEnds) (ys : List V) (f : Flow) (s : Shared) : Prop :=
  match f with
  | .next => ∃ σ H, Inv (rc X s₀ H0) [] σ H s ∧ D.nx ys σ H
  | .brk => ∃ σ H, Inv (rc X s₀ H0) [] σ H s ∧ D.bk ys σ H
  | .cont => ∃ σ H, Inv (rc X s₀ H0) [] σ H s ∧ D.ct ys σ H
  | .ret u => ∃ v σ H, Inv (rc X s₀ H0) [] σ H s ∧ RelV v u ∧ D.rt ys v H
/-- where its code stands -/
structure GC (X : Cx) (A : Around) (c : Code) (fs : List Frame) (gd : Bool → Bool) : Prop where
  over : A.over c fs = X.A
  split : splitAtGen fs = none
  guard : fs.any Frame.guarded = false
  gd : gd false = false
/-- awake since s₀ -/
structure Aw (X : Cx) (S L : Addr) (n : Nat) (ys : List V) (s₀ : Shared) (H0 : Hp) : Prop where
  cnt : n + ys.length = sizeLine
  wk : WK X S L ys s₀ H0
  thereL : ∃ o, s₀.heap.get? L = some o
def GK (X : Cx) (S L : Addr) (Yv Qe : List V → Hp → Prop) (A : Around) (c : Code) (fs : List Frame) (K : Flow → Sem PySem.Fin) (D : GEnds) : Prop :=
  ∀ (n : Nat) (ys : List V) (s₀ : Shared) (H0 : Hp) (s : Shared) (f : Flow), Aw X S L n ys s₀ H0 → GP X s₀ H0 D ys f s → Seg (model X.prog X.w) A (GR X S L Qe) (GY X S L Yv) n s₀ c (K f) fs s
/-- a statement, a block of a generator -/
def GT (X : Cx) (Yv : List V → Hp → Prop) (t : TGn) (go : Sem Flow) : Prop :=
  ∀ (S L : Addr) (Qe : List V → Hp → Prop) (A : Around) (n : Nat) (ys : List V) (s₀ : Shared) (H0 : Hp) (c : Code) (fs : List Frame) (K : Flow → Sem PySem.Fin) (J : Value → Sem PySem.Fin) (gd : Bool → Bool) (lv : List Value → List Value) (s : Shared) (σ : L2.St) (H : Hp) (D : GEnds),
    GX X S L → GC X A c fs gd → Aw X S L n ys s₀ H0 → GK X S L Yv Qe A c fs K D → Inv (rc X s₀ H0) [] σ H s → t D ys σ H →
    Seg (model X.prog X.w) A (GR X S L Qe) (GY X S L Yv) n s₀ c (go.wrap K J gd lv) fs s
def GS (X : Cx) (Yv : List V → Hp → Prop) (st : Stmt) (t : TGn) : Prop := GT X Yv t (exec st X.env)
def GSs (X : Cx) (Yv : List V → Hp → Prop) (st : List Stmt) (t : TGn) : Prop := GT X Yv t (execs st X.env)

theorem gp_of {s₀ : Shared} {H0 : Hp} {D : GEnds} {ys : List V} {f : Flow} {s : Shared} (h : SP (rc X s₀ H0) [] (D.at ys) f s) : GP X s₀ H0 D ys f s := by
  cases f with
  | next => exact h
  | brk => exact h
  | cont => exact h
  | ret u => exact h
variable {Yv : List V → Hp → Prop} {st : Stmt} {rest : List Stmt}
theorem gs_ps {t : TS} (h : ∀ s0 H0, PS (re X s0 H0) st t) : GS X Yv st (tPlain t) := by
  intro S L Qe A n ys s₀ H0 c fs K J gd lv s σ H D g gc aw k I ht
  refine seg_wrap ?_
  rw [gc.over]
  exact wpAny_mono ((h (cut (n0 X) s₀) H0).run [] s σ H (D.at ys) I ht) (fun f s' hs => k n ys s₀ H0 s' f aw (gp_of hs)) fun x s' hx => (g.xe x s' hx).elim
theorem gss_pss {t : TS} (h : ∀ s0 H0, PSs (re X s0 H0) rest t) : GSs X Yv rest (tPlain t) := by
  intro S L Qe A n ys s₀ H0 c fs K J gd lv s σ H D g gc aw k I ht
  refine seg_wrap ?_
  rw [gc.over]
  exact wpAny_mono ((h (cut (n0 X) s₀) H0).run [] s σ H (D.at ys) I ht) (fun f s' hs => k n ys s₀ H0 s' f aw (gp_of hs)) fun x s' hx => (g.xe x s' hx).elim
theorem gss_nil : GSs X Yv [] tG0 := by
  intro S L Qe A n ys s₀ H0 c fs K J gd lv s σ H D g gc aw k I ht
  exact seg_execs_nil (k n ys s₀ H0 s .next aw ⟨σ, H, I, ht⟩)
theorem gss_cons {t u : TGn} (a : GS X Yv st t) (b : GSs X Yv rest u) : GSs X Yv (st :: rest) (tGThen t u) := by
  intro S L Qe A n ys s₀ H0 c fs K J gd lv s σ H D g gc aw k I ht
  refine seg_execs_cons ?_
  refine a S L Qe A n ys s₀ H0 c fs _ J gd lv s σ H { D with nx := fun ys' σ' H' => u D ys' σ' H' } g gc aw (fun n' ys' s₀' H0' s' f aw' hs => ?_) I ht
  cases f with
  | next =>
    obtain ⟨σ', H', I', q⟩ := hs
    exact b S L Qe A n' ys' s₀' H0' c fs K J gd lv s' σ' H' D g gc aw' k I' q
  | brk => exact k n' ys' s₀' H0' s' .brk aw' hs
  | cont => exact k n' ys' s₀' H0' s' .cont aw' hs
  | ret u => exact k n' ys' s₀' H0' s' (.ret u) aw' hs
/-- if -/
def tGIf (c : TT) (t u : TGn) : TGn := fun D ys σ H => c σ H fun b H1 => if b = true then t D ys σ H1 else u D ys σ H1
theorem gs_if {c : Expr} {a b : List Stmt} {pos : Pos} {tc : TT} {t u : TGn} (hc : ∀ s0 H0, PT (re X s0 H0) c tc) (ha : GSs X Yv a t) (hb : GSs X Yv b u) : GS X Yv (.If c a b pos) (tGIf tc t u) := by
  intro S L Qe A n ys s₀ H0 cd fs K J gd lv s σ H D g gc aw k I ht
  rw [exec_If]
  refine seg_bind_wrap (wpAny_standAt ?_)
  refine seg_bind_wrap ?_
  rw [gc.over]
  refine wpAny_mono ((hc (cut (n0 X) s₀) H0).run [] s σ H _ I ht) (fun d s' ⟨H1, I1, q1⟩ => ?_) fun x s' hx => (g.xe x s' hx).elim
  cases d with
  | true =>
    rw [if_pos rfl] at q1 ⊢
    exact ha S L Qe A n ys s₀ H0 cd fs K J gd lv s' σ H1 D g gc aw k I1 q1
  | false =>
    rw [if_neg Bool.false_ne_true] at q1 ⊢
    exact hb S L Qe A n ys s₀ H0 cd fs K J gd lv s' σ H1 D g gc aw k I1 q1
/-- yield -/
def tGYield2 (Yv : List V → Hp → Prop) (te : TE) : TGn := fun D ys σ H => ys.length < sizeLine ∧ te σ H fun x H1 => Yv (ys ++ [x]) H1 ∧ D.nx (ys ++ [x]) σ H1
theorem gs_yield {e : Expr} {yp pos : Pos} {te : TE} (he : ∀ s0 H0, PE (re X s0 H0) e te) (hco : X.env.scope.isCoroutine = false := by rfl) (hi : interactive X.env = false := by rfl) : GS X Yv (.Expr (.Yield (some e) yp) pos) (tGYield2 Yv te) := by
  intro S L Qe A n ys s₀ H0 c fs K J gd lv s σ H D g gc aw k I ht
  obtain ⟨hlt, ht⟩ := ht
  obtain ⟨hn, wk, hL⟩ := id aw
  obtain ⟨n, rfl⟩ : ∃ m, n = m + 1 := ⟨n - 1, by omega⟩
  refine seg_Expr_Yield gc.split gc.gd gc.guard ?_ hco hi
  rw [gc.over]
  refine wpAny_mono ((he (cut (n0 X) s₀) H0).run [] s σ H _ I ht) (fun v s' hv => ?_) fun x s' hx => (g.xe x s' hx).elim
  obtain ⟨x, H1, I1, rv, yv, q⟩ := hv
  intro kap hk
  refine ⟨ys, x, H0, σ, H1, hn, rv, wk, I1, yv, fun s'' z => hk .none s'' ?_⟩
  obtain ⟨w2, I2⟩ := woken g wk hL I1 z
  refine k n (ys ++ [x]) s'' H1 s'' .next ⟨?_, w2, z.thereL⟩ ⟨σ, H1, I2, q⟩
  rw [List.length_append, List.length_singleton]; omega

/-! ### while -/
theorem gc_loop {A : Around} {c c' : Code} {fs : List Frame} {gd : Bool → Bool} {k : Result → Sem PySem.Fin} {l kp : List Value} {p : Pos} (g : GC X A c fs gd) (hw : c'.weight = 0) (hu : c'.cUnits = 0) :
    GC X A c' (.ret k none (gd false) l c p kp :: fs) id where
  over := (over_loop hw hu).trans g.over
  split := by
    show (splitAtGen fs).map _ = none
    rw [g.split]; rfl
  guard := by
    show (gd false || fs.any Frame.guarded) = false
    rw [g.gd, g.guard]; rfl
  gd := rfl
theorem gs_while {test : Expr} {body : List Stmt} {pos : Pos} {tc : TT} {tb : TGn} (hc : ∀ s0 H0, PT (re X s0 H0) test tc) (hb : GSs X Yv body tb) : GS X Yv (.While test body [] pos) (tGWhile tc tb) := by
  intro S L Qe A n ys s₀ H0 c fs K J gd lv s σ H D g gc aw k I ht
  obtain ⟨W, ⟨m0, w0⟩, turn⟩ := ht
  refine seg_While fun p => ?_
  have gl := fun (kk : Result → Sem PySem.Fin) => gc_loop (k := kk) (c' := .whileLoop test body [] X.env) (l := lv []) (kp := []) (p := p) gc rfl rfl
  have loop : ∀ (m n : Nat) (ys : List V) (s₀ : Shared) (H0 : Hp) (s : Shared) (σ : L2.St) (H : Hp), Aw X S L n ys s₀ H0 → W m ys σ H → Inv (rc X s₀ H0) [] σ H s →
      Seg (model X.prog X.w) A (GR X S L Qe) (GY X S L Yv) n s₀ (.whileLoop test body [] X.env) ((model X.prog X.w).den (.whileLoop test body [] X.env))
        (.ret (fun r => ((match r with | .ok f => (.pure f : Sem Flow) | .error e => .raise e).onRaise (L2.cameBack X.env)).wrap K J gd lv) none (gd false) (lv []) c p [] :: fs) s := by
    intro m
    induction m using Nat.strongRecOn with
    | ind m ih =>
      intro n ys s₀ H0 s σ H aw w I
      refine seg_whileLoop ?_
      rw [(gl _).over]
      refine wpAny_mono ((hc (cut (n0 X) s₀) H0).run [] s σ H _ I (turn m ys σ H w)) (fun b s' hb' => ?_) fun x s' hx => (g.xe x s' hx).elim
      obtain ⟨H2, I2, q2⟩ := hb'
      cases b with
      | true =>
        rw [if_pos rfl] at q2 ⊢
        obtain ⟨N, hN, q2⟩ := q2
        refine hb S L Qe A n ys s₀ H0 _ _ _ _ id id s' σ H2 { D with nx := N, ct := N, bk := D.nx } g (gl _) aw (fun n' ys' s₀' H0' s3 f aw' hs => ?_) I2 q2
        cases f with
        | next =>
          obtain ⟨σ3, H3, I3, n3⟩ := hs
          obtain ⟨m', hm, w3⟩ := hN ys' σ3 H3 n3
          exact seg_again rfl (ih m' hm n' ys' s₀' H0' s3 σ3 H3 aw' w3 I3)
        | cont =>
          obtain ⟨σ3, H3, I3, n3⟩ := hs
          obtain ⟨m', hm, w3⟩ := hN ys' σ3 H3 n3
          exact seg_again rfl (ih m' hm n' ys' s₀' H0' s3 σ3 H3 aw' w3 I3)
        | brk => exact seg_leaf (.ok .next) (k n' ys' s₀' H0' s3 .next aw' hs)
        | ret v => exact seg_leaf (.ok (.ret v)) (k n' ys' s₀' H0' s3 (.ret v) aw' hs)
      | false =>
        rw [if_neg Bool.false_ne_true] at q2 ⊢
        refine seg_execs_nil ?_
        exact seg_leaf (.ok .next) (k n ys s₀ H0 s' .next aw ⟨σ, H2, I2, q2⟩)
  exact loop m0 n ys s₀ H0 s σ H aw w0 I
end KG
set_option Elab.async false
set_option linter.all false
set_option maxRecDepth 100000
set_option maxHeartbeats 2000000
namespace KG
open PySem PySem.Spec PyProof.Rows L2 GenW

/-- a generator def's promise: arguments, heap; what is known at each item, at the end -/
abbrev SpG := List V → Hp → (List V → Hp → Prop) → (List V → Hp → Prop) → Prop
abbrev gX (P : Program) (w : World) (K : PySem.W.Frag) (mg : Str → Option Value) (base : Heap) (N : List Str) (qual : Str) (scope : Scope) (f : Addr) (cd : Value) (A : Around) (outer : List Env) (s : Shared) (H : Hp) (pn : List (Addr × Obj)) : Cx :=
  (gcxOf P w K mg base N qual scope f cd A outer s H E0 pn).nox

/-- a generator has been made, and has not begun -/
structure Made (P : Program) (w : World) (base : Heap) (outer : List Env) (H : Hp) (s : Shared) (S L : Addr) (Yv Qe : List V → Hp → Prop) (A : Around) (s' : Shared) (X : Cx) (a : Addr) (g : Nat) (c : Code) (go : Obj) : Prop where
  prog : X.prog = P
  wd : X.w = w
  bs : X.base = base
  out : X.outer = outer
  H0 : X.H_0 = H
  s0 : X.s_0 = s
  pn : X.pn = [(a, go)]
  gx : GX X S L
  cls : go.cls = .type "generator"
  dat : ∃ nm qn, go.data = .fields #[.int g 0, nm, qn] ∧ go.slots = #[]
  at_ : s'.heap.get? a = some go
  young : s.heap.objs.size ≤ a
  fresh : s'.gens[g]? = some (.fresh c)
  os : s'.os = s.os
  bare : AllBare s'.gens
  keep : ∀ b o, s.heap.get? b = some o → s'.heap.get? b = some o
  wake : ∀ s'' : Shared, s''.os = s.os → AllBare s''.gens → (∀ b o, s'.heap.get? b = some o → s''.heap.get? b = some o) → s''.heap.FunFrames base outer →
    Seg (model P w) A (GR X S L Qe) (GY X S L Yv) sizeLine s'' c ((model P w).den c) [] s''

structure GFn (P : Program) (w : World) (K : PySem.W.Frag) (mg : Str → Option Value) (base : Heap) (k : Nat) (f : Addr) (fd : FuncData) (ps : List Str) (sp : SpG) : Prop where
  len : ∀ vs H Yv Qe, sp vs H Yv Qe → vs.length = ps.length
  run : ∀ (A B : Around) (outer : List Env) (s : Shared) (H : Hp) (args : Args) (us : List Value) (vs : List V) (Yv Qe : List V → Hp → Prop) (S L : Addr), Room k A → Room k B → B.frames = some outer → Env0 P w K mg base A outer s H → BindsTo s fd args (ps.zip us) → Vals vs us → sp vs H Yv Qe →
    (∃ c, s.heap.get? S = some (lstObj #[] c)) → (∃ o, s.heap.get? L = some o) → S ≠ L → base.get? S = none ∧ base.get? L = none → L ∈ frs outer ∧ S ∉ frs outer → H S = none ∧ H L = none →
    codeAny (model P w) A (.call (.ref f) args) (fun r s' => ∃ X a g c go, r = .ok (.ret (.ref a)) ∧ Made P w base outer H s S L Yv Qe B s' X a g c go) s

theorem gfn_of {P : Program} {w : World} {K : PySem.W.Frag} {mg : Str → Option Value} {base : Heap} {k : Nat} {f : Addr} {name qual : Str} {params : Arguments} {body : List Stmt} {scope : Scope} {dV kV doc pm cdv ct oc : Value} {an od : Option Addr}
    {osl : Array (Option Value)} {N ps : List Str} {sp : SpG} (lk : K.lookup f = some ⟨oc, od, .func (PySem.W.fnOf name qual params body scope dV kV doc pm an cdv ct), osl⟩) (hcd : PySem.W.codeIn K cdv qual = true) (Sc : GScope N ps scope)
    (hnc : ∀ n x, (cellsFrom n scope.names []).lookup x = none)
    (len : ∀ vs H Yv Qe, sp vs H Yv Qe → vs.length = ps.length)
    (hbody : ∀ (A : Around) (outer : List Env) (s : Shared) (H : Hp) (vs : List V) (Yv Qe : List V → Hp → Prop) (pn : List (Addr × Obj)), Room k (A.deeper (envOfC qual scope s.heap.objs.size f cdv)) → sp vs H Yv Qe →
      ∃ t, GSs (gX P w K mg base N qual scope f cdv A outer s H pn) Yv body t ∧ t { nx := fun ys _ H' => Qe ys H', rt := fun ys v H' => v = .non ∧ Qe ys H' } [] (start N vs) H) :
    GFn P w K mg base (k + 1) f (PySem.W.fnOf name qual params body scope dV kV doc pm an cdv ct) ps sp := by
  refine ⟨len, fun A B outer s H args us vs Yv Qe S L hr hrB hfB e0 hb r hsp hS hL hSL hbase hfs hfree => ?_⟩
  have hl := len _ _ _ _ hsp
  have KX : K.In s.heap := e0.mod.kin.keeps fun b o e => (e0.bs b o e).1
  have lim : s.heap.NoLimit := e0.mod.nolimit.keeps fun b o e => (e0.bs b o e).1
  have hkind : ∀ y ∈ ps.zip us, scope.names.lookup y.1 = some .local ∨ (scope.names.lookup y.1 = some .cell ∧ ((cellsFrom (s.heap.objs.size + 1) scope.names []).lookup y.1).isSome = true) := fun ⟨n, v⟩ hy => by
    rcases Sc.par n (List.of_mem_zip hy).1 with q | q
    · exact .inl q
    · exact .inr ⟨q, PySem.W.cellsFrom_some _ _ _ (.inl q)⟩
  refine codeAny_call_generator hr.depth (KX _ _ lk) rfl Sc.co Sc.gen rfl (PySem.W.codeRec_of KX hcd) (hb _ _ _ _ ?_)
  refine wpAny_newFunctionEnv_cells Sc.kind hkind fun env he s1 x => ?_
  subst he
  have lim1 : s1.heap.NoLimit := lim.keeps x.toInCall.keep
  refine ⟨lim1, ?_⟩
  obtain ⟨h1, tk, es1, hk1⟩ := x.done
  have os1 : s1.os = s.os := by rw [es1]
  have gen1 : s1.gens = s.gens := by rw [es1]
  have lt1 : s.heap.objs.size < s1.heap.objs.size := x.toInCall.ns.lt
  have sz1 : s.heap.objs.size ≤ s1.heap.objs.size := Nat.le_of_lt lt1
  have kp1 : ∀ b o, s.heap.get? b = some o → s1.heap.get? b = some o := x.toInCall.keep
  obtain ⟨cS, eS⟩ := hS
  obtain ⟨oL, eL⟩ := hL
  have main : ∀ (go : Obj) (nm qn : Value) (tk2 : Nat), go.cls = .type "generator" → go.data = .fields #[.int s1.gens.size 0, nm, qn] → go.slots = #[] → (∀ h : Heap, (h.push go).get? h.objs.size = some go) →
      ∃ X a g c go', (.ok (.ret (.ref s1.heap.objs.size)) : Result) = .ok (.ret (.ref a)) ∧ Made P w base outer H s S L Yv Qe B { s1 with gens := s1.gens.push (.fresh (.func body (envOfC qual scope s.heap.objs.size f cdv))), toks := tk2, heap := s1.heap.push go } X a g c go' := by
    intro go nm qn tk2 hgc hgd0 hgs hgp
    have hpushed : (s1.heap.push go).get? s1.heap.objs.size = some go := hgp _
    have hgd : ∀ v, go.data ≠ .cell v := fun v q => by rw [hgd0] at q; cases q
    have hx : GX (gX P w K mg base N qual scope f cdv B outer s H [(s1.heap.objs.size, go)]) S L := by
      refine ⟨rfl, fun _ _ h => h, hSL, ⟨Heap.lt_size eS, Heap.lt_size eL⟩, hbase, fun p hp => ?_, hfs, fun x => hnc _ x, Nat.le_refl _, e0.funs, e0.bsz⟩
      rw [List.mem_singleton.mp hp]
      exact ⟨Nat.ne_of_gt (Nat.lt_of_lt_of_le (Heap.lt_size eS) sz1), Nat.ne_of_gt (Nat.lt_of_lt_of_le (Heap.lt_size eL) sz1)⟩
    refine ⟨_, s1.heap.objs.size, s1.gens.size, _, go, rfl, ⟨rfl, rfl, rfl, rfl, rfl, rfl, rfl, hx, hgc, ⟨nm, qn, hgd0, hgs⟩, hpushed, sz1, Array.getElem?_push_size .., os1, AllBare.push (by rw [gen1]; exact e0.bare) rfl, fun b o e => Heap.get?_push_of_some _ (kp1 b o e), ?_⟩⟩
    intro s2 hos hba hk2 hfun
    have e0w : Env0 P w K mg base B outer s H := ⟨hfB, e0.mod, e0.bs, e0.bsz, e0.funs, e0.frf, e0.hok, e0.bare⟩
    obtain ⟨t, ht, hq⟩ := hbody B outer s H vs Yv Qe [(s1.heap.objs.size, go)] (hrB.deeper _) hsp
    have I1 : Inv (gcxOf P w K mg base N qual scope f cdv B outer s H E0 []) [] (start N vs) H s1 := inv_startG Sc hrB.hd e0w hl r x
    have kp2 : ∀ b o, s1.heap.get? b = some o → s2.heap.get? b = some o := fun b o e => hk2 b o (Heap.get?_push_of_some _ e)
    have I2 : Inv (gcxOf P w K mg base N qual scope f cdv B outer s H E0 []) [] (start N vs) H s2 :=
      I1.call' (ch := []) (hos.trans os1.symm) (Un.kept kp2) (I1.hok.kept kp2) hba fun b z => by simp at z
    have hea : s2.heap.get? s1.heap.objs.size = some go := hk2 s1.heap.objs.size go hpushed
    have I3 : Inv (gX P w K mg base N qual scope f cdv B outer s H [(s1.heap.objs.size, go)]) [] (start N vs) H s2 := by
      refine (Inv.pinnedG (pn := [(s1.heap.objs.size, go)]) (pins := []) I2 fun p hp => ?_).wish _
      rw [List.append_nil] at hp
      rw [List.mem_singleton.mp hp]
      exact ⟨hea, I1.hok.fresh (Nat.le_refl _), Nat.ne_of_gt lt1, I1.nofs (Nat.le_refl _), hgd⟩
    have eS2 : s2.heap.get? S = some (lstObj #[] cS) := kp2 S _ (kp1 S _ eS)
    have eL2 : s2.heap.get? L = some oL := kp2 L _ (kp1 L _ eL)
    have wk : WK (gX P w K mg base N qual scope f cdv B outer s H [(s1.heap.objs.size, go)]) S L [] s2 H :=
      ⟨Un.kept fun b o e => kp2 b o (kp1 b o e), hfree, ⟨#[], cS, eS2, .nil⟩⟩
    have I4 : Inv (rc (gX P w K mg base N qual scope f cdv B outer s H [(s1.heap.objs.size, go)]) s2 H) [] (start N vs) H s2 :=
      relaid (s := s) (H0 := H) hx hfree.1 hfree.2 I3 hba (fun b o _ _ e => e) hfun (Nat.le_refl _)
    refine seg_func ?_
    refine ht S L Qe B sizeLine [] s2 H _ [] _ _ id id s2 (start N vs) H _ hx ⟨over_func, rfl, rfl, rfl⟩ ⟨Nat.add_zero _, wk, ⟨oL, eL2⟩⟩ (fun n ys s₀ H0 s' fl aw hs => ?_) I4 hq
    cases fl with
    | next =>
      obtain ⟨σ', H', hI, hQ⟩ := hs
      exact seg_end (.ok (.ret .none)) (.inl ⟨.inl rfl, ys, H0, σ', H', aw.cnt, aw.wk, hI, hQ⟩)
    | brk => obtain ⟨_, _, _, q⟩ := hs; exact False.elim q
    | cont => obtain ⟨_, _, _, q⟩ := hs; exact False.elim q
    | ret u =>
      obtain ⟨v, σ', H', hI, rv, ev, hQ⟩ := hs
      subst ev
      have eu : u = Value.none := rv
      subst eu
      exact seg_end (.ok (.ret .none)) (.inl ⟨.inl rfl, ys, H0, σ', H', aw.cnt, aw.wk, hI, hQ⟩)
  exact main _ _ _ _ rfl rfl rfl fun h => Heap.get?_push_size _ rfl
end KG
set_option Elab.async false
set_option linter.all false
set_option maxRecDepth 100000
set_option maxHeartbeats 2000000
namespace KG
open PySem PySem.Spec PyProof.Rows L2 GenW
variable {X : Cx} {pins : List (Addr × Obj)} {σ : L2.St} {H : Hp} {s : Shared}

/-- a local name is stored; nothing else moves -/
theorem store_q {M : Model} {A : Around} {E : Value → Shared → Prop} {i : Nat} {x : Str} {v : V} {u : Value} {Q : Unit → Shared → Prop} (I : Inv X pins σ H s) (hN : X.N.Nodup) (hi : X.N[i]? = some x) (hk : X.env.scope.names.lookup x = some .local) (r : RelV v u)
    (h : ∀ h' tk, Inv X pins (σ.set i (some v)) H { s with heap := h', toks := tk } → Heap.SameBut X.env.locals s.heap h' → Q () { s with heap := h', toks := tk }) : wpAny M A (storeName X.env x u) Q E s := by
  obtain ⟨m, hn, hl⟩ := id I.loc
  have hcls : (X.env.scope.kind == .class || (X.env.scope.kind == .module && X.env.locals != X.env.globals)) = false := by rw [I.ok.kind]; rfl
  have hiσ : i < σ.length := by rw [I.len]; exact (List.getElem?_eq_some_iff.mp hi).1
  refine wpAny_storeName_local hk hn (fun h' hn' hs => h h' (s.toks + 1) ?_ hs) hcls
  have old : ∀ b o, X.s_0.heap.get? b = some o → b ≠ X.env.locals := fun b o e => Nat.ne_of_lt (Nat.lt_of_lt_of_le (Heap.lt_size e) I.ok.above)
  have tr : ∀ b ob, H b = some ob → b ≠ X.env.locals := fun b ob e z => by rw [z, I.free] at e; cases e
  have un : Un X.fs X.ex X.H_0 H X.s_0.heap h' := by
    refine ⟨fun b o e n hb hx => (hs.2 b (old b o e)).trans (I.base.keep b o e n hb hx), fun b o e n hb hx => ?_, I.base.free, fun b o e hx => ?_, I.base.tups, I.base.frzs, I.base.tbls⟩
    · obtain ⟨sl, q⟩ := I.base.slot b o e n hb hx
      exact ⟨sl, (hs.2 b (old b o e)).trans q⟩
    · obtain ⟨o', q⟩ := I.base.there b o e hx
      exact ⟨o', (hs.2 b (old b o e)).trans q⟩
  refine ⟨I.ok, I.os, I.bare, un, ⟨_, hn', fun j y v' e1 e2 e3 => ?_⟩, fun y c e => ?_, I.free, I.freeC, fun p hp => ?_, fun b ob e => ?_, by simpa using I.len⟩
  · by_cases hj : j = i
    · subst hj
      rw [hi] at e1
      cases e1
      rw [List.getElem?_set_self hiσ] at e2
      cases e2
      exact ⟨u, r, .inl ⟨hk, by simp⟩⟩
    · rw [List.getElem?_set_ne (Ne.symm hj)] at e2
      obtain ⟨u', r', q⟩ := hl j y v' e1 e2 e3
      refine ⟨u', r', ?_⟩
      rcases q with ⟨k, e⟩ | ⟨k, c, e, z⟩
      · refine .inl ⟨k, ?_⟩
        have ne : y ≠ x := fun e => hj (nodup_ix hN e1 (e ▸ hi))
        simp [ne, e]
      · exact .inr ⟨k, c, e, z.sameBut hs (I.cne y c e)⟩
  · obtain ⟨w', z⟩ := I.cell y c e
    exact ⟨w', z.sameBut hs (I.cne y c e)⟩
  · obtain ⟨e, n, ne, nf, d⟩ := I.pin p hp
    exact ⟨(hs.2 p.1 ne).trans e, n, ne, nf, d⟩
  · refine (I.hok b ob e).stay (fun c w' hc q => (hs.2 c ?_).trans q) (fun _ q => q) fun _ _ q => q
    rcases hc with hc | hc
    · rw [hc]; exact tr b ob e
    · exact tr c _ hc

/-- a local name is read; nothing moves -/
theorem var_q {E : Value → Shared → Prop} {i : Nat} {x : Str} {v : V} {pos : Pos} {Q : Value → Shared → Prop} (I : Inv X pins σ H s) (hN : X.N[i]? = some x) (hk : X.env.scope.names.lookup x = some .local) (e : σ[i]? = some (some v)) (h : ∀ u, RelV v u → Q u s)
    (hd : (x == ("__debug__" : Str)) = false := by decide) : wpAny (model X.prog X.w) X.A (eval (.Name x pos) X.env) Q E s := by
  obtain ⟨m, hn, hl⟩ := I.loc
  obtain ⟨u, r, l⟩ := hl i x v hN e (.inl hk)
  rcases l with ⟨hk', hm⟩ | ⟨hk', _⟩
  · exact wpAny_Name (wpAny_loadName_local I.ok.kind hk' hn hm (h u r)) hd
  · exfalso
    have hk2 : X.env.kindOf x = some .local := hk
    rcases hk' with q | q <;> (rw [hk2] at q; cases q)

/-- found.append(x); if len(found) > most: (never) -/
theorem body_q {iF iI : Nat} {fo im most : Str} {Sa : Addr} {acc : List V} {x : V} {mv : Int} {mt : Tok} {p1 p2 p3 p4 p5 p6 p7 p8 p9 ap cp : Pos} {rs : List Stmt} (I : Inv X pins σ H s)
    (hF : X.N[iF]? = some fo) (kF : X.env.scope.names.lookup fo = some .local) (eF : σ[iF]? = some (some (.ref Sa)))
    (hI : X.N[iI]? = some im) (kI : X.env.scope.names.lookup im = some .local) (eI : σ[iI]? = some (some x))
    (hS : H Sa = some (.lst acc)) (hlen : (acc.length : Int) + 1 ≤ mv) (hfit : acc.length < sizeLine)
    (gl : Gl X "len") (ml : X.mg "len" = none) (gm : Gl X most) (mm : X.mg most = some (.int mv mt))
    (df : (fo == ("__debug__" : Str)) = false := by decide) (di : (im == ("__debug__" : Str)) = false := by decide) (dm : (most == ("__debug__" : Str)) = false := by decide)
    (hbase : attributeBase (.Name fo p1) "append" X.env (eval (.Name fo p1) X.env) = eval (.Name fo p1) X.env := by rfl)
    (hfew : ((backTo cp (starEach [.Name im p2] X.env)).all (fun x => !x.1) && (backToKw cp (keywordEach [] X.env)).all (fun x => x.1.isSome)
      && decide (([.Name im p2] : List Expr).length + ([] : List Keyword).length + (if ([] : List Keyword).isEmpty then 0 else 1) < 30)) = true := by rfl)
    (hline : (ap.endLine == cp.line) = true := by rfl) (hs1 : starEach [.Name im p2] X.env = [(false, eval (.Name im p2) X.env)] := by rfl)
    (hs2 : starEach [.Name fo p5] X.env = [(false, eval (.Name fo p5) X.env)] := by rfl)
    (hsw : swapsWith (.Call (.Attribute (.Name fo p1) "append" ap) [.Name im p2] [] cp) none p3.line X.env = pure false := by rfl) :
    wpAny (model X.prog X.w) X.A (execs [.Expr (.Call (.Attribute (.Name fo p1) "append" ap) [.Name im p2] [] cp) p3, .If (.Compare (.Call (.Name "len" p4) [.Name fo p5] [] p6) [.Gt] [.Name most p7] p8) rs [] p9] X.env)
      (fun fl s' => fl = .next ∧ ∃ u h' tk, s' = { s with heap := h', toks := tk } ∧ RelV x u ∧ h' = s.heap.update Sa (Obj.mapSeq (·.push u)) ∧ Inv X pins σ (upd H Sa (.lst (acc ++ [x]))) s') X.xe s := by
  refine wpAny_execs_cons ?_
  refine wpAny_Expr_any ?_ I.quiet hsw
  refine wpAny_Call_method_late hbase hfew hline rfl ?_
  refine var_q I hF kF eF (fun uF rF => ?_) df
  cases rF
  obtain ⟨h1, h2⟩ := tyV_is (T := "list") (x := .ref Sa) I rfl (.inl ⟨rfl, _, SqL.of hS⟩)
  refine ⟨"list", "list.append", PySem.F.plainAttrs_list, PySem.F.slot_list_append, PySem.F.type_list_append, h1, h2, ?_⟩
  rw [hs1]
  refine Calls.callWith_builtin rfl (Calls.evalArgs_plain ?_)
  refine Calls.spliced_cons ?_
  refine var_q I hI kI eI (fun u r => ?_) di
  refine Calls.spliced_nil ?_
  obtain ⟨z, its, n, rr, hl, e⟩ := I.lstM hS
  refine call_meets F.slot_list_append ⟨_, e, rfl⟩ F.entry_list_append (F.args_list_append_2 _ _) (PySem.list_append Sa its.toArray n u (by rw [List.size_toArray]; omega)) ⟨e, ?_⟩
  have I2 : Inv X pins σ (upd H Sa (.lst (acc ++ [x]))) { s with heap := s.heap.update Sa (Obj.mapSeq (·.push u)), toks := s.toks } :=
    I.lset (its' := its ++ [u]) (f := (·.push u)) hS e (by simp) (rr.append (.cons r .nil)) (by rw [List.length_append, List.length_singleton]; omega)
  -- if len(found) > most
  refine wpAny_execs_cons ?_
  refine wpAny_If ?_
  refine wpAny_isTrue_Compare1 ?_ (nobehind _ (by decide) (by decide))
  refine wpAny_Call_Name_kw (ld_blt I2 gl ml PySem.boot_len ?_)
  refine PyProof.Rows.callWith_builtin1 ?_ hs2 rfl
  rw [hs2]
  refine Calls.spliced_cons ?_
  refine var_q I2 hF kF eF (fun uF2 rF2 => ?_) df
  cases rF2
  refine Calls.spliced_nil ?_
  obtain ⟨z2, its2, n2, rr2, hl2, e2⟩ := I2.lstM upd_same
  refine Calls.call_len_list (items := its2.toArray) ⟨_, e2, rfl, n2, rfl⟩ ?_ ?_
  · have := line63
    rw [List.size_toArray, ← hl2]
    rw [List.length_append, List.length_singleton] at z2 ⊢
    omega
  have I3 : Inv X pins σ (upd H Sa (.lst (acc ++ [x]))) { s with heap := s.heap.update Sa (Obj.mapSeq (·.push u)), toks := s.toks + 1 + 1 } := I2.tok _
  refine ld_glob I3 gm mm ?_ dm
  refine gt_int ?_
  have hle : decide (mv < ((its2.toArray.size : Nat) : Int)) = false := by
    refine decide_eq_false ?_
    rw [List.size_toArray, ← hl2, List.length_append, List.length_singleton]
    omega
  rw [hle]
  refine wpAny_truthy_bool ?_
  rw [if_neg Bool.false_ne_true]
  refine wpAny_execs_nil ?_
  refine wpAny_execs_nil ?_
  exact ⟨rfl, u, _, _, rfl, r, rfl, I3⟩
end KG
set_option Elab.async false
set_option linter.all false
set_option maxRecDepth 100000
set_option maxHeartbeats 2000000
namespace KG
open PySem PySem.Spec PyProof.Rows L2 GenW
variable {X : Cx} {pins : List (Addr × Obj)} {σ σ' : L2.St} {H Hg : Hp} {s s₀ s1 : Shared}

/-- without the address a -/
def wo (H : Hp) (a : Addr) : Hp := fun b => if b = a then none else H b
theorem wo_same {H : Hp} {a : Addr} : wo H a a = none := by unfold wo; rw [if_pos rfl]
theorem wo_ne {H : Hp} {a b : Addr} (h : b ≠ a) : wo H a b = H b := by unfold wo; rw [if_neg h]
theorem wo_none {H : Hp} {a b : Addr} (h : H b = none) : wo H a b = none := by
  by_cases e : b = a
  · rw [e, wo_same]
  · rw [wo_ne e, h]
theorem of_wo {H : Hp} {a b : Addr} {o : HO} (h : wo H a b = some o) : b ≠ a ∧ H b = some o := by
  by_cases e : b = a
  · rw [e, wo_same] at h; cases h
  · rw [wo_ne e] at h; exact ⟨e, h⟩
theorem hok_wo {P : Program} {w : World} {h : Heap} {Sa : Addr} {xs : List V} (hS : H Sa = some (.lst xs)) (k : HOk P w H h) : HOk P w (wo H Sa) h := fun b o e => by
  obtain ⟨_, e'⟩ := of_wo e
  refine (k b o e').stay (fun _ _ _ z => z) (fun d q => ?_) fun d ys q => ?_
  · rw [wo_ne (ne_of q hS (fun z => by cases z))]; exact q
  · rw [wo_ne (ne_of q hS (fun z => by cases z))]; exact q
/-- the consumer's list is tracked again -/
theorem hok_up {P : Program} {w : World} {h : Heap} {Sa : Addr} {ys : List V} {acc : Array Value} {c : Nat} (hn : H Sa = none) (k : HOk P w H h) (e : h.get? Sa = some (lstObj acc c)) (r : Vals ys acc.toList) (hz : ys.length ≤ sizeLine) : HOk P w (upd H Sa (.lst ys)) h := fun b o q => by
  by_cases hb : b = Sa
  · subst hb
    rw [upd_same] at q
    cases q
    exact ⟨hz, acc.toList, c, r, by rw [e]⟩
  · rw [upd_ne hb] at q
    exact (k b o q).stay (fun _ _ _ z => z) (fun d z => by rw [upd_ne (ne_of_none z hn)]; exact z) fun d xs z => by rw [upd_ne (ne_of_none z hn)]; exact z

/-- the consumer's state behind a turn of the generator -/
theorem back {Sa : Addr} {ys0 ys : List V} {acc : Array Value} {c : Nat} (Ic : Inv X pins σ H s) (hS : H Sa = some (.lst ys0)) (I0 : ∃ Hw, Inv X pins σ' Hw s₀) (nocell : ∀ x, X.env.cells.lookup x = none)
    (un : Un (frs X.stack) [Sa, X.env.locals] (wo H Sa) Hg s.heap s1.heap) (hok : HOk X.prog X.w Hg s1.heap) (hnS : Hg Sa = none) (hnL : Hg X.env.locals = none)
    (e1 : s1.heap.get? Sa = some (lstObj acc c)) (r : Vals ys acc.toList) (hz : ys.length ≤ sizeLine) (os : s1.os = s.os) (bare : AllBare s1.gens)
    (eL : ∀ o, s₀.heap.get? X.env.locals = some o → ∃ sl, s1.heap.get? X.env.locals = some { o with slots := sl }) : Inv X pins σ' (upd Hg Sa (.lst ys)) s1 := by
  obtain ⟨Hw, I0⟩ := I0
  have sub : ∀ b ∈ X.fs, b ∈ frs X.stack := fun b hb => by
    rcases Ic.ok.stk with e | ⟨e, hf⟩
    · rw [e]; exact hb
    · rw [e]
      unfold frs
      rw [List.filterMap_cons, hf]
      exact List.mem_cons_of_mem _ hb
  have ne0 : ∀ b o, X.s_0.heap.get? b = some o → b ≠ X.env.locals := fun b o e => Nat.ne_of_lt (Nat.lt_of_lt_of_le (Heap.lt_size e) Ic.ok.above)
  have neS : ∀ b, H b = none → b ≠ Sa := fun b n z => by rw [z, hS] at n; cases n
  have nin : ∀ b, b ≠ Sa → b ≠ X.env.locals → b ∉ [Sa, X.env.locals] := fun b h1 h2 q => by simp at q; rcases q with q | q <;> contradiction
  have nst : ∀ b, b ≠ X.env.locals → b ∉ X.fs → b ∉ frs X.stack := fun b h1 h2 q => (List.mem_cons.mp (Ic.stkSub b q)).elim h1 h2
  refine ⟨Ic.ok, os.trans Ic.os, bare, ⟨fun b o e n hb hx => ?_, fun b o e n hb hx => ?_, fun b o e n hx => ?_, fun b o e hx => ?_, fun b xs e => ?_, fun b o u e => ?_, fun b ps e => ?_⟩, ?_, fun x c h => ?_, ?_, fun x c h => ?_, fun p hp => ?_, hok_up hnS hok e1 r hz, I0.len⟩
  · have n' := Ic.base.free b o e n hx
    exact un.keep b o (Ic.base.keep b o e n hb hx) (wo_none n') (nst b (ne0 b o e) hb) (nin b (neS b n') (ne0 b o e))
  · have n' := Ic.base.free b o e n hx
    obtain ⟨sl, q⟩ := Ic.base.slot b o e n hb hx
    obtain ⟨sl2, q2⟩ := un.slot b _ q (wo_none n') (sub b hb) (nin b (neS b n') (ne0 b o e))
    exact ⟨sl2, q2⟩
  · have n' := Ic.base.free b o e n hx
    obtain ⟨o', q⟩ := Ic.base.there b o e hx
    rw [upd_ne (neS b n')]
    exact un.free b o' q (wo_none n') (nin b (neS b n') (ne0 b o e))
  · obtain ⟨o', q⟩ := Ic.base.there b o e hx
    by_cases hb : b = Sa
    · rw [hb]; exact ⟨_, e1⟩
    · exact un.there b o' q (nin b hb (ne0 b o e))
  · have q := Ic.base.tups b xs e
    have z := ne_of q hS (fun z => by cases z)
    rw [upd_ne z]
    exact un.tups b xs (by rw [wo_ne z]; exact q)
  · have q := Ic.base.frzs b o u e
    have z := ne_of q hS (fun z => by cases z)
    rw [upd_ne z]
    exact un.frzs b o u (by rw [wo_ne z]; exact q)
  · obtain ⟨more, q⟩ := Ic.base.tbls b ps e
    have z := ne_of q hS (fun z => by cases z)
    obtain ⟨more2, q2⟩ := un.tbls b _ (by rw [wo_ne z]; exact q)
    rw [upd_ne z]
    exact ⟨more ++ more2, by rw [q2, Array.append_assoc]⟩
  · obtain ⟨m, ⟨o, es, ep, ho, rest⟩, hl⟩ := I0.loc
    obtain ⟨sl, q⟩ := eL o ho
    refine ⟨m, ⟨_, es, ep, q, rest⟩, fun i x v h1 h2 h3 => ?_⟩
    obtain ⟨u, rv, l⟩ := hl i x v h1 h2 h3
    refine ⟨u, rv, ?_⟩
    rcases l with l | ⟨_, c, e, _⟩
    · exact .inl l
    · rw [nocell x] at e; cases e
  · rw [nocell x] at h; cases h
  · rw [upd_ne (fun z => by rw [← z, Ic.free] at hS; cases hS)]; exact hnL
  · rw [nocell x] at h; cases h
  · obtain ⟨e, n, ne, nf, d⟩ := Ic.pin p hp
    refine ⟨un.keep p.1 p.2 e (wo_none n) (nst p.1 ne nf) (nin p.1 (neS _ n) ne), ?_, ne, nf, d⟩
    rw [upd_ne (neS _ n)]
    exact un.free p.1 p.2 e (wo_none n) (nin p.1 (neS _ n) ne)
end KG
set_option Elab.async false
set_option linter.all false
set_option maxRecDepth 100000
set_option maxHeartbeats 2000000
namespace KG
open PySem PySem.Spec PyProof.Rows L2 GenW
variable {X : Cx}

theorem Inv.gens {pins : List (Addr × Obj)} {σ : L2.St} {H : Hp} {s : Shared} {G : Array GenState} (I : Inv X pins σ H s) (h : AllBare G) : Inv X pins σ H { s with gens := G } :=
  ⟨I.ok, I.os, h, I.base, I.loc, I.cell, I.free, I.freeC, I.pin, I.hok, I.len⟩

/-- for im in g(e, ..): found.append(im); if len(found) > most: .. -/
def tForG (sp : SpG) (iF iI : Nat) (mv : Int) (ta : TA) : TS := fun D σ H => ta σ H fun vs H1 => ∃ (Sa : Addr) (Yv Qe : List V → Hp → Prop), σ[iF]? = some (some (.ref Sa)) ∧ H1 Sa = some (.lst []) ∧ sp vs (wo H1 Sa) Yv Qe ∧
  (∀ ys H', Yv ys H' → (ys.length : Int) ≤ mv) ∧ (∀ ys H', Qe ys H' → ys.length ≤ sizeLine) ∧ ∀ ys H' σ', (σ' = σ ∨ ∃ x, σ' = σ.set iI (some x)) → H' Sa = none → Qe ys H' → D.nx σ' (upd H' Sa (.lst ys))

theorem ps_forgen {k : Nat} {f : Addr} {fd : FuncData} {ps : List Str} {sp : SpG} {iF iI : Nat} {gname fo im most : Str} {mv : Int} {mt : Tok} {e : Expr} {es : List Expr} {ta : TA}
    {q1 q2 q3 p1 p2 p3 p4 p5 p6 p7 p8 p9 ap cp : Pos} {rs : List Stmt}
    (F : GFn X.prog X.w X.K X.mg X.base k f fd ps sp) (hr : Room (k + 1) X.A) (hg : Gl X gname) (hm : X.mg gname = some (.ref f)) (hk : PySem.W.keepIn X.K (.ref f) = true) (hb : Binds X.K fd ps []) (ha : PA X (e :: es) ta)
    (hp : PassesOwn (model X.prog X.w) X.A X.env X.xe) (hN : X.N.Nodup) (hst : X.stack = X.env :: X.outer) (hfm : X.env.frame = some X.env.locals) (nocell : ∀ x, X.env.cells.lookup x = none)
    (hF : X.N[iF]? = some fo) (kF : X.env.scope.names.lookup fo = some .local) (hI : X.N[iI]? = some im) (kI : X.env.scope.names.lookup im = some .local) (hne : iF ≠ iI)
    (gl : Gl X "len") (ml : X.mg "len" = none) (gm : Gl X most) (mm : X.mg most = some (.int mv mt)) (hmv : mv + 1 < sizeLine)
    (hdb : (gname == ("__debug__" : Str)) = false := by decide) (df : (fo == ("__debug__" : Str)) = false := by decide) (di : (im == ("__debug__" : Str)) = false := by decide) (dm : (most == ("__debug__" : Str)) = false := by decide)
    (he : starEach (e :: es) X.env = (false, eval e X.env) :: starEach es X.env := by rfl) (hpl : (backTo q3 (starEach es X.env)).any (·.1) = false := by rfl)
    (hbase : attributeBase (.Name fo p1) "append" X.env (eval (.Name fo p1) X.env) = eval (.Name fo p1) X.env := by rfl)
    (hfew : ((backTo cp (starEach [.Name im p2] X.env)).all (fun x => !x.1) && (backToKw cp (keywordEach [] X.env)).all (fun x => x.1.isSome)
      && decide (([.Name im p2] : List Expr).length + ([] : List Keyword).length + (if ([] : List Keyword).isEmpty then 0 else 1) < 30)) = true := by rfl)
    (hline : (ap.endLine == cp.line) = true := by rfl) (hs1 : starEach [.Name im p2] X.env = [(false, eval (.Name im p2) X.env)] := by rfl)
    (hs2 : starEach [.Name fo p5] X.env = [(false, eval (.Name fo p5) X.env)] := by rfl)
    (hsw : swapsWith (.Call (.Attribute (.Name fo p1) "append" ap) [.Name im p2] [] cp) none p3.line X.env = pure false := by rfl)
    (hfs : ∀ x, foldedSetIterable (.Call (.Name gname q2) (e :: es) [] q3) X.env x = pure x := by intro _; rfl) {pos tp : Pos} :
    PS X (.For (.Name im tp) (.Call (.Name gname q2) (e :: es) [] q3) [.Expr (.Call (.Attribute (.Name fo p1) "append" ap) [.Name im p2] [] cp) p3, .If (.Compare (.Call (.Name "len" p4) [.Name fo p5] [] p6) [.Gt] [.Name most p7] p8) rs [] p9] [] pos) (tForG sp iF iI mv ta) := by
  refine ⟨fun pins s σ H D I h => ?_⟩
  refine wpAny_For ?_ hfs
  refine wpAny_Call_Name_kw (ld_glob I hg hm ?_ hdb)
  refine PySem.W.callWith_K (h₀ := X.base) I.ok.mod.kin hk (thn (ha.run q3 pins s σ H _ I h) fun us s1 ⟨vs, H1, I1, r, Sa, Yv, Qe, eF, hS, hsp, hYv, hQe, hend⟩ => ⟨I1.kIn, ?_⟩) he hpl
  have hlen : us.length = ps.length := by rw [← r.length]; exact F.len _ _ _ _ hsp
  have hSL : Sa ≠ X.env.locals := fun z => by rw [z, I1.free] at hS; cases hS
  obtain ⟨z1, its, n1, r1, hl1, e1⟩ := I1.lstM hS
  have its0 : its = [] := List.length_eq_zero_iff.mp (by rw [← hl1]; rfl)
  subst its0
  obtain ⟨mL, ⟨oL, esL, epL, hoL, restL⟩, hlL⟩ := id I1.loc
  have hb' : X.base.get? Sa = none ∧ X.base.get? X.env.locals = none := by
    constructor
    · cases q : X.base.get? Sa with
      | none => rfl
      | some o =>
        have := (I1.bs Sa o q).2
        rw [hS] at this; cases this
    · exact Heap.get?_none_of_le (Nat.le_trans I1.ok.bsz I1.ok.above)
  have hLin : X.env.locals ∈ frs X.stack := by
    rw [hst]
    unfold frs
    rw [List.filterMap_cons, hfm]
    exact List.mem_cons_self
  have hSnin : Sa ∉ frs X.stack := fun z => by
    have := I1.stkFree Sa z
    rw [hS] at this; cases this
  have e0 := I1.env0
  have e0' : Env0 X.prog X.w X.K X.mg X.base X.A X.stack s1 (wo H1 Sa) :=
    ⟨e0.frames, e0.mod, fun b o q => ⟨(e0.bs b o q).1, wo_none (e0.bs b o q).2⟩, e0.bsz, e0.funs, fun b q => wo_none (e0.frf b q), hok_wo hS e0.hok, e0.bare⟩
  refine wpAny_call (codeAny_mono (F.run X.A X.A.in1 X.stack s1 (wo H1 Sa) ⟨us, []⟩ us vs Yv Qe Sa X.env.locals (hr.mono (Nat.le_succ _)) hr.in1 I1.ok.frames e0' (by
      have q := hb s1 us I1.kIn (by rw [List.append_nil]; exact hlen)
      rw [List.append_nil] at q
      exact q) r hsp ⟨n1, e1⟩ ⟨oL, hoL⟩ hSL hb' ⟨hLin, hSnin⟩ ⟨wo_same, wo_none I1.free⟩) fun res s2 hq => ?_)
  obtain ⟨Xg, a, g, c, go, rfl, M⟩ := hq
  obtain ⟨nm, qn, hdat, hslots⟩ := M.dat
  have isgen : ∀ {h : Heap}, h.get? a = some go → h.IsGen a g := fun e => ⟨go, nm, qn, e, M.cls, hdat, hslots⟩
  have fsg : Xg.fs = frs X.stack := by show frs Xg.outer = _; rw [M.out]
  have gx := M.gx
  -- the consumer behind the call
  have I2 : Inv X pins σ H1 s2 := I1.call' (ch := []) M.os (Un.kept M.keep) (I1.hok.kept M.keep) M.bare fun b z => by simp at z
  show wpAny _ _ (pyIter (.ref a)) _ _ s2
  refine wpAny_pyIter_gen (isgen M.at_) ?_
  have hgl2 : g < s2.gens.size := (Array.getElem?_eq_some_iff.mp M.fresh).1
  refine codeAny_forLoop_any (fun n st => ∃ (ys : List V) (σ' : L2.St) (gs : GenState) (Hg : Hp), n + ys.length = sizeLine ∧ Inv X pins σ' (upd Hg Sa (.lst ys)) st ∧ (σ' = σ ∨ ∃ x, σ' = σ.set iI (some x)) ∧ Hg Sa = none ∧
      st.gens[g]? = some gs ∧ st.heap.get? a = some go ∧ gs.Goes (model X.prog X.w) X.A.in1 (GR Xg Sa X.env.locals Qe) (GY Xg Sa X.env.locals Yv) n (.send .none) (st.setGen g .running)) ?_ sizeLine ?_
  · rintro n st ⟨ys, σ', gs, Hg, hn, IJ, hσ, hgS, hgs, hat, hgo⟩
    have hgl : g < st.gens.size := (Array.getElem?_eq_some_iff.mp hgs).1
    refine wpAny_passesOwn hp (wpAny_gsz (n := g + 1) hgl (next_genG (F := GF Xg Sa X.env.locals Qe) (Er := fun _ _ => False) (n := n) hr.hd IJ.nolimit hr.depth (isgen hat) hgs hgo (fun v s₁ gs' hbare hv => ?_) (fun s₁ hpe h' hkk => ?_) fun e s₁ he => he.elim))
    · intro hsz
      obtain ⟨ys', x, H0, σg, Hg', hn', rv, wk, Ig, yv, kap⟩ := hv
      have hlt : ys'.length + 1 ≤ mv := by
        have := hYv _ _ yv
        rw [List.length_append, List.length_singleton] at this
        omega
      obtain ⟨n, rfl⟩ : ∃ m, n = m + 1 := ⟨n - 1, by omega⟩
      obtain ⟨acc, cc, eacc, racc⟩ := wk.at_
      -- the list says what is out
      obtain ⟨zy, itsy, ny, ry, hly, ey⟩ := IJ.lstM (l := Sa) upd_same
      have eq1 : acc = itsy.toArray := by
        have eacc' : st.heap.get? Sa = some (lstObj acc cc) := eacc
        rw [ey] at eacc'
        have := Option.some.inj eacc'
        injection this with _ _ hd _
        injection hd with h1 h2
        exact h1.symm
      have eys : ys' = ys := by
        rw [eq1] at racc
        exact Vals.inj racc ry
      subst eys
      have exg : (rc Xg (st.setGen g .running) H0).ex = [] := gx.ex
      have noex : ∀ b : Addr, b ∉ (rc Xg (st.setGen g .running) H0).ex := fun b z => by rw [exg] at z; cases z
      have eS1 : s₁.heap.get? Sa = some (lstObj acc cc) := Ig.base.keep Sa _ (by show (cutH (n0 Xg) st.heap).get? Sa = _; rw [cutH_get gx.lt.1]; exact eacc) wk.fr.1 gx.fs.2 (noex _)
      obtain ⟨mJ, ⟨oJ, esJ, epJ, hoJ, restJ⟩, hlJ⟩ := id IJ.loc
      obtain ⟨f1, f2⟩ := free_at gx wk ⟨oJ, hoJ⟩ Ig
      have un : Un (frs X.stack) [Sa, X.env.locals] (wo H1 Sa) Hg' s1.heap s₁.heap := by
        have u := Un.transCut wk.un (Nat.le_refl _) (by have q := Ig.base; rw [exg] at q; exact q)
        rw [fsg, M.H0, M.s0] at u
        exact u
      have hokg : HOk X.prog X.w Hg' s₁.heap := by
        have q := Ig.hok
        have q' : HOk Xg.prog Xg.w Hg' s₁.heap := q
        rw [M.prog, M.wd] at q'
        exact q'
      have hzys : ys'.length ≤ sizeLine := by omega
      have os1 : s₁.os = s1.os := by
        have q : s₁.os = st.os := Ig.os
        rw [q, IJ.os, I1.os]
      have Ib : Inv X pins σ' (upd Hg' Sa (.lst ys')) s₁ := back I1 hS ⟨_, IJ⟩ nocell un hokg f1 f2 eS1 racc hzys os1 Ig.bare (fun o e => by
        have q : (cutH (n0 Xg) st.heap).get? X.env.locals = some o := by rw [cutH_get gx.lt.2]; exact e
        exact Ig.base.slot X.env.locals o q wk.fr.2 (by show X.env.locals ∈ Xg.fs; exact gx.fs.1) (noex _))
      have Ib2 : Inv X pins σ' (upd Hg' Sa (.lst ys')) (s₁.setGen g gs') := Inv.gens Ib (allBare_setGen Ib.bare hbare)
      have hat1 : s₁.heap.get? a = some go := (Ig.pin (a, go) (List.mem_append_left _ (by show (a, go) ∈ Xg.pn; rw [M.pn]; exact List.mem_singleton.mpr rfl))).1
      have haS : a ≠ Sa := Nat.ne_of_gt (Nat.lt_of_lt_of_le (Heap.lt_size e1) M.young)
      have haL : a ≠ X.env.locals := Nat.ne_of_gt (Nat.lt_of_lt_of_le (Heap.lt_size hoL) M.young)
      refine wpAny_passesOwn hp (go_of (o := go) (n := "generator") (vs := _) hat1 M.cls hdat (by decide) ?_)
      refine wpAny_passesOwn hp (wpAny_assign_Name (store_q Ib2 hN hI kI rv fun h1 tk1 I3 sb => ?_))
      have hiI : iI < σ'.length := by rw [Ib2.len]; exact (List.getElem?_eq_some_iff.mp hI).1
      have eF' : (σ'.set iI (some x))[iF]? = some (some (.ref Sa)) := by
        rw [List.getElem?_set_ne (Ne.symm hne)]
        rcases hσ with rfl | ⟨y, rfl⟩
        · exact eF
        · rw [List.getElem?_set_ne (Ne.symm hne)]; exact eF
      refine wpAny_passesOwn hp (thn (body_q I3 hF kF eF' hI kI (List.getElem?_set_self hiI) upd_same (by omega) (by omega) gl ml gm mm df di dm hbase hfew hline hs1 hs2 hsw) fun fl s4 hb4 => ?_)
      obtain ⟨rfl, u, h4, tk4, rfl, ru, eh4, I4⟩ := hb4
      rw [upd_upd] at I4
      have keep4 : ∀ b o, b ≠ Sa → b ≠ X.env.locals → s₁.heap.get? b = some o → h4.get? b = some o := fun b o hb1 hb2 e => by
        rw [eh4]
        exact (Heap.get?_update_other _ _ (Ne.symm hb1)).trans ((sb.2 b hb2).trans e)
      have gsz : g < s₁.gens.size := by
        have q : (s₁.setGen g gs').gens.size = s₁.gens.size := setGen_size _ _ _
        have hsz' : g + 1 ≤ (s₁.setGen g gs').gens.size := hsz
        omega
      refine ⟨n, Nat.lt_succ_self n, ys' ++ [x], _, gs', Hg', ?_, I4, ?_, f1, setGen_at gsz, keep4 a go haS haL hat1, ?_⟩
      · rw [List.length_append, List.length_singleton]; omega
      · refine .inr ⟨x, ?_⟩
        rcases hσ with rfl | ⟨y, rfl⟩
        · rfl
        · rw [List.set_set]
      · refine kap _ ⟨allBare_setGen I4.bare rfl, keep4, ?_, ?_, ?_, fun acc' c' e => ?_⟩
        · obtain ⟨m4, ⟨o4, _, _, ho4, _⟩, _⟩ := I4.loc
          exact ⟨o4, ho4⟩
        · rw [M.bs, M.out]; exact I4.stack
        · show s₁.heap.objs.size ≤ h4.objs.size
          rw [eh4]
          have q1 : h1.objs.size = s₁.heap.objs.size := sb.1
          have q2 : (h1.update Sa (Obj.mapSeq (·.push u))).objs.size = h1.objs.size := by
            show (h1.objs.modify _ _).size = _
            simp
          show _ ≤ (h1.update Sa (Obj.mapSeq (·.push u))).objs.size
          rw [q2, q1]
          exact Nat.le_refl _
        · have e5 : h1.get? Sa = some (lstObj acc' c') := (sb.2 Sa hSL).trans e
          obtain ⟨c2, e6⟩ : ∃ c2, h4.get? Sa = some (lstObj (acc'.push u) c2) := by
            rw [eh4]
            exact ⟨_, Heap.get?_update_self _ e5 rfl⟩
          exact ⟨c2, u, ru, e6⟩
    · intro hsz
      obtain ⟨ys', H0, σg, Hg', hn', wk, Ig, qe⟩ := hpe
      obtain ⟨acc, cc, eacc, racc⟩ := wk.at_
      obtain ⟨zy, itsy, ny, ry, hly, ey⟩ := IJ.lstM (l := Sa) upd_same
      have exg : (rc Xg (st.setGen g .running) H0).ex = [] := gx.ex
      have noex : ∀ b : Addr, b ∉ (rc Xg (st.setGen g .running) H0).ex := fun b z => by rw [exg] at z; cases z
      have eS1 : s₁.heap.get? Sa = some (lstObj acc cc) := Ig.base.keep Sa _ (by show (cutH (n0 Xg) st.heap).get? Sa = _; rw [cutH_get gx.lt.1]; exact eacc) wk.fr.1 gx.fs.2 (noex _)
      obtain ⟨mJ, ⟨oJ, esJ, epJ, hoJ, restJ⟩, hlJ⟩ := id IJ.loc
      obtain ⟨f1, f2⟩ := free_at gx wk ⟨oJ, hoJ⟩ Ig
      have un : Un (frs X.stack) [Sa, X.env.locals] (wo H1 Sa) Hg' s1.heap s₁.heap := by
        have u := Un.transCut wk.un (Nat.le_refl _) (by have q := Ig.base; rw [exg] at q; exact q)
        rw [fsg, M.H0, M.s0] at u
        exact u
      have hokg : HOk X.prog X.w Hg' s₁.heap := by
        have q' : HOk Xg.prog Xg.w Hg' s₁.heap := Ig.hok
        rw [M.prog, M.wd] at q'
        exact q'
      have os1 : s₁.os = s1.os := by
        have q : s₁.os = st.os := Ig.os
        rw [q, IJ.os, I1.os]
      have Ib : Inv X pins σ' (upd Hg' Sa (.lst ys')) s₁ := back I1 hS ⟨_, IJ⟩ nocell un hokg f1 f2 eS1 racc (hQe _ _ qe) os1 Ig.bare (fun o e => by
        have q : (cutH (n0 Xg) st.heap).get? X.env.locals = some o := by rw [cutH_get gx.lt.2]; exact e
        exact Ig.base.slot X.env.locals o q wk.fr.2 (by show X.env.locals ∈ Xg.fs; exact gx.fs.1) (noex _))
      have Ib2 : Inv X pins σ' (upd Hg' Sa (.lst ys')) { s₁.setGen g .finished with heap := h' } := by
        have q := (Inv.gens Ib (G := (s₁.setGen g .finished).gens) (allBare_setGen Ib.bare rfl))
        exact q.kept (t' := s₁.toks) hkk
      exact wpAny_passesOwn hp (wpAny_execs_nil ⟨σ', _, Ib2, hend ys' Hg' σ' hσ f1 qe⟩)
  · refine ⟨[], σ, .fresh c, wo H1 Sa, Nat.add_zero _, ?_, .inl rfl, wo_same, M.fresh, M.at_, rfl, ?_⟩
    · have e : upd (wo H1 Sa) Sa (.lst []) = H1 := by
        funext b
        by_cases hb : b = Sa
        · rw [hb, upd_same, hS]
        · rw [upd_ne hb, wo_ne hb]
      rw [e]
      exact I2
    · exact M.wake _ M.os (allBare_setGen M.bare rfl) (fun b o e => e) I2.stack
end KG
set_option Elab.async false
set_option linter.all false
set_option maxRecDepth 100000
set_option maxHeartbeats 4000000
namespace K35
open PySem PySem.Spec PyProof.Rows L2
/-! ### the text -/
def topS (i : Nat) : Stmt := PySem.Challenge.pw_reesblocks_k35_whole_homomorphisms.main.body.getD i (.Pass ⟨0, 0, 0, 0⟩)
abbrev sInt : Stmt := topS 6
abbrev sItem : Stmt := topS 9
abbrev sTaken : Stmt := topS 10
abbrev sAssoc : Stmt := topS 11
abbrev sInit : Stmt := inClass (topS 12) 0
abbrev sIsHom : Stmt := topS 15
abbrev sClosing : Stmt := topS 16
abbrev sClose : Stmt := topS 17
abbrev sExt : Stmt := topS 18
abbrev sWalk : Stmt := topS 19
abbrev sGath : Stmt := topS 20
abbrev sHoms : Stmt := topS 21
abbrev sCount : Stmt := topS 22
abbrev sOnes : Stmt := topS 23
abbrev sState : Stmt := topS 25
abbrev sTake : Stmt := topS 26
abbrev sOrder : Stmt := topS 27
abbrev sRen : Stmt := topS 28
abbrev sAfter : Stmt := topS 29
abbrev sClosed : Stmt := topS 30
abbrev sOfMaps : Stmt := topS 31
abbrev sMono : Stmt := topS 32
abbrev sTrip : Stmt := topS 33
abbrev sBlocks : Stmt := topS 34
abbrev sPlain : Stmt := topS 35
abbrev sExtd : Stmt := topS 36
abbrev sSemi : Stmt := topS 37
abbrev sRows : Stmt := topS 38
abbrev sKeeps : Stmt := topS 39
abbrev sLaw : Stmt := topS 40

theorem scInt : FnScope ["value"] ["value"] (defScope sInt) := ⟨rfl, rfl, rfl, by decide +kernel, rfl, by decide +kernel, by decide +kernel⟩
theorem scItem : FnScope ["value", "n"] ["value", "n"] (defScope sItem) := ⟨rfl, rfl, rfl, by decide +kernel, rfl, by decide +kernel, by decide +kernel⟩
theorem scTaken : FnScope ["table", "found", "row", "item"] ["table"] (defScope sTaken) := ⟨rfl, rfl, rfl, by decide +kernel, rfl, by decide +kernel, by decide +kernel⟩
theorem scAssoc : FnScope ["table", "row", "y", "z", "item"] ["table"] (defScope sAssoc) := ⟨rfl, rfl, rfl, by decide +kernel, rfl, by decide +kernel, by decide +kernel⟩
theorem scInit : FnScope ["self", "table", "own"] ["self", "table"] (defScope sInit) := ⟨rfl, rfl, rfl, by decide +kernel, rfl, by decide +kernel, by decide +kernel⟩
theorem scIsHom : FnScope ["a", "b", "images", "y", "x"] ["a", "b", "images"] (defScope sIsHom) := ⟨rfl, rfl, rfl, by decide +kernel, rfl, by decide +kernel, by decide +kernel⟩
theorem scClosing : FnScope ["s", "known", "found", "x", "made"] ["s"] (defScope sClosing) := ⟨rfl, rfl, rfl, by decide +kernel, rfl, by decide +kernel, by decide +kernel⟩
theorem scClose : FnScope ["s", "known", "made", "at", "y", "left", "right", "product"] ["s", "known"] (defScope sClose) := ⟨rfl, rfl, rfl, by decide +kernel, rfl, by decide +kernel, by decide +kernel⟩
theorem scExt : FnScope ["a", "b", "images", "step", "y", "unlike", "x", "known", "made", "found", "product", "left", "right", "z"] ["a", "b", "images", "step", "y", "unlike"] (defScope sExt) := ⟨rfl, rfl, rfl, by decide +kernel, rfl, by decide +kernel, by decide +kernel⟩
theorem scGath : FnScope ["a", "b", "unlike", "found", "images"] ["a", "b", "unlike"] (defScope sGath) := ⟨rfl, rfl, rfl, by decide +kernel, rfl, by decide +kernel, by decide +kernel⟩
theorem scHoms : FnScope ["a", "b"] ["a", "b"] (defScope sHoms) := ⟨rfl, rfl, rfl, by decide +kernel, rfl, by decide +kernel, by decide +kernel⟩
theorem scCount : FnScope ["a", "b"] ["a", "b"] (defScope sCount) := ⟨rfl, rfl, rfl, by decide +kernel, rfl, by decide +kernel, by decide +kernel⟩
theorem scOnes : FnScope ["a", "b"] ["a", "b"] (defScope sOnes) := ⟨rfl, rfl, rfl, by decide +kernel, rfl, by decide +kernel, by decide +kernel⟩
theorem scState : FnScope ["_law_script", "_law_seed", "_law_total", "_law_cell"] ["_law_script"] (defScope sState) := ⟨rfl, rfl, rfl, by decide +kernel, rfl, by decide +kernel, by decide +kernel⟩
theorem scTake : FnScope ["_law_state_here", "_law_m", "_law_value"] ["_law_state_here", "_law_m"] (defScope sTake) := ⟨rfl, rfl, rfl, by decide +kernel, rfl, by decide +kernel, by decide +kernel⟩
theorem scOrder : FnScope ["_law_state_here", "_law_n", "_law_left", "_law_found", "_law_k"] ["_law_state_here", "_law_n"] (defScope sOrder) := ⟨rfl, rfl, rfl, by decide +kernel, rfl, by decide +kernel, by decide +kernel⟩
theorem scRen : FnScope ["_law_table", "_law_order", "_law_n", "_law_x", "_law_y", "_law_found", "_law_row"] ["_law_table", "_law_order"] (defScope sRen) := ⟨rfl, rfl, rfl, by decide +kernel, rfl, by decide +kernel, by decide +kernel⟩
theorem scAfter : FnScope ["_law_f", "_law_g", "_law_x"] ["_law_f", "_law_g"] (defScope sAfter) := ⟨rfl, rfl, rfl, by decide +kernel, rfl, by decide +kernel, by decide +kernel⟩
theorem scClosed : FnScope ["_law_maps", "_law_found", "_law_f", "_law_turn", "_law_g", "_law_h"] ["_law_maps"] (defScope sClosed) := ⟨rfl, rfl, rfl, by decide +kernel, rfl, by decide +kernel, by decide +kernel⟩
theorem scOfMaps : FnScope ["_law_state_here", "_law_most", "_law_k", "_law_maps", "_law_turn", "_law_found", "_law_x", "_law_f", "_law_g"] ["_law_state_here", "_law_most"] (defScope sOfMaps) := ⟨rfl, rfl, rfl, by decide +kernel, rfl, by decide +kernel, by decide +kernel⟩
theorem scMono : FnScope ["_law_state_here", "_law_most", "_law_n", "_law_period", "_law_index", "_law_rows", "_law_x", "_law_row", "_law_y", "_law_k"] ["_law_state_here", "_law_most"] (defScope sMono) := ⟨rfl, rfl, rfl, by decide +kernel, rfl, by decide +kernel, by decide +kernel⟩
theorem scTrip : FnScope ["_law_a", "_law_b", "_law_g", "_law_twist", "_law_holes", "_law_zero", "_law_size", "_law_rows", "_law_x", "_law_row", "_law_y", "_law_j", "_law_i", "_law_turn", "_law_k"] ["_law_a", "_law_b", "_law_g", "_law_twist", "_law_holes", "_law_zero"] (defScope sTrip) := ⟨rfl, rfl, rfl, by decide +kernel, rfl, by decide +kernel, by decide +kernel⟩
theorem scBlocks : FnScope ["_law_state_here", "_law_most", "_law_a", "_law_b", "_law_g", "_law_twist", "_law_holes", "_law_zero", "_law_i", "_law_j"] ["_law_state_here", "_law_most"] (defScope sBlocks) := ⟨rfl, rfl, rfl, by decide +kernel, rfl, by decide +kernel, by decide +kernel⟩
theorem scPlain : FnScope ["_law_state_here", "_law_most", "_law_pick", "_law_n", "_law_x", "_law_y"] ["_law_state_here", "_law_most"] (defScope sPlain) := ⟨rfl, rfl, rfl, by decide +kernel, rfl, by decide +kernel, by decide +kernel⟩
theorem scExtd : FnScope ["_law_state_here", "_law_table", "_law_most", "_law_n", "_law_pick", "_law_second", "_law_x", "_law_y", "_law_row"] ["_law_state_here", "_law_table", "_law_most"] (defScope sExtd) := ⟨rfl, rfl, rfl, by decide +kernel, rfl, by decide +kernel, by decide +kernel⟩
theorem scSemi : FnScope ["_law_state_here", "_law_most", "_law_table"] ["_law_state_here", "_law_most"] (defScope sSemi) := ⟨rfl, rfl, rfl, by decide +kernel, rfl, by decide +kernel, by decide +kernel⟩
theorem scRows : FnScope ["_law_n", "_law_count", "_law_found", "_law_k", "_law_longer", "_law_row", "_law_x"] ["_law_n", "_law_count"] (defScope sRows) := ⟨rfl, rfl, rfl, by decide +kernel, rfl, by decide +kernel, by decide +kernel⟩
theorem scKeeps : FnScope ["_law_one", "_law_two", "_law_images", "_law_n", "_law_x", "_law_y"] ["_law_one", "_law_two", "_law_images"] (defScope sKeeps) := ⟨rfl, rfl, rfl, by decide +kernel, rfl, by decide +kernel, by decide +kernel⟩
theorem scLaw : FnScope ["_law_script", "_law_state_here", "_law_one", "_law_two", "_law_a", "_law_b", "_law_n", "_law_m", "_law_due", "_law_told", "_law_apart", "_law_drawn", "_law_value", "_law_images", "_law_x"] ["_law_script"] (defScope sLaw) := ⟨rfl, rfl, rfl, by decide +kernel, rfl, by decide +kernel, by decide +kernel⟩
end K35
set_option Elab.async false
set_option linter.all false
set_option maxRecDepth 100000
set_option maxHeartbeats 4000000
namespace K35
open PySem PySem.Spec PyProof.Rows L2
/-! ### the law's state -/
abbrev nv (x : Nat) : V := .int (x : Int)
def LawSt (H : Hp) (a : Addr) : Prop := ∃ S T : Int, 0 ≤ S ∧ H a = some (.lst [.int S, .int T])
section
variable {P : Program} {w : World} {K : PySem.W.Frag} {mg : Str → Option Value} {base : Heap}
def spTake : Sp := fun vs H Q _ => ∃ (a : Addr) (m : Nat), vs = [.ref a, nv m] ∧ 1 ≤ m ∧ m ≤ 1100 ∧ LawSt H a ∧ ∀ (r : Nat) (S T : Int), r < m → 0 ≤ S → Q (nv r) (upd H a (.lst [.int S, .int T]))
theorem ok_take {f : Addr} {fd : FuncData} {k : Nat} (F : Fun K "_law_take" "_law_take" sTake f fd) (mi : mg "int" = none) : FnOk P w K mg base CX0 (k + 1) f fd ["_law_state_here", "_law_m"] spTake := by
  refine F.ok scTake (fun vs H Q E h => ?_) (fun cdv A outer s H vs Q E hr h => ?_)
  · obtain ⟨a, m, rfl, _⟩ := h
    rfl
  · obtain ⟨a, m, rfl, h1, h2, ⟨S, T, h0, ea⟩, q⟩ := h
    refine ⟨_, pss_cons (ps_if (pt_cmpR op_gt (pe_ix ix_list (pv 0) pe_int (fun _ _ => rfl)) pe_int (nomark _))
        (pss_cons (ps_set (i := 2) scTake.nd rfl (.inl rfl) (pe_op op_mod (pe_callTy call_int1 (by rfl) mi PyProof.Rows.boot_int (pa_cons (pe_ix ix_list (pv 0) pe_int (fun _ _ => rfl)) pa_nil)) (pv 1)))
        (pss_cons (ps_asg (pe_op op_fdiv (pe_ix ix_list (pv 0) pe_int (fun _ _ => rfl)) (pv 1)) (pg_sub (pv 0) pe_int set_list))
        (pss_one (ps_ret (pv 2))))) pss_nil)
      (pss_cons (ps_asg (pe_op op_mod (pe_callTy call_int1 (by rfl) mi PyProof.Rows.boot_int (pa_cons (pe_op op_add (pe_op op_mul (pe_ix ix_list (pv 0) pe_int (fun _ _ => rfl)) pe_int) pe_int) pa_nil)) pe_int) (pg_sub (pv 0) pe_int set_list))
      (pss_one (ps_ret (pe_op op_mod (pe_callTy call_int1 (by rfl) mi PyProof.Rows.boot_int (pa_cons (pe_op op_fdiv (pe_ix ix_list (pv 0) pe_int (fun _ _ => rfl)) pe_int) pa_nil)) (pv 1))))), ?_⟩
    have hm : (0 : Int) < (m : Int) := by omega
    have hm2 : (m : Int) < 1073741824 := by omega
    have res : ∀ z : Int, ∃ r : Nat, r < m ∧ V.int (z % (m : Int)) = nv r := fun z => by
      have a1 := Int.emod_nonneg z (by omega : (m : Int) ≠ 0)
      have a2 := Int.emod_lt_of_pos z hm
      exact ⟨(z % (m : Int)).toNat, by omega, by show V.int _ = V.int _; rw [Int.toNat_of_nonneg a1]⟩
    -- if st[0] > 0
    refine ⟨.ref a, rfl, a, _, 0, .int S, rfl, rfl, SqL.of ea, atI_nat (j := 0) rfl, S, 0, rfl, rfl, _, rfl, ite2 (fun e => ?_) (fun e => ?_)⟩
    · obtain ⟨r, hr', er⟩ := res S
      refine ⟨.ref a, rfl, a, _, 0, .int S, rfl, rfl, SqL.of ea, atI_nat (j := 0) rfl, .inl ⟨S, rfl, nv m, rfl, S, (m : Int), rfl, rfl, hm, ?_⟩⟩
      refine ⟨.ref a, rfl, a, _, 0, .int S, rfl, rfl, SqL.of ea, atI_nat (j := 0) rfl, nv m, rfl, S, (m : Int), rfl, rfl, ⟨hm, hm2⟩, ?_⟩
      refine ⟨.ref a, rfl, a, _, 0, 0, rfl, rfl, ea, rfl, ?_⟩
      refine ⟨_, rfl, ?_⟩
      have q2 := q r (S / (m : Int)) T hr' (Int.ediv_nonneg h0 (by omega))
      rw [← er] at q2
      exact q2
    · refine ⟨.ref a, rfl, a, _, 1, .int T, rfl, rfl, SqL.of ea, atI_nat (j := 1) rfl, T, 48271, rfl, rfl, .inr ⟨by decide, by decide⟩, _, 11, rfl, rfl, .inl ⟨_, rfl, _, 2147483647, rfl, rfl, (show (0 : Int) < 2147483647 from by decide), ?_⟩⟩
      refine ⟨.ref a, rfl, a, _, 1, 1, rfl, rfl, ea, rfl, ?_⟩
      refine ⟨.ref a, rfl, a, _, 1, _, rfl, rfl, SqL.of upd_same, atI_nat (j := 1) rfl, _, 7, rfl, rfl, ⟨by decide, by decide⟩, .inl ⟨_, rfl, nv m, rfl, _, (m : Int), rfl, rfl, hm, ?_⟩⟩
      obtain ⟨r, hr', er⟩ := res (((T * 48271 + 11) % 2147483647) / 7)
      have q2 := q r S ((T * 48271 + 11) % 2147483647) hr' h0
      rw [← er] at q2
      exact q2

def spState (K : PySem.W.Frag) : Sp := fun vs H Q _ => ∃ (a : Addr) (ns : List Int), vs = [.ref a] ∧ SqL K H a (ns.map V.int) ∧ ns.length ≤ 63 ∧ ∀ (p : Addr) (H' : Hp) (S T : Int), H p = none → 0 ≤ S → Same H H' → H' p = some (.lst [.int S, .int T]) → Q (.ref p) H'
theorem ok_state {f : Addr} {fd : FuncData} {k : Nat} (F : Fun K "_law_state" "_law_state" sState f fd) (mi : mg "int" = none) (ma : mg "abs" = none) : FnOk P w K mg base CX0 (k + 1) f fd ["_law_script"] (spState K) := by
  refine F.ok scState (fun vs H Q E h => ?_) (fun cdv A outer s H vs Q E hr h => ?_)
  · obtain ⟨a, ns, rfl, _⟩ := h
    rfl
  · obtain ⟨a, ns, rfl, hS, hlen, q⟩ := h
    refine ⟨_, pss_cons (ps_set (i := 1) scState.nd rfl (.inl rfl) pe_int)
      (pss_cons (ps_set (i := 2) scState.nd rfl (.inl rfl) pe_int)
      (pss_cons (ps_for PassesOwn.never rfl (pi_list (pe_slice sl_list (pv 0) po_none (po_some pe_int))) (pg_name (i := 3) scState.nd rfl (.inl rfl))
        (pss_cons (ps_set (i := 1) scState.nd rfl (.inl rfl) (pe_op op_add (pe_op op_mul (pv 1) pe_int) (pe_callB call_abs (by rfl) ma PyProof.Rows.boot_abs (pa_cons (pv 3) pa_nil))))
        (pss_one (ps_set (i := 2) scState.nd rfl (.inl rfl) (pe_op op_mod (pe_callTy call_int1 (by rfl) mi PyProof.Rows.boot_int (pa_cons (pe_op op_add (pe_op op_mul (pv 2) pe_int) (pv 3)) pa_nil)) pe_int)))))
      (pss_one (ps_ret (pe_lst (pa_cons (pv 1) (pa_cons (pv 2) pa_nil))))))), ?_⟩
    refine ⟨.ref a, rfl, 63, rfl, a, _, rfl, hS, fun c nc => ?_⟩
    have sm : Same H (upd H c (.lst (cutV (ns.map V.int) none (some 63)))) := fun b o e => by
      rw [upd_ne (ne_of_none e nc)]; exact e
    have hcut : ∀ x ∈ cutV (ns.map V.int) none (some 63), ∃ z : Int, x = .int z := fun x hx => by
      have : x ∈ ns.map V.int := List.mem_of_mem_drop (List.mem_of_mem_take hx)
      obtain ⟨z, _, rfl⟩ := List.mem_map.mp this
      exact ⟨z, rfl⟩
    refine ⟨c, rfl, ⟨_, SqL.of upd_same⟩, for_list (xs := cutV (ns.map V.int) none (some 63)) (fun _ σ H3 => H3 = upd H c (.lst (cutV (ns.map V.int) none (some 63))) ∧ ∃ (S T : Int) (y : Option V), 0 ≤ S ∧ σ = [some (.ref a), some (.int S), some (.int T), y]) ⟨rfl, 0, 1, none, by decide, rfl⟩ (fun i σ H3 _ h => by rw [h.1]; exact SqL.of upd_same) (fun i x σ H3 hx h => ?_) (fun σ H3 h => ?_)⟩
    · obtain ⟨rfl, S, T, y, h0, rfl⟩ := h
      obtain ⟨z, rfl⟩ := hcut x (List.mem_of_getElem? hx)
      refine ⟨_, rfl, S, 1000003, rfl, rfl, .inr ⟨by decide, by decide⟩, .int z, rfl, z, rfl, _, _, rfl, rfl, ?_⟩
      refine ⟨_, rfl, T, 48271, rfl, rfl, .inr ⟨by decide, by decide⟩, .int z, rfl, _, z, rfl, rfl, .inl ⟨_, rfl, _, 2147483647, rfl, rfl, (show (0 : Int) < 2147483647 from by decide), ?_⟩⟩
      refine ⟨rfl, _, _, some (.int z), ?_, rfl⟩
      have : 0 ≤ S * 1000003 := Int.mul_nonneg h0 (by decide)
      split <;> omega
    · obtain ⟨rfl, S, T, y, h0, rfl⟩ := h
      refine ⟨_, rfl, _, rfl, (show 2 ≤ sizeLine from by decide), fun p np => ?_⟩
      have npH : H p = none := by
        cases e : H p with
        | none => rfl
        | some o => rw [sm p o e] at np; cases np
      exact q p _ S T npH h0 (fun b o e => by rw [upd_ne (ne_of_none e npH)]; exact sm b o e) upd_same
end
end K35
set_option Elab.async false
set_option linter.all false
set_option maxRecDepth 100000
set_option maxHeartbeats 4000000
namespace K35
open PySem PySem.Spec PyProof.Rows L2
/-! ### heaps -/
/-- all stays but what stands at a, where the law's state stands -/
structure Kp (a : Addr) (H H' : Hp) : Prop where
  keep : ∀ b o, b ≠ a → H b = some o → H' b = some o
  st : LawSt H' a
theorem Kp.refl {a : Addr} {H : Hp} (h : LawSt H a) : Kp a H H := ⟨fun _ _ _ e => e, h⟩
theorem Kp.trans {a : Addr} {H H1 H2 : Hp} (x : Kp a H H1) (y : Kp a H1 H2) : Kp a H H2 := ⟨fun b o hb e => y.keep b o hb (x.keep b o hb e), y.st⟩
theorem Kp.upd_st {a : Addr} {H H1 : Hp} {S T : Int} (x : Kp a H H1) (h : 0 ≤ S) : Kp a H (upd H1 a (.lst [.int S, .int T])) :=
  ⟨fun b o hb e => by rw [upd_ne hb]; exact x.keep b o hb e, ⟨S, T, h, upd_same⟩⟩
/-- a thing that is new since H is laid or changed -/
theorem Kp.upd_new {a p : Addr} {H H1 : Hp} {o : HO} (x : Kp a H H1) (hn : H p = none) (hp : p ≠ a) : Kp a H (upd H1 p o) :=
  ⟨fun b u hb e => by rw [upd_ne (ne_of_none e hn)]; exact x.keep b u hb e, by
    obtain ⟨S, T, h, e⟩ := x.st
    exact ⟨S, T, h, by rw [upd_ne (Ne.symm hp)]; exact e⟩⟩
theorem Kp.free {a p : Addr} {H H1 : Hp} (x : Kp a H H1) (hp : p ≠ a) (hn : H1 p = none) : H p = none := by
  cases q : H p with
  | none => rfl
  | some o => rw [x.keep p o hp q] at hn; cases hn
theorem LawSt.ne {a p : Addr} {H : Hp} (h : LawSt H a) (hp : H p = none) : p ≠ a := by
  obtain ⟨_, _, _, e⟩ := h
  exact (ne_of_none e hp).symm
theorem Kp.ne {a p : Addr} {H H1 : Hp} (x : Kp a H H1) (hp : H1 p = none) : p ≠ a := x.st.ne hp
/-- all stays -/
theorem sNew {H H1 : Hp} {p : Addr} {o : HO} (x : Same H H1) (hn : H p = none) : Same H (upd H1 p o) := fun b u e => by
  rw [upd_ne (ne_of_none e hn)]; exact x b u e
theorem sKp {a : Addr} {H H1 : Hp} (x : Same H H1) (h : LawSt H a) : Kp a H H1 := ⟨fun b o _ e => x b o e, by
  obtain ⟨S, T, h, e⟩ := h
  exact ⟨S, T, h, x _ _ e⟩⟩
theorem ixN_nat {n j : Nat} (h : j < n) : ixN n (j : Int) = some j := by
  unfold ixN
  rw [if_pos (by omega), if_pos (by omega)]
  simp
theorem seqIx_nat {n j : Nat} (h : j < n) : seqIndex? (j : Int) n = some j := (ixN_seq (ixN_nat h)).1
theorem nv_len (l : List Nat) : (l.map nv).length = l.length := List.length_map _
theorem nv_at {l : List Nat} {i v : Nat} (h : l[i]? = some v) : (l.map nv)[i]? = some (nv v) := by rw [List.getElem?_map, h]; rfl

section
variable {P : Program} {w : World} {K : PySem.W.Frag} {mg : Str → Option Value} {base : Heap}
/-! ### an order -/
theorem ord_of_perm {n : Nat} {o : List Nat} (h : o.Perm (List.range n)) : Ord n o where
  len := by rw [h.length_eq, List.length_range]
  lt := fun v hv => List.mem_range.mp (h.mem_iff.mp hv)
  onto := fun v hv => h.mem_iff.mpr (List.mem_range.mpr hv)
  inj := fun i j hi hj e => by
    have nd : o.Nodup := h.nodup_iff.mpr List.nodup_range
    have hl : o.length = n := by rw [h.length_eq, List.length_range]
    have g : ∀ {z : Nat} (hz : z < o.length), o.getD z 0 = o[z] := fun {z} hz => by
      rw [List.getD_eq_getElem?_getD, List.getElem?_eq_getElem hz]; rfl
    rw [g (by omega), g (by omega)] at e
    exact (List.getElem_inj nd).mp e
theorem erase_map {α β : Type} (g : α → β) : ∀ (l : List α) (i : Nat), (l.map g).eraseIdx i = (l.eraseIdx i).map g
  | [], _ => rfl
  | _ :: _, 0 => rfl
  | x :: r, i + 1 => by
    show g x :: (r.map g).eraseIdx i = g x :: (r.eraseIdx i).map g
    rw [erase_map g r i]
theorem erase_perm {α : Type} : ∀ {l : List α} {i : Nat} {x : α}, l[i]? = some x → (x :: l.eraseIdx i).Perm l
  | [], _, _, h => by simp at h
  | y :: r, 0, x, h => by
    have e : y = x := Option.some.inj h
    subst e
    exact List.Perm.refl _
  | y :: r, i + 1, x, h => (List.Perm.swap y x _).trans (List.Perm.cons y (erase_perm (l := r) h))
theorem perm_step {fd lf rg : List Nat} {r x : Nat} (h : (fd ++ lf).Perm rg) (e : lf[r]? = some x) : ((fd ++ [x]) ++ lf.eraseIdx r).Perm rg := by
  refine List.Perm.trans ?_ h
  rw [List.append_assoc]
  exact List.Perm.append_left fd (erase_perm e)
def spOrder : Sp := fun vs H Q _ => ∃ (a : Addr) (n : Nat), vs = [.ref a, nv n] ∧ n ≤ 1000 ∧ LawSt H a ∧ ∀ (o : List Nat) (p : Addr) (H' : Hp), Ord n o → H p = none → Kp a H H' → H' p = some (.lst (o.map nv)) → Q (.ref p) H'
theorem ok_order {f fT : Addr} {fd fdT : FuncData} {k : Nat} (F : Fun K "_law_order_of" "_law_order_of" sOrder f fd) (GT : FnOk P w K mg base CX0 k fT fdT ["_law_state_here", "_law_m"] spTake) (bT : Binds K fdT ["_law_state_here", "_law_m"] []) (kT : PySem.W.keepIn K (.ref fT) = true) (gT : mg "_law_take" = some (.ref fT))
    (mr : mg "range" = none) (ml : mg "len" = none) (mli : mg "list" = none) : FnOk P w K mg base CX0 (k + 1) f fd ["_law_state_here", "_law_n"] spOrder := by
  refine F.ok scOrder (fun vs H Q E h => ?_) (fun cdv A outer s H vs Q E hr h => ?_)
  · obtain ⟨a, m, rfl, _⟩ := h
    rfl
  · obtain ⟨a, n, rfl, hn, hst, q⟩ := h
    refine ⟨_, pss_cons (ps_set (i := 2) scOrder.nd rfl (.inl rfl) (pe_listRg rfl (by rfl) mli (prg_1 (by rfl) mr (pv 1))))
      (pss_cons (ps_set (i := 3) scOrder.nd rfl (.inl rfl) (pe_lst pa_nil))
      (pss_cons (ps_for PassesOwn.never rfl (pi_range1 (by rfl) mr (pa_cons (pv 1) pa_nil)) (pg_name (i := 4) scOrder.nd rfl (.inl rfl))
        (pss_one (ps_expr (pe_bm PySem.F.plainAttrs_list PySem.F.slot_list_append PySem.F.type_list_append mt_append (pv 3) (pa_cons
          (pe_bm PySem.F.plainAttrs_list PySem.F.slot_list_pop PySem.F.type_list_pop mt_popAt (pv 2) (pa_cons
            (pe_call GT hr (by rfl) gT kT bT .nil pass0 (pa_cons (pv 0) (pa_cons (pe_callB call_len_seq (by rfl) ml PySem.boot_len (pa_cons (pv 2) pa_nil)) pa_nil))) pa_nil)) pa_nil)))))
      (pss_one (ps_ret (pv 3))))), ?_⟩
    refine ⟨nv n, rfl, (n : Int), rfl, RgOk.of_le (by omega) (by omega) (by omega) (by omega), fun L nL => ?_⟩
    refine ⟨Nat.zero_le _, fun F nF => ?_⟩
    have hL : rgV 0 (n : Int) = (List.range n).map nv := by
      unfold rgV
      have e : ((n : Int) - 0).toNat = n := by omega
      rw [e]
      apply List.map_congr_left
      intro i _
      show V.int (0 + (i : Int)) = V.int (i : Int)
      rw [Int.zero_add]
    rw [hL] at nF
    have nFL : F ≠ L := (ne_of_none upd_same nF).symm
    have nF0 : H F = none := by rw [upd_ne nFL] at nF; exact nF
    have La : L ≠ a := hst.ne nL
    have Fa : F ≠ a := hst.ne nF0
    refine ⟨nv n, rfl, (n : Int), rfl, by omega, by omega, for_range (lo := 0) (n := (n : Int).toNat) (fun i σ H3 => Kp a H H3 ∧ ∃ (lf fo : List Nat) (y : Option V), σ = [some (.ref a), some (nv n), some (.ref L), some (.ref F), y] ∧
        H3 L = some (.lst (lf.map nv)) ∧ H3 F = some (.lst (fo.map nv)) ∧ (fo ++ lf).Perm (List.range n) ∧ fo.length = i) ?_ (fun i σ H3 hi h => ?_) (fun σ H3 h => ?_)⟩
    · refine ⟨((Kp.refl hst).upd_new nL La).upd_new nF0 Fa, List.range n, [], none, rfl, ?_, upd_same, List.Perm.refl _, rfl⟩
      rw [upd_ne nFL.symm, hL, upd_same]
    · obtain ⟨kp, lf, fo, y, rfl, eL, eF, pm, el⟩ := h
      have hlen : fo.length + lf.length = n := by
        have := pm.length_eq
        rw [List.length_append, List.length_range] at this
        exact this
      have hi' : i < n := by omega
      refine ⟨.ref F, rfl, .inl ⟨rfl, _, SqL.of eF⟩, .ref L, rfl, .inl ⟨rfl, _, SqL.of eL⟩, .ref a, rfl, .ref L, rfl, L, _, rfl, .inl (SqL.of eL), a, (lf.map nv).length, rfl, ?_, ?_, kp.st, fun r S T hr2 hS => ?_⟩
      · rw [nv_len]; omega
      · rw [nv_len]; omega
      · rw [nv_len] at hr2
        obtain ⟨x, ex⟩ : ∃ x, lf[r]? = some x := ⟨lf[r], List.getElem?_eq_getElem hr2⟩
        have eL' : (upd H3 a (.lst [.int S, .int T])) L = some (.lst (lf.map nv)) := by rw [upd_ne La]; exact eL
        refine ⟨L, _, (r : Int), r, nv x, rfl, rfl, eL', by omega, by omega, seqIx_nat (by rw [nv_len]; exact hr2), nv_at ex, ?_⟩
        refine ⟨F, fo.map nv, nv x, rfl, rfl, by rw [upd_ne nFL, upd_ne Fa]; exact eF, ?_, ?_⟩
        · rw [nv_len]; exact small1000 (by omega)
        · refine ⟨((kp.upd_st hS).upd_new nL La).upd_new nF0 Fa, lf.eraseIdx r, fo ++ [x], _, rfl, ?_, ?_, perm_step pm ex, ?_⟩
          · rw [upd_ne nFL.symm, upd_same, erase_map]
          · rw [upd_same, List.map_append]; rfl
          · rw [List.length_append, el]; rfl
    · obtain ⟨kp, lf, fo, y, rfl, eL, eF, pm, el⟩ := h
      have hlen : fo.length + lf.length = n := by
        have := pm.length_eq
        rw [List.length_append, List.length_range] at this
        exact this
      have hz : lf = [] := List.length_eq_zero_iff.mp (by omega)
      subst hz
      rw [List.append_nil] at pm
      exact ⟨.ref F, rfl, q fo F H3 (ord_of_perm pm) nF0 kp eF⟩
end
end K35
set_option Elab.async false
set_option linter.all false
set_option maxRecDepth 100000
set_option maxHeartbeats 4000000
namespace K35
open PySem PySem.Spec PyProof.Rows L2
/-! ### tables in heaps -/
/-- tuples of numbers at qs -/
structure Rows (H : Hp) (qs : List Addr) (T : List (List Nat)) : Prop where
  len : qs.length = T.length
  at_ : ∀ (i : Nat) (q : Addr) (r : List Nat), qs[i]? = some q → T[i]? = some r → H q = some (.tup (r.map nv))
theorem Rows.nil {H : Hp} : Rows H [] [] := ⟨rfl, fun i q r h => by simp at h⟩
/-- tuples stay -/
def KT (H H' : Hp) : Prop := ∀ b xs, H b = some (.tup xs) → H' b = some (.tup xs)
theorem KT.trans {H H1 H2 : Hp} (x : KT H H1) (y : KT H1 H2) : KT H H2 := fun b xs e => y b xs (x b xs e)
theorem KT.refl {H : Hp} : KT H H := fun _ _ e => e
theorem KT.new {H : Hp} {p : Addr} {o : HO} (h : H p = none) : KT H (upd H p o) := fun b xs e => by rw [upd_ne (ne_of_none e h)]; exact e
theorem KT.lst {H : Hp} {p : Addr} {o : HO} {ys : List V} (h : H p = some (.lst ys)) : KT H (upd H p o) := fun b xs e => by
  rw [upd_ne (ne_of e h (fun z => by cases z))]; exact e
theorem sKt {H H' : Hp} (x : Same H H') : KT H H' := fun b xs e => x b _ e
theorem Kp.kt {a : Addr} {H H' : Hp} (h : LawSt H a) (x : Kp a H H') : KT H H' := fun b xs e => by
  obtain ⟨_, _, _, ea⟩ := h
  exact x.keep b _ (ne_of e ea (fun z => by cases z)) e
theorem Rows.mono {H H' : Hp} {qs : List Addr} {T : List (List Nat)} (h : Rows H qs T) (k : KT H H') : Rows H' qs T := ⟨h.len, fun i q r e1 e2 => k _ _ (h.at_ i q r e1 e2)⟩
theorem Rows.snoc {H : Hp} {qs : List Addr} {T : List (List Nat)} {q : Addr} {r : List Nat} (h : Rows H qs T) (e : H q = some (.tup (r.map nv))) : Rows H (qs ++ [q]) (T ++ [r]) := by
  refine ⟨by rw [List.length_append, List.length_append, h.len]; rfl, fun i q' r' e1 e2 => ?_⟩
  have hl := h.len
  by_cases hi : i < qs.length
  · rw [List.getElem?_append_left hi] at e1
    rw [List.getElem?_append_left (by omega)] at e2
    exact h.at_ i q' r' e1 e2
  · have hi2 : i = qs.length := by
      have h1 := (List.getElem?_eq_some_iff.mp e1).1
      rw [List.length_append, List.length_singleton] at h1
      omega
    subst hi2
    rw [List.getElem?_append_right (Nat.le_refl _), Nat.sub_self] at e1
    rw [List.getElem?_append_right (by omega), hl, Nat.sub_self] at e2
    cases Option.some.inj e1
    cases Option.some.inj e2
    exact e
theorem Rows.get {H : Hp} {qs : List Addr} {T : List (List Nat)} (h : Rows H qs T) {i : Nat} {r : List Nat} (e : T[i]? = some r) : ∃ q, qs[i]? = some q ∧ H q = some (.tup (r.map nv)) := by
  have hi := (List.getElem?_eq_some_iff.mp e).1
  have hi2 : i < qs.length := by rw [h.len]; exact hi
  exact ⟨qs[i], List.getElem?_eq_getElem hi2, h.at_ i _ r (List.getElem?_eq_getElem hi2) e⟩
/-- a list of such tuples -/
def TabL (H : Hp) (p : Addr) (T : List (List Nat)) : Prop := ∃ qs : List Addr, H p = some (.lst (qs.map V.ref)) ∧ Rows H qs T
theorem TabL.mono {H H' : Hp} {p : Addr} {T : List (List Nat)} (h : TabL H p T) (k : KT H H') (e : ∀ o, H p = some o → H' p = some o) : TabL H' p T := by
  obtain ⟨qs, e1, r⟩ := h
  exact ⟨qs, e _ e1, r.mono k⟩
theorem TabL.same {H H' : Hp} {p : Addr} {T : List (List Nat)} (h : TabL H p T) (k : Same H H') : TabL H' p T := h.mono (sKt k) fun o e => k _ _ e
theorem TabL.ne {H : Hp} {p a : Addr} {T : List (List Nat)} (h : TabL H p T) (st : LawSt H a) : p ≠ a := by
  obtain ⟨qs, e, _⟩ := h
  obtain ⟨S, T', _, ea⟩ := st
  refine ne_of e ea fun z => ?_
  have z' := HO.lst.inj z
  cases qs with
  | nil => cases z'
  | cons q r => cases (List.cons.inj z').1
theorem TabL.kp {H H' : Hp} {p a : Addr} {T : List (List Nat)} (h : TabL H p T) (st : LawSt H a) (k : Kp a H H') : TabL H' p T := h.mono (k.kt st) fun o e => k.keep _ _ (h.ne st) e
theorem TabL.at {H : Hp} {p : Addr} {T : List (List Nat)} (h : TabL H p T) {x y v : Nat} {r : List Nat} (e1 : T[x]? = some r) (e2 : r[y]? = some v) :
    ∃ (qs : List Addr) (q : Addr), H p = some (.lst (qs.map V.ref)) ∧ (qs.map V.ref)[x]? = some (.ref q) ∧ H q = some (.tup (r.map nv)) ∧ (r.map nv)[y]? = some (nv v) := by
  obtain ⟨qs, e, rw_⟩ := h
  obtain ⟨q, h1, h2⟩ := rw_.get e1
  exact ⟨qs, q, e, by rw [List.getElem?_map, h1]; rfl, h2, nv_at e2⟩
/-- lists of numbers at fs -/
structure LRows (H : Hp) (fs : List Addr) (M : List (List Nat)) : Prop where
  len : fs.length = M.length
  nd : fs.Nodup
  at_ : ∀ (i : Nat) (q : Addr) (r : List Nat), fs[i]? = some q → M[i]? = some r → H q = some (.lst (r.map nv))
theorem LRows.snoc {H : Hp} {qs : List Addr} {T : List (List Nat)} {q : Addr} {r : List Nat} (h : LRows H qs T) (hn : q ∉ qs) (e : H q = some (.lst (r.map nv))) : LRows H (qs ++ [q]) (T ++ [r]) := by
  refine ⟨by rw [List.length_append, List.length_append, h.len]; rfl, nodup_snoc h.nd hn, fun i q' r' e1 e2 => ?_⟩
  have hl := h.len
  by_cases hi : i < qs.length
  · rw [List.getElem?_append_left hi] at e1
    rw [List.getElem?_append_left (by omega)] at e2
    exact h.at_ i q' r' e1 e2
  · have hi2 : i = qs.length := by
      have h1 := (List.getElem?_eq_some_iff.mp e1).1
      rw [List.length_append, List.length_singleton] at h1
      omega
    subst hi2
    rw [List.getElem?_append_right (Nat.le_refl _), Nat.sub_self] at e1
    rw [List.getElem?_append_right (by omega), hl, Nat.sub_self] at e2
    cases Option.some.inj e1
    cases Option.some.inj e2
    exact e
theorem LRows.mono {H H' : Hp} {qs : List Addr} {T : List (List Nat)} (h : LRows H qs T) (k : ∀ q ∈ qs, H' q = H q) : LRows H' qs T :=
  ⟨h.len, h.nd, fun i q r e1 e2 => by rw [k q (List.mem_of_getElem? e1)]; exact h.at_ i q r e1 e2⟩
theorem LRows.get {H : Hp} {qs : List Addr} {T : List (List Nat)} (h : LRows H qs T) {i : Nat} {r : List Nat} (e : T[i]? = some r) : ∃ q, qs[i]? = some q ∧ H q = some (.lst (r.map nv)) := by
  have hi := (List.getElem?_eq_some_iff.mp e).1
  have hi2 : i < qs.length := by rw [h.len]; exact hi
  exact ⟨qs[i], List.getElem?_eq_getElem hi2, h.at_ i _ r (List.getElem?_eq_getElem hi2) e⟩
theorem LRows.set {H : Hp} {qs : List Addr} {T : List (List Nat)} (h : LRows H qs T) {i : Nat} {q : Addr} {r : List Nat} (e : qs[i]? = some q) : LRows (upd H q (.lst (r.map nv))) qs (T.set i r) := by
  refine ⟨by rw [List.length_set]; exact h.len, h.nd, fun j q' r' e1 e2 => ?_⟩
  by_cases hj : j = i
  · subst hj
    rw [e] at e1
    cases Option.some.inj e1
    have hlt := (List.getElem?_eq_some_iff.mp e2).1
    rw [List.length_set] at hlt
    rw [List.getElem?_set_self hlt] at e2
    cases Option.some.inj e2
    exact upd_same
  · rw [List.getElem?_set_ne (Ne.symm hj)] at e2
    have hne : q' ≠ q := fun z => hj (nd_ix h.nd e1 (z ▸ e))
    rw [upd_ne hne]
    exact h.at_ j q' r' e1 e2

/-- set in a matrix -/
def setM (M : List (List Nat)) (a b v : Nat) : List (List Nat) := M.set a ((M.getD a []).set b v)
theorem getD_set {α : Type} {l : List α} {i j : Nat} {v d : α} (h : i < l.length) : (l.set i v).getD j d = if j = i then v else l.getD j d := by
  by_cases e : j = i
  · subst e
    rw [if_pos rfl, List.getD_eq_getElem?_getD, List.getElem?_set_self h]; rfl
  · rw [if_neg e, List.getD_eq_getElem?_getD, List.getElem?_set_ne (Ne.symm e), ← List.getD_eq_getElem?_getD]
theorem el_setM {M : List (List Nat)} {a b v x y : Nat} (h1 : a < M.length) (h2 : b < (M.getD a []).length) : el (setM M a b v) x y = if x = a ∧ y = b then v else el M x y := by
  unfold el setM
  rw [getD_set h1]
  by_cases e : x = a
  · subst e
    rw [if_pos rfl, getD_set h2]
    by_cases e2 : y = b
    · rw [if_pos e2, if_pos ⟨rfl, e2⟩]
    · rw [if_neg e2, if_neg (fun z => e2 z.2)]
  · rw [if_neg e, if_neg (fun z => e z.1)]
/-- the shape of a square matrix -/
structure Sq (n : Nat) (M : List (List Nat)) : Prop where
  len : M.length = n
  row : ∀ x, x < n → (M.getD x []).length = n
theorem Sq.set {n : Nat} {M : List (List Nat)} (s : Sq n M) {a b v : Nat} (ha : a < n) : Sq n (setM M a b v) := by
  refine ⟨by unfold setM; rw [List.length_set]; exact s.len, fun x hx => ?_⟩
  unfold setM
  rw [getD_set (by rw [s.len]; exact ha)]
  split
  · rw [List.length_set]; exact s.row a ha
  · exact s.row x hx
theorem Sq.get {n : Nat} {M : List (List Nat)} (s : Sq n M) {a : Nat} (ha : a < n) : M[a]? = some (M.getD a []) := by
  have h : a < M.length := by rw [s.len]; exact ha
  rw [List.getD_eq_getElem?_getD, List.getElem?_eq_getElem h]; rfl

/-! ### rules with the written part named -/
def rTupOf (K : PySem.W.Frag) : List V → Hp → VK → Prop := fun xs H Q => ∃ p ys, xs = [.ref p] ∧ ((SqL K H p ys ∧ ∀ l, H l = none → Q (.ref l) (upd H l (.tup ys))) ∨ (SqT K H p ys ∧ Q (.ref p) H))
def rLenOf (K : PySem.W.Frag) : List V → Hp → VK → Prop := fun xs H Q => ∃ p ys, xs = [.ref p] ∧ (SqL K H p ys ∨ SqT K H p ys) ∧ Q (.int ys.length) H
section
variable {X : Cx} (K : PySem.W.Frag)
theorem ixL (h : X.K = K := by rfl) : IxR X (rIxL K) := by subst h; exact ix_list
theorem ixT (h : X.K = K := by rfl) : IxR X (rIxT K) := by subst h; exact ix_tup
theorem cTup (h : X.K = K := by rfl) : CallR X (.type "tuple") (rTupOf K) := by subst h; exact call_tuple_of
theorem cLen (h : X.K = K := by rfl) : CallR X (.builtin "len") (rLenOf K) := by subst h; exact call_len_seq
theorem piL {tg l : Expr} {tl : TE} (hl : PE X l tl) (h : X.K = K := by rfl) : PI X tg l (iList K tl) := by subst h; exact pi_list hl
theorem piT {tg l : Expr} {tl : TE} (hl : PE X l tl) (h : X.K = K := by rfl) : PI X tg l (iTup K tl) := by subst h; exact pi_tup hl
end

def lcS : Expr → Scope
  | .ListComp _ _ sc _ => sc
  | _ => { kind := .function, names := [], isGenerator := false, isCoroutine := false }
def stE : Stmt → Expr
  | .Assign _ e _ => e
  | .Return (some e) _ => e
  | .Expr e _ => e
  | _ => .Constant .none 0 ⟨0, 0, 0, 0⟩
abbrev nRen : List Str := ["_law_table", "_law_order", "_law_n", "_law_x", "_law_y", "_law_found", "_law_row"]
section
variable {P : Program} {w : World} {K : PySem.W.Frag} {mg : Str → Option Value} {base : Heap}
def spRen : Sp := fun vs H Q _ => ∃ (t ao : Addr) (n : Nat) (T : List (List Nat)) (o : List Nat), vs = [.ref t, .ref ao] ∧ n ≤ 1000 ∧ Sg n T ∧ TabL H t T ∧ Ord n o ∧ H ao = some (.lst (o.map nv)) ∧
  ∀ (p : Addr) (H' : Hp) (R : List (List Nat)), H p = none → Same H H' → TabL H' p R → Ren n T R o → Q (.ref p) H'
theorem ok_ren {f : Addr} {fd : FuncData} {k : Nat} (F : Fun K "_law_renamed" "_law_renamed" sRen f fd) (mr : mg "range" = none) (ml : mg "len" = none) (mt : mg "tuple" = none) : FnOk P w K mg base CX0 (k + 1) f fd ["_law_table", "_law_order"] spRen := by
  refine F.ok scRen (fun vs H Q E h => ?_) (fun cdv A outer s H vs Q E hr h => ?_)
  · obtain ⟨t, ao, n, T, o, rfl, _⟩ := h
    rfl
  · obtain ⟨t, ao, n, T, o, rfl, hn, sg, tb, od, eo, q⟩ := h
    refine ⟨_, pss_cons (ps_set (i := 2) scRen.nd rfl (.inr rfl) (pe_callB call_len_seq (by rfl) ml PySem.boot_len (pa_cons (pv 0) pa_nil)))
      (pss_cons (ps_setLc (i := 5) (own := [("_law_x", 3)]) (g := gName 3) (tt := tYes) rfl scRen.nd rfl rfl (sw_true rfl rfl rfl (by decide +kernel)) (pi_range1 (by rfl) mr (pa_cons (pv 2) pa_nil)) (blkOk_by (N := nRen) (sc := defScope sRen) (by decide +kernel))
          (fun _ _ _ _ _ => pg_name (i := 3) scRen.nd rfl (Or.inl rfl)) (fun _ _ _ _ _ => pts_nil)
          (fun _ _ _ _ _ => pe_lc (own := [("_law_y", 4)]) (g := gName 4) (tt := tYes) rfl scRen.nd (pi_range1 (by rfl) mr (pa_cons (pv 2) pa_nil)) (blkOk_by (N := nRen) (sc := relS (lcS (stE ((defBody sRen).getD 1 (.Pass ⟨0, 0, 0, 0⟩)))) (defScope sRen)) (by decide +kernel))
            (fun _ _ _ _ _ => pg_name (i := 4) scRen.nd rfl (Or.inl rfl)) (fun _ _ _ _ _ => pts_nil) (fun _ _ _ _ _ => pe_int)))
      (pss_cons (ps_for PassesOwn.never rfl (pi_range1 (by rfl) mr (pa_cons (pv 2) pa_nil)) (pg_name (i := 3) scRen.nd rfl (.inl rfl))
        (pss_one (ps_for PassesOwn.never rfl (pi_range1 (by rfl) mr (pa_cons (pv 2) pa_nil)) (pg_name (i := 4) scRen.nd rfl (.inl rfl))
          (pss_one (ps_asg (pe_ix ix_list (pv 1) (pe_ix ix_tup (pe_ix ix_list (pv 0) (pv 3) (fun _ _ => rfl)) (pv 4) (fun _ _ => rfl)) (fun _ _ => rfl))
            (pg_sub (pe_ix ix_list (pv 5) (pe_ix ix_list (pv 1) (pv 3) (fun _ _ => rfl)) (fun _ _ => rfl)) (pe_ix ix_list (pv 1) (pv 4) (fun _ _ => rfl)) set_list))))))
      (pss_one (ps_ret (pe_lc (own := [("_law_row", 6)]) (g := gName 6) (tt := tYes) rfl scRen.nd (pi_list (pv 5)) (blkOk_by (N := nRen) (sc := defScope sRen) (by decide +kernel)) (fun _ _ _ _ _ => pg_name (i := 6) scRen.nd rfl (Or.inl rfl)) (fun _ _ _ _ _ => pts_nil)
          (fun _ _ _ _ _ => pe_callTy (cTup K) (by rfl) mt PyProof.Rows.boot_tuple (pa_cons (pv 6) pa_nil))))))), ?_⟩
    obtain ⟨qs, et, rws⟩ := id tb
    have hq : qs.length = n := by rw [rws.len, sg.len]
    -- n = len(table)
    refine ⟨.ref t, rfl, t, _, rfl, .inl (SqL.of et), ?_⟩
    rw [List.length_map, hq]
    -- found = [[0 ..] ..]
    refine ⟨nv n, rfl, (n : Int), rfl, by omega, by omega, fun D nD => ?_⟩
    refine lc_range (lo := 0) (n := (n : Int).toNat) (fun i H3 => Same H H3 ∧ ∃ fs : List Addr, H3 D = some (.lst (fs.map V.ref)) ∧ fs.length = i ∧ LRows H3 fs (List.replicate i (List.replicate n 0)) ∧ ∀ q ∈ fs, H q = none ∧ q ≠ D) ?_ (fun i H3 hi h => ?_) (fun H3 h => ?_)
    · exact ⟨sNew (Same.refl H) nD, [], upd_same, rfl, ⟨rfl, by simp, fun i q r e => by simp at e⟩, fun q hq => by cases hq⟩
    · obtain ⟨sm, fs, eD, el, lr, hf⟩ := h
      refine ⟨rfl, ?_⟩
      refine ⟨nv n, rfl, (n : Int), rfl, by omega, by omega, fun D2 nD2 => ?_⟩
      have nD2H : H D2 = none := by
        cases z : H D2 with
        | none => rfl
        | some o => rw [sm _ _ z] at nD2; cases nD2
      have D2D : D2 ≠ D := (ne_of_none eD nD2).symm
      refine lc_range (lo := 0) (n := (n : Int).toNat) (fun j H4 => Same H H4 ∧ (∀ b, b ≠ D2 → H4 b = H3 b) ∧ H4 D2 = some (.lst ((List.replicate j 0).map nv))) ?_ (fun j H4 hj h => ?_) (fun H4 h => ?_)
      · exact ⟨sNew sm nD2H, fun b hb => upd_ne hb, upd_same⟩
      · obtain ⟨sm4, k4, e4⟩ := h
        refine ⟨rfl, ?_⟩
        refine ⟨_, e4, ?_, sNew sm4 nD2H, fun b hb => (upd_ne hb).trans (k4 b hb), ?_⟩
        · rw [List.length_map, List.length_replicate]; exact small1000 (by omega)
        · rw [upd_same, List.replicate_succ', List.map_append]; rfl
      · obtain ⟨sm4, k4, e4⟩ := h
        have en : (n : Int).toNat = n := by omega
        rw [en] at e4
        refine ⟨fs.map V.ref, by rw [k4 D D2D.symm]; exact eD, ?_, ?_⟩
        · rw [List.length_map]; exact small1000 (by omega)
        · have hfD2 : ∀ q ∈ fs, q ≠ D2 := fun q hq z => by
            obtain ⟨j, hj, ej⟩ := List.mem_iff_getElem.mp hq
            have hj' : j < (List.replicate i (List.replicate n 0)).length := by rw [← lr.len]; exact hj
            have := lr.at_ j q _ (by rw [List.getElem?_eq_getElem hj, ej]) (List.getElem?_eq_getElem hj')
            rw [z, nD2] at this
            cases this
          have lr4 : LRows H4 fs (List.replicate i (List.replicate n 0)) := lr.mono fun q hq => k4 q (hfD2 q hq)
          have lr5 := lr4.snoc (q := D2) (r := List.replicate n 0) (fun hq => hfD2 D2 hq rfl) e4
          refine ⟨sNew sm4 nD, fs ++ [D2], by rw [upd_same, List.map_append]; rfl, by rw [List.length_append, el]; rfl, ?_, fun q hq => ?_⟩
          · rw [List.replicate_succ']
            refine lr5.mono fun q hq => upd_ne ?_
            rcases List.mem_append.mp hq with z | z
            · exact (hf q z).2
            · rw [List.mem_singleton.mp z]; exact D2D
          · rcases List.mem_append.mp hq with z | z
            · exact hf q z
            · rw [List.mem_singleton.mp z]; exact ⟨nD2H, D2D⟩
    · -- for x
      obtain ⟨sm, fs, eD, el, lr, hf⟩ := h
      have en : (n : Int).toNat = n := by omega
      rw [en] at el lr
      refine ⟨nv n, rfl, (n : Int), rfl, by omega, by omega, ?_⟩
      let Pv : Nat → Nat → L2.St → Hp → Prop := fun i j σ H4 => Same H H4 ∧ ∃ (M : List (List Nat)) (y3 y4 : Option V), σ = [some (.ref t), some (.ref ao), some (nv n), y3, y4, some (.ref D), none] ∧ H4 D = some (.lst (fs.map V.ref)) ∧ LRows H4 fs M ∧ Sq n M ∧
        ∀ x y, x < n → y < n → (x < i ∨ (x = i ∧ y < j)) → K35.el M (o.getD x 0) (o.getD y 0) = o.getD (K35.el T x y) 0
      refine for_range (lo := 0) (n := (n : Int).toNat) (fun i σ H4 => Pv i 0 σ H4) ?_ (fun i σ H4 hi h => ?_) (fun σ H4 h => ?_)
      · refine ⟨sm, _, none, none, rfl, eD, lr, ⟨List.length_replicate, fun x hx => ?_⟩, fun x y _ _ hxy => by omega⟩
        rw [List.getD_eq_getElem?_getD, List.getElem?_replicate, if_pos hx]
        exact List.length_replicate
      · obtain ⟨sm4, M, y3, y4, rfl, eD4, lr4, sq, hM⟩ := h
        have hi' : i < n := by omega
        refine ⟨nv n, rfl, (n : Int), rfl, by omega, by omega, ?_⟩
        refine for_range (lo := 0) (n := (n : Int).toNat) (fun j σ H5 => Pv i j σ H5 ∧ ∃ z, σ[3]? = some z ∧ z = some (.int (0 + (i : Int)))) ?_ (fun j σ H5 hj h => ?_) (fun σ H5 h => ?_)
        · exact ⟨⟨sm4, M, _, y4, rfl, eD4, lr4, sq, hM⟩, _, rfl, rfl⟩
        · obtain ⟨⟨sm5, M5, z3, z4, rfl, eD5, lr5, sq5, hM5⟩, z, ez, rfl⟩ := h
          have hj' : j < n := by omega
          have e3 : z3 = some (.int (0 + (i : Int))) := Option.some.inj ez
          subst e3
          obtain ⟨rr, er1, er2⟩ := sg.at hi' hj'
          obtain ⟨qs5, qq, a1, a2, a3, a4⟩ := (tb.same sm5).at er1 er2
          have eo5 : H5 ao = some (.lst (o.map nv)) := sm5 _ _ eo
          obtain ⟨oi1, oi2⟩ := od.at hi'
          obtain ⟨oj1, oj2⟩ := od.at hj'
          have hel := sg.lt i j hi' hj'
          obtain ⟨oe1, oe2⟩ := od.at hel
          have i0 : ((0 : Int) + (i : Int)) = (i : Int) := Int.zero_add _
          have j0 : ((0 : Int) + (j : Int)) = (j : Int) := Int.zero_add _
          obtain ⟨rq, ef1, ef2⟩ := lr5.get (sq5.get oi2)
          refine ⟨.ref ao, rfl, .ref t, rfl, .int (0 + (i : Int)), rfl, t, _, _, .ref qq, rfl, rfl, SqL.of a1, at_of i0 a2, .int (0 + (j : Int)), rfl, qq, _, _, nv (K35.el T i j), rfl, rfl, SqT.of a3, at_of j0 a4, ao, _, _, nv (o.getD (K35.el T i j) 0), rfl, rfl, SqL.of eo5, atI_nat (nv_at oe1), ?_⟩
          refine ⟨.ref D, rfl, .ref ao, rfl, .int (0 + (i : Int)), rfl, ao, _, _, nv (o.getD i 0), rfl, rfl, SqL.of eo5, at_of i0 (nv_at oi1), D, _, _, .ref rq, rfl, rfl, SqL.of eD5, atI_nat (by rw [List.getElem?_map, ef1]; rfl), ?_⟩
          refine ⟨.ref ao, rfl, .int (0 + (j : Int)), rfl, ao, _, _, nv (o.getD j 0), rfl, rfl, SqL.of eo5, at_of j0 (nv_at oj1), ?_⟩
          refine ⟨rq, _, _, o.getD j 0, rfl, rfl, ef2, ixN_nat (by rw [nv_len, sq5.row _ oi2]; exact oj2), ?_⟩
          have hrq := hf rq (List.mem_of_getElem? ef1)
          refine ⟨⟨sNew sm5 hrq.1, setM M5 (o.getD i 0) (o.getD j 0) (o.getD (K35.el T i j) 0), _, _, rfl, ?_, ?_, sq5.set oi2, fun x y hx hy hxy => ?_⟩, _, rfl, rfl⟩
          · rw [upd_ne hrq.2.symm]; exact eD5
          · have l := lr5.set (r := (M5.getD (o.getD i 0) []).set (o.getD j 0) (o.getD (K35.el T i j) 0)) ef1
            rw [List.map_set] at l
            exact l
          · rw [el_setM (by rw [sq5.len]; exact oi2) (by rw [sq5.row _ oi2]; exact oj2)]
            by_cases hh : x = i ∧ y = j
            · obtain ⟨rfl, rfl⟩ := hh
              rw [if_pos ⟨rfl, rfl⟩]
            · rw [if_neg (fun z => hh ⟨od.inj x i hx hi' z.1, od.inj y j hy hj' z.2⟩)]
              exact hM5 x y hx hy (by omega)
        · obtain ⟨⟨sm5, M5, z3, z4, rfl, eD5, lr5, sq5, hM5⟩, z, ez, rfl⟩ := h
          exact ⟨sm5, M5, _, _, rfl, eD5, lr5, sq5, fun x y hx hy hxy => hM5 x y hx hy (by omega)⟩
      · -- return
        obtain ⟨sm4, M, y3, y4, rfl, eD4, lr4, sq, hM⟩ := h
        refine ⟨.ref D, rfl, D, rfl, ⟨_, SqL.of eD4⟩, fun D3 nD3 => ?_⟩
        have nD3H : H D3 = none := by
          cases z : H D3 with
          | none => rfl
          | some o => rw [sm4 _ _ z] at nD3; cases nD3
        have D3D : D3 ≠ D := (ne_of_none eD4 nD3).symm
        refine lc_list (xs := fs.map V.ref) (fun i H5 => Same H H5 ∧ (∀ b o, H4 b = some o → H5 b = some o) ∧ ∃ ps : List Addr, H5 D3 = some (.lst (ps.map V.ref)) ∧ ps.length = i ∧ Rows H5 ps (M.take i)) ?_ (fun i H5 _ h => ?_) (fun i x H5 hx h => ?_) (fun H5 h => ?_)
        · exact ⟨sNew sm4 nD3H, sNew (Same.refl H4) nD3, [], upd_same, rfl, Rows.nil⟩
        · exact SqL.of (h.2.1 _ _ eD4)
        · obtain ⟨sm5, k5, ps, e5, l5, r5⟩ := h
          rw [List.getElem?_map] at hx
          cases ei : fs[i]? with
          | none => rw [ei] at hx; cases hx
          | some rq =>
            rw [ei] at hx
            cases Option.some.inj hx
            have hi : i < n := by
              have := (List.getElem?_eq_some_iff.mp ei).1
              omega
            have er := lr4.at_ i rq _ ei (sq.get hi)
            refine ⟨rfl, ?_⟩
            refine ⟨.ref rq, rfl, rq, _, rfl, .inl ⟨SqL.of (k5 _ _ er), fun pt npt => ?_⟩⟩
            have nptH : H pt = none := by
              cases z : H pt with
              | none => rfl
              | some o => rw [sm5 _ _ z] at npt; cases npt
            have npt4 : H4 pt = none := by
              cases z : H4 pt with
              | none => rfl
              | some o => rw [k5 _ _ z] at npt; cases npt
            have ptD3 : pt ≠ D3 := (ne_of_none e5 npt).symm
            have e5' : (upd H5 pt (.tup ((M.getD i []).map nv))) D3 = some (.lst (ps.map V.ref)) := by rw [upd_ne ptD3.symm]; exact e5
            refine ⟨_, e5', by rw [List.length_map]; exact small1000 (by omega), sNew (sNew sm5 nptH) nD3H, fun b o e => ?_, ps ++ [pt], by rw [upd_same, List.map_append]; rfl, by rw [List.length_append, l5]; rfl, ?_⟩
            · rw [upd_ne (ne_of_none e nD3), upd_ne (ne_of_none e npt4)]; exact k5 b o e
            · rw [List.take_add_one, sq.get hi]
              refine ((r5.mono (KT.new npt)).snoc (r := M.getD i []) upd_same).mono (KT.lst e5')
        · obtain ⟨sm5, k5, ps, e5, l5, r5⟩ := h
          have hM' : M.take (fs.map V.ref).length = M := List.take_of_length_le (by rw [List.length_map, lr4.len]; exact Nat.le_refl _)
          rw [hM'] at r5
          refine q D3 H5 M nD3H sm5 ⟨ps, e5, r5⟩ ⟨sq.len, fun r hr => ?_, fun x y hx hy => hM x y hx hy (by omega)⟩
          obtain ⟨i, hi, rfl⟩ := List.mem_iff_getElem.mp hr
          have hi' : i < n := by rw [← sq.len]; exact hi
          have := sq.row i hi'
          rw [List.getD_eq_getElem?_getD, List.getElem?_eq_getElem hi] at this
          exact this
end
end K35
set_option Elab.async false
set_option linter.all false
set_option maxRecDepth 100000
set_option maxHeartbeats 4000000
namespace K35
open PySem PySem.Spec PyProof.Rows L2
/-! ### numbers as data -/
abbrev pi_ (x : Nat) : PyData := .int (x : Int)
abbrev pt_ (r : List Nat) : PyData := .tuple (r.map pi_)
theorem eqvAll_ints : ∀ r r' : List Nat, PyData.eqvAll (r.map pi_) (r'.map pi_) = decide (r = r')
  | [], [] => rfl
  | [], _ :: _ => rfl
  | _ :: _, [] => rfl
  | x :: r, y :: r' => by
    show (((x : Int) == (y : Int)) && PyData.eqvAll (r.map pi_) (r'.map pi_)) = _
    rw [eqvAll_ints r r']
    by_cases h : x = y
    · subst h
      simp
    · have h1 : ((x : Int) == (y : Int)) = false := by simp; omega
      rw [h1]
      simp [h]
theorem eqv_pt (r r' : List Nat) : PyData.eqv (pt_ r) (pt_ r') = decide (r = r') := by
  show PyData.eqvAll _ _ = _
  exact eqvAll_ints r r'
theorem eqvAll_pts : ∀ T T' : List (List Nat), PyData.eqvAll (T.map pt_) (T'.map pt_) = decide (T = T')
  | [], [] => rfl
  | [], _ :: _ => rfl
  | _ :: _, [] => rfl
  | r :: T, r' :: T' => by
    show (PyData.eqv (pt_ r) (pt_ r') && PyData.eqvAll (T.map pt_) (T'.map pt_)) = _
    rw [eqv_pt, eqvAll_pts T T']
    simp
theorem lay_ints : ∀ r : List Nat, PyData.canLayAll0 (r.map pi_) = true
  | [] => rfl
  | _ :: r => by
    show (true && PyData.canLayAll0 (r.map pi_)) = true
    rw [lay_ints r]; rfl
theorem lay_pts : ∀ T : List (List Nat), PyData.canLayAll0 (T.map pt_) = true
  | [] => rfl
  | r :: T => by
    show (PyData.canLayAll0 (r.map pi_) && PyData.canLayAll0 (T.map pt_)) = true
    rw [lay_ints r, lay_pts T]; rfl
theorem depth_ints : ∀ r : List Nat, PyData.depthAll (r.map pi_) ≤ 1
  | [] => by simp [PyData.depthAll]
  | _ :: r => by
    have h := depth_ints r
    simp only [List.map_cons, PyData.depthAll, PyData.depth]
    omega
theorem depth_pts : ∀ T : List (List Nat), PyData.depthAll (T.map pt_) ≤ 3
  | [] => by simp [PyData.depthAll]
  | r :: T => by
    have h := depth_pts T
    have h2 := depth_ints r
    simp only [List.map_cons, PyData.depthAll, PyData.depth]
    omega
theorem shaped_pt (r : List Nat) : SeqAt.shaped (pt_ r) = true := by
  unfold SeqAt.shaped
  have h : (pt_ r).canLay0 = true := lay_ints r
  have h2 := depth_ints r
  rw [h]
  have h3 : (pt_ r).depth = PyData.depthAll (r.map pi_) + 1 := by simp only [PyData.depth]
  rw [h3, Bool.true_and]
  exact decide_eq_true (by omega)
theorem shaped_pts (T : List (List Nat)) : SeqAt.shaped (.list (T.map pt_)) = true ∧ SeqAt.shaped (.tuple (T.map pt_)) = true := by
  have h2 := depth_pts T
  constructor
  · unfold SeqAt.shaped
    have h : (PyData.list (T.map pt_)).canLay0 = true := lay_pts T
    have h3 : (PyData.list (T.map pt_)).depth = PyData.depthAll (T.map pt_) + 1 := by simp only [PyData.depth]
    rw [h, h3, Bool.true_and]
    exact decide_eq_true (by omega)
  · unfold SeqAt.shaped
    have h : (PyData.tuple (T.map pt_)).canLay0 = true := lay_pts T
    have h3 : (PyData.tuple (T.map pt_)).depth = PyData.depthAll (T.map pt_) + 1 := by simp only [PyData.depth]
    rw [h, h3, Bool.true_and]
    exact decide_eq_true (by omega)
theorem dp_ints {K : PySem.W.Frag} {H : Hp} : ∀ r : List Nat, DpAll K H (r.map nv) (r.map pi_)
  | [] => .nil
  | x :: r => .cons (.int (x : Int)) (dp_ints r)
theorem dp_pt {K : PySem.W.Frag} {H : Hp} {q : Addr} {r : List Nat} (e : H q = some (.tup (r.map nv))) : Dp K H (.ref q) (pt_ r) := .tup (SqT.of e) (dp_ints r)
theorem dp_rows {K : PySem.W.Frag} {H : Hp} : ∀ {qs : List Addr} {T : List (List Nat)}, Rows H qs T → DpAll K H (qs.map V.ref) (T.map pt_)
  | [], [], _ => .nil
  | [], _ :: _, h => by have := h.len; cases this
  | _ :: _, [], h => by have := h.len; cases this
  | q :: qs, r :: T, h => .cons (dp_pt (h.at_ 0 q r rfl rfl)) (dp_rows ⟨by have := h.len; simpa using this, fun i q' r' e1 e2 => h.at_ (i + 1) q' r' (by simpa using e1) (by simpa using e2)⟩)
theorem dp_tabL {K : PySem.W.Frag} {H : Hp} {p : Addr} {T : List (List Nat)} (h : TabL H p T) : Dp K H (.ref p) (.list (T.map pt_)) := by
  obtain ⟨qs, e, r⟩ := h
  exact .lst (SqL.of e) (dp_rows r)
theorem any_pts (T : List (List Nat)) (r : List Nat) : (T.map pt_).any (fun z => PyData.eqv z (pt_ r)) = decide (r ∈ T) := by
  induction T with
  | nil => simp
  | cons a T ih =>
    rw [List.map_cons, List.any_cons, ih, eqv_pt]
    by_cases h : a = r
    · subst h; simp
    · have h' : r ≠ a := fun z => h z.symm
      simp [h, h']
section
variable {X : Cx} (K : PySem.W.Frag)
theorem oIn (hu : X.A.units + 65 < cLine) (h : X.K = K := by rfl) : OpR X (compareOp .In) (rInD K) := by subst h; exact op_inD hu
theorem oNotIn (hu : X.A.units + 65 < cLine) (h : X.K = K := by rfl) : OpR X (compareOp .NotIn) (rNotInD K) := by subst h; exact op_notInD hu
theorem mIdx (hu : X.A.units + 65 < cLine) (h : X.K = K := by rfl) : MtR X "list.index" (rIndexD K) := by subst h; exact mt_indexD hu
def rListOf (K : PySem.W.Frag) : List V → Hp → VK → Prop := fun xs H Q => ∃ p ys, xs = [.ref p] ∧ (SqL K H p ys ∨ SqT K H p ys) ∧ ∀ l, H l = none → Q (.ref l) (upd H l (.lst ys))
theorem cList (h : X.K = K := by rfl) : CallR X (.type "list") (rListOf K) := by subst h; exact call_list_of
end
theorem hu65 {A : Around} {k : Nat} (hr : Room k A) : A.units + 65 < cLine := by have := hr.un; omega
theorem hu64 {A : Around} {k : Nat} (hr : Room k A) : A.units + 64 < cLine := by have := hr.un; omega

section
variable {P : Program} {w : World} {K : PySem.W.Frag} {mg : Str → Option Value} {base : Heap}
/-! ### after -/
abbrev nAfter : List Str := ["_law_f", "_law_g", "_law_x"]
def spAfter : Sp := fun vs H Q _ => ∃ (fa ga : Addr) (f g : List Nat), vs = [.ref fa, .ref ga] ∧ H fa = some (.tup (f.map nv)) ∧ H ga = some (.tup (g.map nv)) ∧ (∀ x ∈ f, x < g.length) ∧ f.length ≤ 1000 ∧
  ∀ (p : Addr) (H' : Hp), H p = none → Same H H' → H' p = some (.tup ((after f g).map nv)) → Q (.ref p) H'
theorem ok_after {fn : Addr} {fd : FuncData} {k : Nat} (F : Fun K "_law_after" "_law_after" sAfter fn fd) (mt : mg "tuple" = none) : FnOk P w K mg base CX0 (k + 1) fn fd ["_law_f", "_law_g"] spAfter := by
  refine F.ok scAfter (fun vs H Q E h => ?_) (fun cdv A outer s H vs Q E hr h => ?_)
  · obtain ⟨fa, ga, f, g, rfl, _⟩ := h
    rfl
  · obtain ⟨fa, ga, f, g, rfl, ef, eg, hx, hl, q⟩ := h
    refine ⟨_, pss_one (ps_ret (pe_callTy (cTup K) (by rfl) mt PyProof.Rows.boot_tuple (pa_cons (pe_lc (own := [("_law_x", 2)]) (g := gName 2) (tt := tYes) rfl scAfter.nd (piT K (pv 0)) (blkOk_by (N := nAfter) (sc := defScope sAfter) (by decide +kernel))
      (fun _ _ _ _ _ => pg_name (i := 2) scAfter.nd rfl (Or.inl rfl)) (fun _ _ _ _ _ => pts_nil) (fun _ _ _ _ _ => pe_ix (ixT K) (pv 1) (pv 2) (fun _ _ => rfl))) pa_nil))), ?_⟩
    refine ⟨.ref fa, rfl, fa, rfl, ⟨_, SqT.of ef⟩, fun D nD => ?_⟩
    refine lc_tup (xs := f.map nv) (fun i H3 => Same H H3 ∧ H3 D = some (.lst (((after f g).take i).map nv))) ⟨sNew (Same.refl H) nD, upd_same⟩ (fun i H3 _ h => SqT.of (h.1 _ _ ef)) (fun i x H3 hi h => ?_) (fun H3 h => ?_)
    · obtain ⟨sm, eD⟩ := h
      rw [List.getElem?_map] at hi
      cases e : f[i]? with
      | none => rw [e] at hi; cases hi
      | some z =>
        rw [e] at hi
        cases Option.some.inj hi
        have hz : z < g.length := hx z (List.mem_of_getElem? e)
        have eg' : g[z]? = some (g.getD z 0) := by
          rw [List.getD_eq_getElem?_getD, List.getElem?_eq_getElem hz]; rfl
        refine ⟨rfl, .ref ga, rfl, nv z, rfl, ga, _, _, nv (g.getD z 0), rfl, rfl, SqT.of (sm _ _ eg), atI_nat (nv_at eg'), _, eD, ?_, sNew sm nD, ?_⟩
        · rw [nv_len, List.length_take]
          have : (after f g).length = f.length := by unfold after; rw [List.length_map]
          exact small1000 (by omega)
        · rw [upd_same, List.take_add_one]
          have : (after f g)[i]? = some (g.getD z 0) := by unfold after; rw [List.getElem?_map, e]; rfl
          rw [this, List.map_append]
          rfl
    · obtain ⟨sm, eD⟩ := h
      have : (after f g).take (f.map nv).length = after f g := List.take_of_length_le (by unfold after; rw [List.length_map, List.length_map]; exact Nat.le_refl _)
      rw [this] at eD
      refine ⟨D, _, rfl, .inl ⟨SqL.of eD, fun p np => ?_⟩⟩
      have npH : H p = none := by
        cases z : H p with
        | none => rfl
        | some o => rw [sm _ _ z] at np; cases np
      exact q p _ npH (sNew sm npH) upd_same
end
end K35
set_option Elab.async false
set_option linter.all false
set_option maxRecDepth 100000
set_option maxHeartbeats 4000000
namespace K35
open PySem PySem.Spec PyProof.Rows L2
theorem sFree {H H' : Hp} {p : Addr} (sm : Same H H') (h : H' p = none) : H p = none := by
  cases z : H p with
  | none => rfl
  | some o => rw [sm _ _ z] at h; cases h
theorem KT.free {H H' : Hp} {p : Addr} {xs : List V} (k : KT H H') (h : H' p = none) : H p ≠ some (.tup xs) := fun z => by rw [k _ _ z] at h; cases h
/-- an item joins the list at p -/
theorem TabL.push {H : Hp} {p q : Addr} {T : List (List Nat)} {r : List Nat} {qs : List Addr} (e : H p = some (.lst (qs.map V.ref))) (rw_ : Rows H qs T) (eq : H q = some (.tup (r.map nv))) : TabL (upd H p (.lst (qs.map V.ref ++ [.ref q]))) p (T ++ [r]) :=
  ⟨qs ++ [q], by rw [upd_same, List.map_append]; rfl, (rw_.snoc eq).mono (KT.lst e)⟩
/-- a thing is laid beside -/
theorem TabL.beside {H : Hp} {p q : Addr} {T : List (List Nat)} {o : HO} (h : TabL H p T) (hq : H q = none) : TabL (upd H q o) p T := h.mono (KT.new hq) fun u e => by rw [upd_ne (ne_of_none e hq)]; exact e
theorem TabL.len {H : Hp} {p : Addr} {T : List (List Nat)} {qs : List Addr} (e : H p = some (.lst (qs.map V.ref))) (h : Rows H qs T) : (qs.map V.ref).length = T.length := by rw [List.length_map, h.len]
theorem refs_at {qs : List Addr} {i : Nat} {x : V} (h : (qs.map V.ref)[i]? = some x) : ∃ q, qs[i]? = some q ∧ x = .ref q := by
  rw [List.getElem?_map] at h
  cases e : qs[i]? with
  | none => rw [e] at h; cases h
  | some q => rw [e] at h; exact ⟨q, rfl, (Option.some.inj h).symm⟩
theorem Rows.to {H : Hp} {qs : List Addr} {T : List (List Nat)} (h : Rows H qs T) {i : Nat} {q : Addr} (e : qs[i]? = some q) : ∃ r, T[i]? = some r ∧ H q = some (.tup (r.map nv)) := by
  have hi := (List.getElem?_eq_some_iff.mp e).1
  have hi2 : i < T.length := by rw [← h.len]; exact hi
  exact ⟨T[i], List.getElem?_eq_getElem hi2, h.at_ i q _ e (List.getElem?_eq_getElem hi2)⟩
theorem foldl_take {α β : Type} (g : β → α → β) (b : β) {l : List α} {i : Nat} {x : α} (h : l[i]? = some x) : (l.take (i + 1)).foldl g b = g ((l.take i).foldl g b) x := by
  rw [List.take_add_one, h, List.foldl_append]; rfl
def st0 (acc : List (List Nat)) (f : List Nat) : List (List Nat) := if f ∈ acc then acc else acc ++ [f]
theorem st0_in {acc : List (List Nat)} {f : List Nat} (h : f ∈ acc) : st0 acc f = acc := if_pos h
theorem st0_out {acc : List (List Nat)} {f : List Nat} (h : f ∉ acc) : st0 acc f = acc ++ [f] := if_neg h
theorem st0_len : ∀ (l acc : List (List Nat)), (l.foldl st0 acc).length ≤ acc.length + l.length
  | [], acc => by simp
  | f :: r, acc => by
    rw [List.foldl_cons]
    have h := st0_len r (st0 acc f)
    have h2 : (st0 acc f).length ≤ acc.length + 1 := by
      unfold st0
      split
      · omega
      · simp
    simp only [List.length_cons]
    omega

section
variable {P : Program} {w : World} {K : PySem.W.Frag} {mg : Str → Option Value} {base : Heap}
def spClosed : Sp := fun vs H Q _ => ∃ (m : Addr) (k : Nat) (maps : List (List Nat)), vs = [.ref m] ∧ TabL H m maps ∧ (∀ g ∈ maps, IsMap k g) ∧ k ≤ 100 ∧ maps.length ≤ 100 ∧
  ∀ (p : Addr) (H' : Hp), H p = none → Same H H' → TabL H' p (closedF maps) → Q (.ref p) H'
theorem ok_closed {f fA : Addr} {fd fdA : FuncData} {k : Nat} (F : Fun K "_law_closed" "_law_closed" sClosed f fd) (GA : FnOk P w K mg base CX0 k fA fdA ["_law_f", "_law_g"] spAfter) (bA : Binds K fdA ["_law_f", "_law_g"] []) (kA : PySem.W.keepIn K (.ref fA) = true) (gA : mg "_law_after" = some (.ref fA))
    (mr : mg "range" = none) (ml : mg "len" = none) (mli : mg "list" = none) : FnOk P w K mg base CX0 (k + 1) f fd ["_law_maps"] spClosed := by
  refine F.ok scClosed (fun vs H Q E h => ?_) (fun cdv A outer s H vs Q E hr h => ?_)
  · obtain ⟨m, k, maps, rfl, _⟩ := h
    rfl
  · obtain ⟨m, kk, maps, rfl, tm, hm, hkk, hml, q⟩ := h
    refine ⟨_, pss_cons (ps_set (i := 1) scClosed.nd rfl (.inl rfl) (pe_lst pa_nil))
      (pss_cons (ps_for PassesOwn.never rfl (pi_list (pv 0)) (pg_name (i := 2) scClosed.nd rfl (.inl rfl))
        (pss_one (ps_if (pt_cmpR (oNotIn K (hu65 hr)) (pv 2) (pv 1) rfl)
          (pss_one (ps_expr (pe_bm PySem.F.plainAttrs_list PySem.F.slot_list_append PySem.F.type_list_append mt_append (pv 1) (pa_cons (pv 2) pa_nil)))) pss_nil)))
      (pss_cons (ps_for PassesOwn.never rfl (pi_range1 (by rfl) mr (pa_cons pe_int pa_nil)) (pg_name (i := 3) scClosed.nd rfl (.inl rfl))
        (pss_one (ps_for PassesOwn.never rfl (pi_list (pe_callTy (cList K) (by rfl) mli PyProof.Rows.boot_list (pa_cons (pv 1) pa_nil))) (pg_name (i := 2) scClosed.nd rfl (.inl rfl))
          (pss_one (ps_for PassesOwn.never rfl (pi_list (pv 0)) (pg_name (i := 4) scClosed.nd rfl (.inl rfl))
            (pss_cons (ps_set (i := 5) scClosed.nd rfl (.inl rfl) (pe_call GA hr (by rfl) gA kA bA .nil pass0 (pa_cons (pv 2) (pa_cons (pv 4) pa_nil))))
            (pss_one (ps_if (PW.pt (pw_and (pt_cmpR (oNotIn K (hu65 hr)) (pv 5) (pv 1) rfl) (pw_and1 (pt_cmpR op_lt (pe_callB (cLen K) (by rfl) ml PySem.boot_len (pa_cons (pv 1) pa_nil)) pe_int (nomark _)))))
              (pss_one (ps_expr (pe_bm PySem.F.plainAttrs_list PySem.F.slot_list_append PySem.F.type_list_append mt_append (pv 1) (pa_cons (pv 5) pa_nil)))) pss_nil))))))))
      (pss_one (ps_ret (pv 1))))), ?_⟩
    obtain ⟨ms, em, rm⟩ := id tm
    refine ⟨Nat.zero_le _, fun F nF => ?_⟩
    -- the first loop
    refine ⟨.ref m, rfl, m, rfl, ⟨_, SqL.of (by rw [upd_ne (ne_of_none em nF)]; exact em)⟩, ?_⟩
    refine for_list (xs := ms.map V.ref) (fun i σ H3 => Same H H3 ∧ TabL H3 F ((maps.take i).foldl st0 []) ∧ ∃ y2, σ = [some (.ref m), some (.ref F), y2, none, none, none]) ?_ (fun i σ H3 _ h => SqL.of (h.1 _ _ em)) (fun i x σ H3 hx h => ?_) (fun σ H3 h => ?_)
    · exact ⟨sNew (Same.refl H) nF, ⟨[], upd_same, Rows.nil⟩, none, rfl⟩
    · obtain ⟨sm, tF, y2, rfl⟩ := h
      obtain ⟨qf, eqf, rfl⟩ := refs_at hx
      obtain ⟨g, eg, hg⟩ := rm.to eqf
      have hg3 := sm _ _ hg
      obtain ⟨fs, eF, rF⟩ := id tF
      refine ⟨.ref qf, rfl, .ref F, rfl, pt_ g, ((maps.take i).foldl st0 []).map pt_, dp_pt hg3, dp_tabL tF, shaped_pt g, (shaped_pts _).1, _, rfl, ?_⟩
      rw [any_pts]
      by_cases hin : g ∈ (maps.take i).foldl st0 []
      · rw [decide_eq_true hin]
        refine ⟨sm, ?_, _, rfl⟩
        rw [foldl_take _ _ eg]
        rw [st0_in hin]
        exact tF
      · rw [decide_eq_false hin]
        refine ⟨.ref F, rfl, .inl ⟨rfl, _, SqL.of eF⟩, .ref qf, rfl, F, _, _, rfl, rfl, eF, ?_, ?_⟩
        · rw [TabL.len eF rF]
          have h1 := st0_len (maps.take i) []
          have h2 : (maps.take i).length ≤ maps.length := by rw [List.length_take]; omega
          simp only [List.length_nil] at h1
          exact small1000 (by omega)
        · refine ⟨sNew sm nF, ?_, _, rfl⟩
          rw [foldl_take _ _ eg]
          rw [st0_out hin]
          exact TabL.push eF rF hg3
    · -- the turns
      obtain ⟨sm, tF, y2, rfl⟩ := h
      have e0 : (maps.take (ms.map V.ref).length).foldl st0 [] = rounds maps 0 := by
        rw [TabL.len em rm, List.take_length]; rfl
      rw [e0] at tF
      refine ⟨(30 : Int), rfl, by decide, by decide, ?_⟩
      refine for_range (lo := 0) (n := (30 : Int).toNat) (fun i σ H4 => Same H H4 ∧ TabL H4 F (rounds maps i) ∧ ∃ y2 y3 y4 y5, σ = [some (.ref m), some (.ref F), y2, y3, y4, y5]) ⟨sm, tF, _, _, _, _, rfl⟩ (fun i σ H4 hi h => ?_) (fun σ H4 h => ?_)
      · obtain ⟨sm4, tF4, y2, y3, y4, y5, rfl⟩ := h
        obtain ⟨fs, eF, rF⟩ := id tF4
        refine ⟨.ref F, rfl, F, _, rfl, .inl (SqL.of eF), fun C nC => ?_⟩
        have CF : C ≠ F := (ne_of_none eF nC).symm
        have nCH := sFree sm4 nC
        refine ⟨C, rfl, ⟨_, SqL.of upd_same⟩, ?_⟩
        refine for_list (xs := fs.map V.ref) (fun j σ H5 => Same H H5 ∧ H5 C = some (.lst (fs.map V.ref)) ∧ Rows H5 fs (rounds maps i) ∧ TabL H5 F (((rounds maps i).take j).foldl (stepF maps) (rounds maps i)) ∧ ∃ y2 y3 y4 y5, σ = [some (.ref m), some (.ref F), y2, y3, y4, y5]) ?_ (fun j σ H5 _ h => SqL.of h.2.1) (fun j x σ H5 hx h => ?_) (fun σ H5 h => ?_)
        · exact ⟨sNew sm4 nCH, upd_same, rF.mono (KT.new nC), tF4.beside nC, _, _, _, _, rfl⟩
        · obtain ⟨sm5, eC5, rC5, tF5, z2, z3, z4, z5, rfl⟩ := h
          obtain ⟨qf, eqf, rfl⟩ := refs_at hx
          obtain ⟨fx, efx, hfx⟩ := rC5.to eqf
          have mapF : IsMap kk fx := (rounds_cl hm i).map fx (List.mem_of_getElem? efx)
          refine ⟨.ref m, rfl, m, rfl, ⟨_, SqL.of (sm5 _ _ em)⟩, ?_⟩
          refine for_list (xs := ms.map V.ref) (fun l σ H6 => Same H H6 ∧ H6 C = some (.lst (fs.map V.ref)) ∧ Rows H6 fs (rounds maps i) ∧ TabL H6 F ((maps.take l).foldl (stepG fx) (((rounds maps i).take j).foldl (stepF maps) (rounds maps i))) ∧ ∃ y3 y4 y5, σ = [some (.ref m), some (.ref F), some (.ref qf), y3, y4, y5]) ?_ (fun l σ H6 _ h => SqL.of (h.1 _ _ em)) (fun l x σ H6 hx h => ?_) (fun σ H6 h => ?_)
          · exact ⟨sm5, eC5, rC5, tF5, _, _, _, rfl⟩
          · obtain ⟨sm6, eC6, rC6, tF6, w3, w4, w5, rfl⟩ := h
            obtain ⟨qg, eqg, rfl⟩ := refs_at hx
            obtain ⟨g, eg, hg⟩ := rm.to eqg
            have hg6 := sm6 _ _ hg
            have mapG : IsMap kk g := hm g (List.mem_of_getElem? eg)
            have hf6 := rC6.at_ j qf fx eqf efx
            refine ⟨.ref qf, rfl, .ref qg, rfl, qf, qg, fx, g, rfl, hf6, hg6, fun x hx => by rw [mapG.len]; exact mapF.lt x hx, by rw [mapF.len]; omega, fun p H7 np sm7 e7 => ?_⟩
            have sm7' : Same H H7 := sm6.trans sm7
            have tF7 := tF6.same sm7
            have eC7 := sm7 _ _ eC6
            have rC7 := rC6.mono (sKt sm7)
            obtain ⟨f7, eF7, rF7⟩ := id tF7
            have CF7 : C ≠ F := CF
            let acc := (maps.take l).foldl (stepG fx) (((rounds maps i).take j).foldl (stepF maps) (rounds maps i))
            refine ⟨.ref p, rfl, .ref F, rfl, pt_ (after fx g), acc.map pt_, dp_pt e7, dp_tabL tF7, shaped_pt _, (shaped_pts _).1, _, rfl, ?_⟩
            rw [any_pts]
            by_cases hin : after fx g ∈ acc
            · rw [decide_eq_true hin]
              refine ⟨sm7', eC7, rC7, ?_, _, _, _, rfl⟩
              rw [foldl_take _ _ eg]
              unfold stepG
              rw [if_pos (.inl hin)]
              exact tF7
            · rw [decide_eq_false hin]
              refine ⟨.ref F, rfl, F, _, rfl, .inl (SqL.of eF7), _, 30, rfl, rfl, _, rfl, ?_⟩
              have hlen : (f7.map V.ref).length = acc.length := TabL.len eF7 rF7
              rw [hlen]
              by_cases h30 : acc.length < 30
              · rw [decide_eq_true (show ((acc.length : Nat) : Int) < 30 by omega)]
                refine ⟨.ref F, rfl, .inl ⟨rfl, _, SqL.of eF7⟩, .ref p, rfl, F, _, _, rfl, rfl, eF7, by rw [hlen]; exact small1000 (by omega), ?_⟩
                refine ⟨sNew sm7' nF, by rw [upd_ne CF]; exact eC7, rC7.mono (KT.lst eF7), ?_, _, _, _, rfl⟩
                rw [foldl_take _ _ eg]
                show TabL _ F (stepG fx acc g)
                unfold stepG
                rw [if_neg (fun z => z.elim hin (by omega))]
                exact TabL.push eF7 rF7 e7
              · rw [decide_eq_false (show ¬ ((acc.length : Nat) : Int) < 30 by omega)]
                refine ⟨sm7', eC7, rC7, ?_, _, _, _, rfl⟩
                rw [foldl_take _ _ eg]
                show TabL _ F (stepG fx acc g)
                unfold stepG
                rw [if_pos (.inr (by omega))]
                exact tF7
          · obtain ⟨sm6, eC6, rC6, tF6, w3, w4, w5, rfl⟩ := h
            refine ⟨sm6, eC6, rC6, ?_, _, _, _, _, rfl⟩
            rw [foldl_take _ _ efx]
            rw [TabL.len em rm, List.take_length] at tF6
            exact tF6
        · obtain ⟨sm5, eC5, rC5, tF5, z2, z3, z4, z5, rfl⟩ := h
          refine ⟨sm5, ?_, _, _, _, _, rfl⟩
          rw [TabL.len eC5 rC5, List.take_length] at tF5
          exact tF5
      · obtain ⟨sm4, tF4, y2, y3, y4, y5, rfl⟩ := h
        exact ⟨.ref F, rfl, q F H4 nF sm4 tF4⟩
end
end K35
set_option Elab.async false
set_option linter.all false
set_option maxRecDepth 100000
set_option maxHeartbeats 4000000
namespace K35
open PySem PySem.Spec PyProof.Rows L2
section
variable {X : Cx} {T name id : String} {r : V → List V → Hp → VK → Prop} {o e : Expr} {es : List Expr} {to : TE} {t : TA} {apos cpos : Pos}
theorem pBm {nm : Str} (K : PySem.W.Frag) (pa : PlainAttrs T) (slot : Slot T nm id) (hty : typeOf (.builtin id) = pure (.type "method_descriptor")) (hm : MtR X id r) (ho : PE X o to) (ha : PA X (e :: es) t) (hK : X.K = K := by rfl)
    (hbase : attributeBase o nm X.env (eval o X.env) = eval o X.env := by rfl)
    (hfew : ((backTo cpos (starEach (e :: es) X.env)).all (fun x => !x.1) && (backToKw cpos (keywordEach [] X.env)).all (fun x => x.1.isSome)
      && decide ((e :: es).length + ([] : List Keyword).length + (if ([] : List Keyword).isEmpty then 0 else 1) < 30)) = true := by rfl)
    (hline : (apos.endLine == cpos.line) = true := by rfl) (hs : starEach (e :: es) X.env = (false, eval e X.env) :: starEach es X.env := by rfl) (hplain : (backTo cpos (starEach es X.env)).any (·.1) = false := by rfl) :
    PE X (.Call (.Attribute o nm apos) (e :: es) [] cpos) (tBM K T r to t) := by
  subst hK
  exact pe_bm pa slot hty hm ho ha hbase hfew hline hs hplain
end
theorem idxOf_min {x : List Nat} : ∀ {l : List (List Nat)} {m : Nat} {y : List Nat}, m < l.idxOf x → l[m]? = some y → y ≠ x
  | [], _, _, _, h => by simp at h
  | a :: l, m, y, h, e => by
    rw [List.idxOf_cons] at h
    by_cases ha : a = x
    · subst ha; simp at h
    · have hb : (a == x) = false := by simp [ha]
      rw [hb] at h
      cases m with
      | zero =>
        have e' : a = y := Option.some.inj e
        rw [← e']; exact ha
      | succ m => exact idxOf_min (l := l) (m := m) (by simpa using h) (by simpa using e)
abbrev nOfMaps : List Str := ["_law_state_here", "_law_most", "_law_k", "_law_maps", "_law_turn", "_law_found", "_law_x", "_law_f", "_law_g"]
section
variable {P : Program} {w : World} {K : PySem.W.Frag} {mg : Str → Option Value} {base : Heap}
/-- a builder's promise -/
def spBuild : Sp := fun vs H Q _ => ∃ (a : Addr) (most : Nat), vs = [.ref a, nv most] ∧ (most = 4 ∨ most = 5) ∧ LawSt H a ∧
  ∀ (n : Nat) (T : List (List Nat)) (p : Addr) (H' : Hp), Sg n T → n ≤ most → H p = none → Kp a H H' → TabL H' p T → Q (.ref p) H'
theorem cut1r (qs : List Addr) : cutV (qs.map V.ref) none (some 1) = (qs.take 1).map V.ref := by
  unfold cutV
  have h1 : HT.sIx (qs.map V.ref).length (qs.map V.ref).length (some 1) = min 1 (qs.map V.ref).length := HT.sIx_nat (qs.map V.ref).length (qs.map V.ref).length 1
  rw [HT.sIx_none, h1, List.drop_zero, Nat.sub_zero]
  cases qs with
  | nil => rfl
  | cons q r =>
    rw [show min 1 ((q :: r).map V.ref).length = 1 by simp]
    rfl
theorem Rows.take1 {H : Hp} {qs : List Addr} {T : List (List Nat)} (h : Rows H qs T) (n : Nat) : Rows H (qs.take n) (T.take n) := by
  refine ⟨by rw [List.length_take, List.length_take, h.len], fun i q r e1 e2 => ?_⟩
  have hi : i < n := by
    have := (List.getElem?_eq_some_iff.mp e1).1
    rw [List.length_take] at this
    omega
  rw [List.getElem?_take_of_lt hi] at e1 e2
  exact h.at_ i q r e1 e2
theorem ok_ofMaps {f fT fA fC : Addr} {fd fdT fdA fdC : FuncData} {k : Nat} (F : Fun K "_law_of_maps" "_law_of_maps" sOfMaps f fd)
    (GT : FnOk P w K mg base CX0 k fT fdT ["_law_state_here", "_law_m"] spTake) (bT : Binds K fdT ["_law_state_here", "_law_m"] []) (kT : PySem.W.keepIn K (.ref fT) = true) (gT : mg "_law_take" = some (.ref fT))
    (GA : FnOk P w K mg base CX0 k fA fdA ["_law_f", "_law_g"] spAfter) (bA : Binds K fdA ["_law_f", "_law_g"] []) (kA : PySem.W.keepIn K (.ref fA) = true) (gA : mg "_law_after" = some (.ref fA))
    (GC : FnOk P w K mg base CX0 k fC fdC ["_law_maps"] spClosed) (bC : Binds K fdC ["_law_maps"] []) (kC : PySem.W.keepIn K (.ref fC) = true) (gC : mg "_law_closed" = some (.ref fC))
    (mr : mg "range" = none) (ml : mg "len" = none) (mt : mg "tuple" = none) : FnOk P w K mg base CX0 (k + 1) f fd ["_law_state_here", "_law_most"] spBuild := by
  refine F.ok scOfMaps (fun vs H Q E h => ?_) (fun cdv A outer s H vs Q E hr h => ?_)
  · obtain ⟨a, m, rfl, _⟩ := h
    rfl
  · obtain ⟨a, most, rfl, hmost, hst, q⟩ := h
    -- the last row
    obtain ⟨u, hu, ru⟩ : ∃ u, PSs (cxOf CX0 P w K mg base nOfMaps "_law_of_maps" (defScope sOfMaps) f cdv A outer s H E).nox ((defBody sOfMaps).drop 6) u ∧
        ∀ (H5 : Hp) (Fa : Addr) (kk : Nat) (fs : List (List Nat)) (y2 y3 y4 : Option V), Kp a H H5 → TabL H5 Fa fs → Fam kk fs → kk ≤ 100 → fs.length ≤ most →
          u { nx := fun _ H' => Q .non H', rt := Q } [some (.ref a), some (nv most), y2, y3, y4, some (.ref Fa), none, none, none] H5 := by
      refine ⟨_, pss_one (ps_ret (pe_lc (own := [("_law_f", 7)]) (g := gName 7) (tt := tYes) rfl scOfMaps.nd (pi_list (pv 5)) (blkOk_by (N := nOfMaps) (sc := defScope sOfMaps) (by decide +kernel))
        (fun _ _ _ _ _ => pg_name (i := 7) scOfMaps.nd rfl (Or.inr rfl)) (fun _ _ _ _ _ => pts_nil)
        (fun _ _ _ _ _ => pe_callTy (cTup K) (by rfl) mt PyProof.Rows.boot_tuple (pa_cons
          (pe_lc (own := [("_law_g", 8)]) (g := gName 8) (tt := tYes) rfl scOfMaps.nd (piL K (pv 5)) (blkOk_by (N := nOfMaps) (sc := relS (lcS (stE ((defBody sOfMaps).getD 6 (.Pass ⟨0, 0, 0, 0⟩)))) (defScope sOfMaps)) (by decide +kernel))
            (fun _ _ _ _ _ => pg_name (i := 8) scOfMaps.nd rfl (Or.inl rfl)) (fun _ _ _ _ _ => pts_nil)
            (fun _ _ _ _ _ => pBm K PySem.F.plainAttrs_list PySem.F.slot_list_index PySem.F.type_list_index (mIdx K (hu65 hr)) (pv 5) (pa_cons (pe_call GA hr (by rfl) gA kA bA .nil pass0 (pa_cons (pv 7) (pa_cons (pv 8) pa_nil))) pa_nil))) pa_nil)))), ?_⟩
      intro H5 Fa kk fs y2 y3 y4 kp tF fam hkk hlen
      obtain ⟨qs, eF, rF⟩ := id tF
      have hml : fs.length ≤ 5 := by omega
      refine ⟨.ref Fa, rfl, Fa, rfl, ⟨_, SqL.of eF⟩, fun D nD => ?_⟩
      refine lc_list (xs := qs.map V.ref) (fun i H6 => Same H5 H6 ∧ ∃ ps : List Addr, H6 D = some (.lst (ps.map V.ref)) ∧ Rows H6 ps ((famT fs).take i)) ⟨sNew (Same.refl H5) nD, [], upd_same, Rows.nil⟩ (fun i H6 _ h => SqL.of (h.1 _ _ eF)) (fun i x H6 hx h => ?_) (fun H6 h => ?_)
      · obtain ⟨sm6, ps, eD, rD⟩ := h
        obtain ⟨qf, eqf, rfl⟩ := refs_at hx
        obtain ⟨fx, efx, hfx⟩ := rF.to eqf
        have mf : IsMap kk fx := fam.map fx (List.mem_of_getElem? efx)
        let row := fs.map fun g => fs.idxOf (after fx g)
        refine ⟨rfl, .ref Fa, rfl, Fa, rfl, ⟨_, SqL.of (sm6 _ _ eF)⟩, fun D2 nD2 => ?_⟩
        refine lc_list (xs := qs.map V.ref) (fun j H7 => Same H6 H7 ∧ H7 D2 = some (.lst ((row.take j).map nv))) ⟨sNew (Same.refl H6) nD2, upd_same⟩ (fun j H7 _ h => SqL.of (h.1 _ _ (sm6 _ _ eF))) (fun j x H7 hx h => ?_) (fun H7 h => ?_)
        · obtain ⟨sm7, eD2⟩ := h
          obtain ⟨qg, eqg, rfl⟩ := refs_at hx
          obtain ⟨g, eg, hg⟩ := rF.to eqg
          have mg_ : IsMap kk g := fam.map g (List.mem_of_getElem? eg)
          have s57 : Same H5 H7 := sm6.trans sm7
          have hin : after fx g ∈ fs := fam.cl fx (List.mem_of_getElem? efx) g (List.mem_of_getElem? eg)
          refine ⟨rfl, .ref Fa, rfl, .inl ⟨rfl, _, SqL.of (s57 _ _ eF)⟩, .ref qf, rfl, .ref qg, rfl, qf, qg, fx, g, rfl, s57 _ _ hfx, s57 _ _ hg, fun x hx => by rw [mg_.len]; exact mf.lt x hx, by rw [mf.len]; omega, fun p H8 np sm8 e8 => ?_⟩
          have tF8 := (tF.same s57).same sm8
          refine ⟨Fa, .ref p, pt_ (after fx g), fs.map pt_, fs.idxOf (after fx g), pt_ (after fx g), rfl, rfl, dp_tabL tF8, dp_pt e8, (shaped_pts _).1, shaped_pt _, ?_, ?_, fun m z' hm hz => ?_, ?_⟩
          · rw [List.getElem?_map, idxOf_get hin]; rfl
          · rw [eqv_pt]; exact decide_eq_true rfl
          · rw [List.getElem?_map] at hz
            cases em : fs[m]? with
            | none => rw [em] at hz; cases hz
            | some y =>
              rw [em] at hz
              have hz' : pt_ y = z' := Option.some.inj hz
              subst hz'
              rw [eqv_pt]
              exact decide_eq_false (idxOf_min hm em)
          · have rowj : row[j]? = some (fs.idxOf (after fx g)) := by show (fs.map _)[j]? = _; rw [List.getElem?_map, eg]; rfl
            refine ⟨_, sm8 _ _ eD2, ?_, sNew (sm7.trans sm8) nD2, ?_⟩
            · rw [nv_len, List.length_take]
              have : row.length = fs.length := List.length_map _
              exact small1000 (by omega)
            · rw [upd_same, List.take_add_one, rowj, List.map_append]; rfl
        · obtain ⟨sm7, eD2⟩ := h
          have er : row.take (qs.map V.ref).length = row := List.take_of_length_le (by rw [TabL.len eF rF]; show (fs.map _).length ≤ _; rw [List.length_map]; exact Nat.le_refl _)
          rw [er] at eD2
          refine ⟨D2, _, rfl, .inl ⟨SqL.of eD2, fun pt npt => ?_⟩⟩
          have eD7 := sm7 _ _ eD
          have ptD : pt ≠ D := (ne_of_none eD7 npt).symm
          have eD7' : (upd H7 pt (.tup (row.map nv))) D = some (.lst (ps.map V.ref)) := by rw [upd_ne ptD.symm]; exact eD7
          have npt5 := sFree (sm6.trans sm7) npt
          refine ⟨_, eD7', ?_, sNew (sNew (sm6.trans sm7) npt5) nD, ps ++ [pt], by rw [upd_same, List.map_append]; rfl, ?_⟩
          · have := rD.len
            rw [List.length_map, this, List.length_take]
            exact small1000 (by have : (famT fs).length = fs.length := List.length_map _; omega)
          · have ft : (famT fs)[i]? = some row := by unfold famT; rw [List.getElem?_map, efx]; rfl
            rw [List.take_add_one, ft]
            exact (((rD.mono (sKt sm7)).mono (KT.new npt)).snoc upd_same).mono (KT.lst eD7')
      · obtain ⟨sm6, ps, eD, rD⟩ := h
        have er : (famT fs).take (qs.map V.ref).length = famT fs := List.take_of_length_le (by rw [TabL.len eF rF]; show (fs.map _).length ≤ _; rw [List.length_map]; exact Nat.le_refl _)
        rw [er] at rD
        have Da : D ≠ a := kp.ne nD
        refine q fs.length (famT fs) D H6 (sg_fam fam) hlen (kp.free Da nD) ⟨fun b o hb e => sm6 _ _ (kp.keep b o hb e), ?_⟩ ⟨ps, eD, rD⟩
        obtain ⟨S, T, hS, ea⟩ := kp.st
        exact ⟨S, T, hS, sm6 _ _ ea⟩
    refine ⟨_, pss_cons (ps_set (i := 2) scOfMaps.nd rfl (.inr rfl) (pe_op op_add pe_int (pe_call GT hr (by rfl) gT kT bT .nil pass0 (pa_cons (pv 0) (pa_cons pe_int pa_nil)))))
      (pss_cons (ps_set (i := 3) scOfMaps.nd rfl (.inr rfl) (pe_lst pa_nil))
      (pss_cons (ps_for PassesOwn.never rfl (pi_range1 (by rfl) mr (pa_cons (pe_op op_add pe_int (pe_call GT hr (by rfl) gT kT bT .nil pass0 (pa_cons (pv 0) (pa_cons pe_int pa_nil)))) pa_nil)) (pg_name (i := 4) scOfMaps.nd rfl (.inl rfl))
        (pss_one (ps_expr (pe_bm PySem.F.plainAttrs_list PySem.F.slot_list_append PySem.F.type_list_append mt_append (pv 3) (pa_cons
          (pe_callTy (cTup K) (by rfl) mt PyProof.Rows.boot_tuple (pa_cons
            (pe_lc (own := [("_law_x", 6)]) (g := gName 6) (tt := tYes) rfl scOfMaps.nd (pi_range1 (by rfl) mr (pa_cons (pv 2) pa_nil)) (blkOk_by (N := nOfMaps) (sc := defScope sOfMaps) (by decide +kernel))
              (fun _ _ _ _ _ => pg_name (i := 6) scOfMaps.nd rfl (Or.inl rfl)) (fun _ _ _ _ _ => pts_nil)
              (fun _ _ _ _ _ => pe_call GT hr (by rfl) gT kT bT .nil pass0 (pa_cons (pv 0) (pa_cons (pv 2) pa_nil)))) pa_nil)) pa_nil)))))
      (pss_cons (ps_set (i := 5) scOfMaps.nd rfl (.inr rfl) (pe_call GC hr (by rfl) gC kC bC .nil pass0 (pa_cons (pv 3) pa_nil)))
      (pss_cons (ps_if (pt_cmpR op_gt (pe_callB (cLen K) (by rfl) ml PySem.boot_len (pa_cons (pv 5) pa_nil)) (pv 1) (nomark _))
        (pss_one (ps_set (i := 5) scOfMaps.nd rfl (.inr rfl) (pe_call GC hr (by rfl) gC kC bC .nil pass0 (pa_cons (pe_slice sl_list (pv 3) po_none (po_some pe_int)) pa_nil)))) pss_nil)
      (pss_cons (ps_if (pt_cmpR op_gt (pe_callB (cLen K) (by rfl) ml PySem.boot_len (pa_cons (pv 5) pa_nil)) (pv 1) (nomark _))
        (pss_one (ps_set (i := 5) scOfMaps.nd rfl (.inr rfl) (pe_lst (pa_cons (pe_callTy (cTup K) (by rfl) mt PyProof.Rows.boot_tuple (pa_cons
          (pe_lc (own := [("_law_x", 6)]) (g := gName 6) (tt := tYes) rfl scOfMaps.nd (pi_range1 (by rfl) mr (pa_cons (pv 2) pa_nil)) (blkOk_by (N := nOfMaps) (sc := defScope sOfMaps) (by decide +kernel))
              (fun _ _ _ _ _ => pg_name (i := 6) scOfMaps.nd rfl (Or.inl rfl)) (fun _ _ _ _ _ => pts_nil)
              (fun _ _ _ _ _ => pe_ix (ixT K) (pe_ix (ixL K) (pv 3) pe_int (fun _ _ => rfl)) pe_int (fun _ _ => rfl))) pa_nil)) pa_nil)))) pss_nil)
      hu))))), ?_⟩
    -- k
    refine ⟨.ref a, rfl, a, 2, rfl, by decide, by decide, hst, fun r S T hr2 hS => ⟨2, (r : Int), rfl, rfl, ?_⟩⟩
    have kp1 := (Kp.refl hst).upd_st (T := T) hS
    have hk : (2 + r = 2 ∨ 2 + r = 3) := by omega
    have hk100 : 2 + r ≤ 100 := by omega
    show tSeq _ _ _ _ _
    refine ⟨Nat.zero_le _, fun M nM => ?_⟩
    have Ma : M ≠ a := kp1.ne nM
    have kp2 := kp1.upd_new (o := .lst []) (kp1.free Ma nM) Ma
    refine ⟨.ref a, rfl, a, 2, rfl, by decide, by decide, kp2.st, fun r2 S2 T2 hr3 hS2 => ⟨1, (r2 : Int), rfl, rfl, ((1 : Int) + (r2 : Int)), rfl, by omega, by omega, ?_⟩⟩
    have kp3 := kp2.upd_st (T := T2) hS2
    refine for_range (lo := 0) (n := ((1 : Int) + (r2 : Int)).toNat) (fun i σ H3 => Kp a H H3 ∧ ∃ (maps : List (List Nat)) (y4 : Option V), σ = [some (.ref a), some (nv most), some (nv (2 + r)), some (.ref M), y4, none, none, none, none] ∧ TabL H3 M maps ∧ maps.length = i ∧ ∀ g ∈ maps, IsMap (2 + r) g) ?_ (fun i σ H3 hi h => ?_) (fun σ H3 h => ?_)
    · exact ⟨kp3, [], none, rfl, ⟨[], by rw [upd_ne Ma, upd_same]; rfl, Rows.nil⟩, rfl, fun g hg => by cases hg⟩
    · obtain ⟨kp, maps, y4, rfl, tM, el, hm⟩ := h
      obtain ⟨ms, eM, rM⟩ := id tM
      refine ⟨.ref M, rfl, .inl ⟨rfl, _, SqL.of eM⟩, nv (2 + r), rfl, ((2 + r : Nat) : Int), rfl, by omega, by omega, fun D nD => ?_⟩
      have Da : D ≠ a := kp.ne nD
      refine lc_range (lo := 0) (n := ((2 + r : Nat) : Int).toNat) (fun j H4 => Kp a H3 H4 ∧ ∃ row : List Nat, H4 D = some (.lst (row.map nv)) ∧ row.length = j ∧ ∀ v ∈ row, v < 2 + r) ?_ (fun j H4 hj h => ?_) (fun H4 h => ?_)
      · exact ⟨(Kp.refl kp.st).upd_new nD Da, [], upd_same, rfl, fun v hv => by cases hv⟩
      · obtain ⟨kp4, row, eD, er, hrow⟩ := h
        refine ⟨rfl, .ref a, rfl, nv (2 + r), rfl, a, 2 + r, rfl, by omega, by omega, kp4.st, fun v S4 T4 hv hS4 => ?_⟩
        have eD' : (upd H4 a (.lst [.int S4, .int T4])) D = some (.lst (row.map nv)) := by rw [upd_ne Da]; exact eD
        refine ⟨_, eD', by rw [nv_len]; exact small1000 (by omega), (kp4.upd_st hS4).upd_new nD Da, row ++ [v], by rw [upd_same, List.map_append]; rfl, by rw [List.length_append, er]; rfl, fun z hz => ?_⟩
        rcases List.mem_append.mp hz with zz | zz
        · exact hrow z zz
        · rw [List.mem_singleton.mp zz]; exact hv
      · obtain ⟨kp4, row, eD, er, hrow⟩ := h
        refine ⟨D, _, rfl, .inl ⟨SqL.of eD, fun pt npt => ?_⟩⟩
        have pta : pt ≠ a := kp4.ne npt
        have npt3 := kp4.free pta npt
        have tM4 := tM.kp kp.st kp4
        have kp5 := kp4.upd_new (o := .tup (row.map nv)) npt3 pta
        have tM5 := tM4.beside (o := .tup (row.map nv)) npt
        obtain ⟨ms5, eM5, rM5⟩ := id tM5
        refine ⟨M, _, _, rfl, rfl, eM5, ?_, ?_⟩
        · rw [TabL.len eM5 rM5]; exact small1000 (by omega)
        · refine ⟨(kp.trans kp5).upd_new (kp1.free Ma nM) Ma, maps ++ [row], _, rfl, TabL.push eM5 rM5 upd_same, by rw [List.length_append, el]; rfl, fun g hg => ?_⟩
          rcases List.mem_append.mp hg with zz | zz
          · exact hm g zz
          · rw [List.mem_singleton.mp zz]
            exact ⟨by omega, hrow⟩
    · -- found
      obtain ⟨kp, maps, y4, rfl, tM, el, hm⟩ := h
      have hl1 : 1 ≤ maps.length := by omega
      have hne : maps ≠ [] := fun z => by rw [z] at hl1; simp at hl1
      refine ⟨.ref M, rfl, M, 2 + r, maps, rfl, tM, hm, hk100, by omega, fun Fa H4 nF sm4 tF => ?_⟩
      have keep4 : Kp a H H4 := ⟨fun b o hb e => sm4 _ _ (kp.keep b o hb e), by obtain ⟨S', T', h', ea⟩ := kp.st; exact ⟨S', T', h', sm4 _ _ ea⟩⟩
      have fam := fam_closed hk hm hne
      obtain ⟨fq, eF, rF⟩ := id tF
      refine ⟨.ref Fa, rfl, Fa, _, rfl, .inl (SqL.of eF), nv most, rfl, _, (most : Int), rfl, rfl, _, rfl, ite2 (fun e => ?_) (fun e => ?_)⟩
      · -- closed(maps[:1])
        have tM4 := tM.same sm4
        obtain ⟨ms4, eM4, rM4⟩ := id tM4
        refine ⟨.ref M, rfl, 1, rfl, M, _, rfl, SqL.of eM4, fun c nc => ?_⟩
        have ca : c ≠ a := keep4.ne nc
        have kp5 := keep4.upd_new (o := .lst (cutV (ms4.map V.ref) none (some 1))) (keep4.free ca nc) ca
        have t1 : TabL (upd H4 c (.lst (cutV (ms4.map V.ref) none (some 1)))) c (maps.take 1) := ⟨ms4.take 1, by rw [upd_same, cut1r], (rM4.take1 1).mono (KT.new nc)⟩
        have hm1 : ∀ g ∈ maps.take 1, IsMap (2 + r) g := fun g hg => hm g (List.mem_of_mem_take hg)
        have hne1 : maps.take 1 ≠ [] := fun z => by
          cases maps with
          | nil => exact hne rfl
          | cons x l => simp at z
        refine ⟨c, 2 + r, maps.take 1, rfl, t1, hm1, hk100, by rw [List.length_take]; omega, fun Fb H5 nFb sm5 tFb => ?_⟩
        have keep5 : Kp a H H5 := ⟨fun b o hb e => sm5 _ _ (kp5.keep b o hb e), by obtain ⟨S', T', h', ea⟩ := kp5.st; exact ⟨S', T', h', sm5 _ _ ea⟩⟩
        have fam1 := fam_closed hk hm1 hne1
        obtain ⟨fq1, eF1, rF1⟩ := id tFb
        refine ⟨.ref Fb, rfl, Fb, _, rfl, .inl (SqL.of eF1), nv most, rfl, _, (most : Int), rfl, rfl, _, rfl, ite2 (fun e => ?_) (fun e => ?_)⟩
        · -- the constant
          refine ⟨nv (2 + r), rfl, ((2 + r : Nat) : Int), rfl, by omega, by omega, fun D nD => ?_⟩
          have Da : D ≠ a := keep5.ne nD
          have tM5 : TabL H5 M maps := (tM4.beside (o := .lst (cutV (ms4.map V.ref) none (some 1))) nc).same sm5
          obtain ⟨g0, eg0⟩ : ∃ g0, maps[0]? = some g0 := ⟨maps[0], List.getElem?_eq_getElem (by omega)⟩
          have mg0 := hm g0 (List.mem_of_getElem? eg0)
          have hg0 : 0 < g0.length := by rw [mg0.len]; omega
          obtain ⟨c0, ec0⟩ : ∃ c0, g0[0]? = some c0 := ⟨g0[0], List.getElem?_eq_getElem hg0⟩
          have hc0 : c0 < 2 + r := mg0.lt c0 (List.mem_of_getElem? ec0)
          obtain ⟨qsM, qM, a1, a2, a3, a4⟩ := tM5.at eg0 ec0
          refine lc_range (lo := 0) (n := ((2 + r : Nat) : Int).toNat) (fun j H6 => Same H5 H6 ∧ H6 D = some (.lst ((List.replicate j c0).map nv))) ⟨sNew (Same.refl H5) nD, upd_same⟩ (fun j H6 hj h => ?_) (fun H6 h => ?_)
          · obtain ⟨sm6, eD⟩ := h
            refine ⟨rfl, .ref M, rfl, M, _, 0, .ref qM, rfl, rfl, SqL.of (sm6 _ _ a1), atI_nat (j := 0) a2, qM, _, 0, nv c0, rfl, rfl, SqT.of (sm6 _ _ a3), atI_nat (j := 0) a4, _, eD, ?_, sNew sm6 nD, ?_⟩
            · rw [nv_len, List.length_replicate]; exact small1000 (by omega)
            · rw [upd_same, List.replicate_succ', List.map_append]; rfl
          · obtain ⟨sm6, eD⟩ := h
            have en : ((2 + r : Nat) : Int).toNat = 2 + r := by omega
            rw [en] at eD
            refine ⟨D, _, rfl, .inl ⟨SqL.of eD, fun pt npt => ?_⟩⟩
            refine ⟨by show 1 ≤ sizeLine; decide, fun L nL => ?_⟩
            have keep6 : Kp a H H6 := ⟨fun b o hb e => sm6 _ _ (keep5.keep b o hb e), by obtain ⟨S', T', h', ea⟩ := keep5.st; exact ⟨S', T', h', sm6 _ _ ea⟩⟩
            have pta := keep6.ne npt
            have kp7 := keep6.upd_new (o := .tup ((List.replicate (2 + r) c0).map nv)) (keep6.free pta npt) pta
            have La := kp7.ne nL
            have kp8 := kp7.upd_new (o := .lst [.ref pt]) (kp7.free La nL) La
            have erep : List.replicate (2 + r) c0 = (List.range (2 + r)).map fun _ => c0 := by
              apply List.ext_getElem
              · simp
              · intro i h1 h2; simp
            refine ru _ L (2 + r) [(List.range (2 + r)).map fun _ => c0] _ _ _ kp8 ⟨[pt], upd_same, ?_⟩ (fam_const hc0) hk100 (by show 1 ≤ most; omega)
            rw [← erep]
            exact (Rows.nil.snoc (q := pt) (r := List.replicate (2 + r) c0) upd_same).mono (KT.new nL)
        · have hle : (closedF (maps.take 1)).length ≤ most := by
            have e' := of_decide_eq_false (Bool.eq_false_iff.mpr e)
            rw [TabL.len eF1 rF1] at e'
            omega
          exact ru H5 Fb (2 + r) _ _ _ _ keep5 tFb fam1 hk100 hle
      · have hle : (closedF maps).length ≤ most := by
          have e' := of_decide_eq_false (Bool.eq_false_iff.mpr e)
          rw [TabL.len eF rF] at e'
          omega
        refine ⟨.ref Fa, rfl, Fa, _, rfl, .inl (SqL.of eF), nv most, rfl, _, (most : Int), rfl, rfl, _, rfl, ?_⟩
        rw [TabL.len eF rF, decide_eq_false (show ¬ (most : Int) < ((closedF maps).length : Int) by omega)]
        exact ru H4 Fa (2 + r) _ _ _ _ keep4 tF fam hk100 hle
end
end K35
set_option Elab.async false
set_option linter.all false
set_option maxRecDepth 100000
set_option maxHeartbeats 4000000
namespace K35
open PySem PySem.Spec PyProof.Rows L2
/-! ### loops over range(n), the item a number -/
theorem for_rg {n : Nat} {g : TG} {tb : TS} {D : Ends} {σ : L2.St} {H : Hp} (Pv : Nat → L2.St → Hp → Prop) (h0 : Pv 0 σ H)
    (hs : ∀ i σ H, i < n → Pv i σ H → g (nv i) σ H fun σ2 H2 => tb { D with nx := Pv (i + 1), ct := Pv (i + 1), bk := D.nx } σ2 H2) (hd : ∀ σ H, Pv n σ H → D.nx σ H) :
    ∃ W : Nat → Nat → L2.St → Hp → Prop, (∃ m, W 0 m σ H) ∧ ∀ i m σ H, W i m σ H →
      ((Itr 0 (n : Int).toNat).stop i H ∧ D.nx σ H) ∨ ((Itr 0 (n : Int).toNat).go i H ∧ ∃ N : L2.St → Hp → Prop, (∀ σ' H', N σ' H' → ∃ m', m' < m ∧ W (i + 1) m' σ' H') ∧ ∀ x H', (Itr 0 (n : Int).toNat).yld i H x H' → g x σ H' fun σ2 H2 => tb { D with nx := N, ct := N, bk := D.nx } σ2 H2) := by
  have e : (n : Int).toNat = n := by omega
  rw [e]
  exact for_range (lo := 0) (n := n) Pv h0 (fun i σ H hi h => by rw [Int.zero_add]; exact hs i σ H hi h) hd
theorem lc_rg {n : Nat} {g : TG} {tt : TT} {te : TE} {vs : List Nat} {σ : L2.St} {H1 : Hp} {D : Addr} {Qd : Hp → Prop} (Pv : Nat → Hp → Prop) (h0 : Pv 0 (upd H1 D (.lst [])))
    (hs : ∀ i H, i < n → Pv i H → g (nv i) (wipe σ vs) H fun σ2 H2 => wipe σ2 vs = wipe σ vs ∧ tt σ2 H2 fun b H3 =>
      if b = true then te σ2 H3 fun y H4 => ∃ acc, H4 D = some (.lst acc) ∧ acc.length < sizeLine ∧ Pv (i + 1) (upd H4 D (.lst (acc ++ [y]))) else Pv (i + 1) H3) (hd : ∀ H, Pv n H → Qd H) :
    ∃ W : Nat → Nat → Hp → Prop, (∃ m, W 0 m (upd H1 D (.lst []))) ∧ ∀ i m H, W i m H →
      ((Itr 0 (n : Int).toNat).stop i H ∧ Qd H) ∨ ((Itr 0 (n : Int).toNat).go i H ∧ ∃ Nx : Hp → Prop, (∀ H', Nx H' → ∃ m', m' < m ∧ W (i + 1) m' H') ∧ ∀ x H', (Itr 0 (n : Int).toNat).yld i H x H' → g x (wipe σ vs) H' fun σ2 H2 => wipe σ2 vs = wipe σ vs ∧ tt σ2 H2 fun b H3 =>
        if b = true then te σ2 H3 fun y H4 => ∃ acc, H4 D = some (.lst acc) ∧ acc.length < sizeLine ∧ Nx (upd H4 D (.lst (acc ++ [y]))) else Nx H3) := by
  have e : (n : Int).toNat = n := by omega
  rw [e]
  exact lc_range (lo := 0) (n := n) Pv h0 (fun i H hi h => by rw [Int.zero_add]; exact hs i H hi h) hd
theorem tabF_at {n i : Nat} {f : Nat → Nat → Nat} (h : i < n) : (tabF n f)[i]? = some ((List.range n).map (f i)) := by
  unfold tabF
  rw [List.getElem?_map, List.getElem?_range h]; rfl
theorem row_at {n j : Nat} {g : Nat → Nat} (h : j < n) : ((List.range n).map g)[j]? = some (g j) := by
  rw [List.getElem?_map, List.getElem?_range h]; rfl
theorem rg_len (n : Nat) (g : Nat → Nat) : ((List.range n).map g).length = n := by simp
theorem take_all {α : Type} {l : List α} {n : Nat} (h : l.length = n) : l.take n = l := List.take_of_length_le (by omega)

abbrev s1 (σ : L2.St) (ix x : Nat) : L2.St := (wipe σ [ix]).set ix (some (nv x))
theorem wipe_s1 (σ : L2.St) (ix x : Nat) : wipe (s1 σ ix x) [ix] = wipe σ [ix] := by
  show ((σ.set ix none).set ix (some (nv x))).set ix none = σ.set ix none
  rw [List.set_set, List.set_set]
/-- [tuple([F x y for y in range(n)]) for x in range(n)] -/
theorem tab_lc {K : PySem.W.Frag} {n ix iy : Nat} {F : Nat → Nat → Nat} {tn tn2 te : TE} {σ : L2.St} {H : Hp} {Q : VK} (hn : n ≤ 1000)
    (h1 : ∀ (H' : Hp) (R : VK), R (nv n) H' → tn σ H' R) (h2 : ∀ (x : Nat) (H' : Hp) (R : VK), x < n → R (nv n) H' → tn2 (s1 σ ix x) H' R)
    (h3 : ∀ (x y : Nat) (H' : Hp) (R : VK), x < n → y < n → Same H H' → R (nv (F x y)) H' → te (s1 (s1 σ ix x) iy y) H' R)
    (q : ∀ (p : Addr) (H' : Hp), H p = none → Same H H' → TabL H' p (tabF n F) → Q (.ref p) H') :
    tLc (iRng1 (tCons tn tNil)) (gName ix) tYes (tCB (rTupOf K) (tCons (tLc (iRng1 (tCons tn2 tNil)) (gName iy) tYes te [iy]) tNil)) [ix] σ H Q := by
  refine h1 H _ ⟨(n : Int), rfl, by omega, by omega, fun D nD => ?_⟩
  refine lc_rg (n := n) (fun i H3 => Same H H3 ∧ ∃ ps : List Addr, H3 D = some (.lst (ps.map V.ref)) ∧ Rows H3 ps ((tabF n F).take i)) ⟨sNew (Same.refl H) nD, [], upd_same, Rows.nil⟩ (fun i H3 hi h => ?_) (fun H3 h => ?_)
  · obtain ⟨sm, ps, eD, rD⟩ := h
    refine ⟨wipe_s1 σ ix i, ?_⟩
    refine h2 i H3 _ hi ⟨(n : Int), rfl, by omega, by omega, fun D2 nD2 => ?_⟩
    refine lc_rg (n := n) (fun j H4 => Same H3 H4 ∧ H4 D2 = some (.lst ((((List.range n).map (F i)).take j).map nv))) ⟨sNew (Same.refl H3) nD2, upd_same⟩ (fun j H4 hj h => ?_) (fun H4 h => ?_)
    · obtain ⟨sm4, eD2⟩ := h
      refine ⟨wipe_s1 (s1 σ ix i) iy j, ?_⟩
      refine h3 i j H4 _ hi hj (sm.trans sm4) ⟨_, eD2, ?_, sNew sm4 nD2, ?_⟩
      · rw [nv_len, List.length_take]; exact small1000 (by omega)
      · rw [upd_same, List.take_add_one, row_at hj, List.map_append]; rfl
    · obtain ⟨sm4, eD2⟩ := h
      rw [take_all (rg_len n (F i))] at eD2
      refine ⟨D2, _, rfl, .inl ⟨SqL.of eD2, fun pt npt => ?_⟩⟩
      have eD4 := sm4 _ _ eD
      have ptD : pt ≠ D := (ne_of_none eD4 npt).symm
      have eD4' : (upd H4 pt (.tup (((List.range n).map (F i)).map nv))) D = some (.lst (ps.map V.ref)) := by rw [upd_ne ptD.symm]; exact eD4
      refine ⟨_, eD4', ?_, sNew (sNew (sm.trans sm4) (sFree (sm.trans sm4) npt)) nD, ps ++ [pt], by rw [upd_same, List.map_append]; rfl, ?_⟩
      · rw [List.length_map, rD.len, List.length_take]; exact small1000 (by omega)
      · rw [List.take_add_one, tabF_at hi]
        exact (((rD.mono (sKt sm4)).mono (KT.new npt)).snoc upd_same).mono (KT.lst eD4')
  · obtain ⟨sm, ps, eD, rD⟩ := h
    rw [take_all tabF_len] at rD
    exact q D H3 nD sm ⟨ps, eD, rD⟩

section
variable {P : Program} {w : World} {K : PySem.W.Frag} {mg : Str → Option Value} {base : Heap}
theorem monoI (n d x y : Nat) (hd : d ≤ n) (h0 : 0 < d) : monoE n d x y = ((if (n : Int) < (x : Int) + (y : Int) + 2 then (((n : Int) + 1 - (d : Int)) + (((x : Int) + (y : Int) + 2) - ((n : Int) + 1 - (d : Int))) % (d : Int)) else (x : Int) + (y : Int) + 2) - 1) := by
  unfold monoE
  by_cases h : n < x + y + 2
  · rw [if_pos h, if_pos (by omega)]
    have e1 : (((x : Int) + (y : Int) + 2) - ((n : Int) + 1 - (d : Int))) = (((x + y + 2) - (n + 1 - d) : Nat) : Int) := by omega
    rw [e1]
    have e2 : ((((x + y + 2) - (n + 1 - d) : Nat) : Int) % (d : Int)) = ((((x + y + 2) - (n + 1 - d)) % d : Nat) : Int) := rfl
    rw [e2]
    omega
  · rw [if_neg h, if_neg (by omega)]
    omega
theorem ok_mono {f fT : Addr} {fd fdT : FuncData} {k : Nat} (F : Fun K "_law_monogenic" "_law_monogenic" sMono f fd)
    (GT : FnOk P w K mg base CX0 k fT fdT ["_law_state_here", "_law_m"] spTake) (bT : Binds K fdT ["_law_state_here", "_law_m"] []) (kT : PySem.W.keepIn K (.ref fT) = true) (gT : mg "_law_take" = some (.ref fT))
    (mr : mg "range" = none) (mi : mg "int" = none) (mt : mg "tuple" = none) : FnOk P w K mg base CX0 (k + 1) f fd ["_law_state_here", "_law_most"] spBuild := by
  refine F.ok scMono (fun vs H Q E h => ?_) (fun cdv A outer s H vs Q E hr h => ?_)
  · obtain ⟨a, m, rfl, _⟩ := h
    rfl
  · obtain ⟨a, most, rfl, hmost, hst, q⟩ := h
    refine ⟨_, pss_cons (ps_set (i := 2) scMono.nd rfl (.inl rfl) (pe_op op_add pe_int (pe_call GT hr (by rfl) gT kT bT .nil pass0 (pa_cons (pv 0) (pa_cons (pv 1) pa_nil)))))
      (pss_cons (ps_set (i := 3) scMono.nd rfl (.inl rfl) (pe_op op_add pe_int (pe_call GT hr (by rfl) gT kT bT .nil pass0 (pa_cons (pv 0) (pa_cons (pv 2) pa_nil)))))
      (pss_cons (ps_set (i := 4) scMono.nd rfl (.inl rfl) (pe_op op_sub (pe_op op_add (pv 2) pe_int) (pv 3)))
      (pss_cons (ps_set (i := 5) scMono.nd rfl (.inl rfl) (pe_lst pa_nil))
      (pss_cons (ps_for PassesOwn.never rfl (pi_range1 (by rfl) mr (pa_cons (pv 2) pa_nil)) (pg_name (i := 6) scMono.nd rfl (.inl rfl))
        (pss_cons (ps_set (i := 7) scMono.nd rfl (.inl rfl) (pe_lst pa_nil))
        (pss_cons (ps_for PassesOwn.never rfl (pi_range1 (by rfl) mr (pa_cons (pv 2) pa_nil)) (pg_name (i := 8) scMono.nd rfl (.inl rfl))
          (pss_cons (ps_set (i := 9) scMono.nd rfl (.inl rfl) (pe_op op_add (pe_op op_add (pv 6) (pv 8)) pe_int))
          (pss_cons (ps_if (pt_cmpR op_gt (pv 9) (pv 2) (nomark _))
            (pss_one (ps_set (i := 9) scMono.nd rfl (.inl rfl) (pe_op op_add (pv 4) (pe_op op_mod (pe_callTy call_int1 (by rfl) mi PyProof.Rows.boot_int (pa_cons (pe_op op_sub (pv 9) (pv 4)) pa_nil)) (pv 3))))) pss_nil)
          (pss_one (ps_expr (pe_bm PySem.F.plainAttrs_list PySem.F.slot_list_append PySem.F.type_list_append mt_append (pv 7) (pa_cons (pe_op op_sub (pv 9) pe_int) pa_nil)))))))
        (pss_one (ps_expr (pe_bm PySem.F.plainAttrs_list PySem.F.slot_list_append PySem.F.type_list_append mt_append (pv 5) (pa_cons (pe_callTy (cTup K) (by rfl) mt PyProof.Rows.boot_tuple (pa_cons (pv 7) pa_nil)) pa_nil)))))))
      (pss_one (ps_ret (pv 5))))))), ?_⟩
    refine ⟨.ref a, rfl, nv most, rfl, a, most, rfl, by omega, by omega, hst, fun r S T hr2 hS => ⟨1, (r : Int), rfl, rfl, ?_⟩⟩
    have kp1 := (Kp.refl hst).upd_st (T := T) hS
    refine ⟨.ref a, rfl, nv (1 + r), rfl, a, 1 + r, rfl, by omega, by omega, kp1.st, fun r2 S2 T2 hr3 hS2 => ⟨1, (r2 : Int), rfl, rfl, ?_⟩⟩
    have kp2 := kp1.upd_st (T := T2) hS2
    refine ⟨nv (1 + r), rfl, _, 1, rfl, rfl, nv (1 + r2), rfl, _, _, rfl, rfl, ?_⟩
    refine ⟨Nat.zero_le _, fun R nR => ?_⟩
    have Ra := kp2.ne nR
    have nRH := kp2.free Ra nR
    have kp3 := kp2.upd_new (o := .lst []) nRH Ra
    have hn1 : 1 ≤ 1 + r := by omega
    have hn5 : 1 + r ≤ 5 := by omega
    obtain ⟨n, hn⟩ : ∃ n, n = 1 + r := ⟨_, rfl⟩
    obtain ⟨d, hd⟩ : ∃ d, d = 1 + r2 := ⟨_, rfl⟩
    have hdn : d ≤ n := by omega
    have hd0 : 0 < d := by omega
    refine ⟨nv n, (by rw [hn]; rfl), (n : Int), rfl, by omega, by omega, ?_⟩
    refine for_rg (n := n) (fun i σ H3 => Kp a H H3 ∧ TabL H3 R ((tabF n (monoE n d)).take i) ∧ ∃ y6 y7 y8 y9, σ = [some (.ref a), some (nv most), some (nv n), some (nv d), some (.int ((n : Int) + 1 - (d : Int))), some (.ref R), y6, y7, y8, y9]) ?_ (fun i σ H3 hi h => ?_) (fun σ H3 h => ?_)
    · exact ⟨kp3, ⟨[], upd_same, Rows.nil⟩, none, none, none, none, by rw [hn, hd]; rfl⟩
    · obtain ⟨kp, tR, y6, y7, y8, y9, rfl⟩ := h
      refine ⟨Nat.zero_le _, fun L nL => ?_⟩
      have La := kp.ne nL
      have nLH := kp.free La nL
      have kp4 := kp.upd_new (o := .lst []) nLH La
      have tR4 := tR.beside (o := .lst []) nL
      refine ⟨nv n, rfl, (n : Int), rfl, by omega, by omega, ?_⟩
      refine for_rg (n := n) (fun j σ H4 => Kp a H H4 ∧ TabL H4 R ((tabF n (monoE n d)).take i) ∧ H4 L = some (.lst ((((List.range n).map (monoE n d i)).take j).map nv)) ∧ ∃ y8 y9, σ = [some (.ref a), some (nv most), some (nv n), some (nv d), some (.int ((n : Int) + 1 - (d : Int))), some (.ref R), some (nv i), some (.ref L), y8, y9]) ?_ (fun j σ H4 hj h => ?_) (fun σ H4 h => ?_)
      · exact ⟨kp4, tR4, upd_same, y8, y9, rfl⟩
      · obtain ⟨kp5, tR5, eL, z8, z9, rfl⟩ := h
        refine ⟨nv i, rfl, nv j, rfl, _, _, rfl, rfl, _, 2, rfl, rfl, ?_⟩
        have LR : L ≠ R := by
          obtain ⟨qs, e, _⟩ := tR
          exact (ne_of_none e nL).symm
        have step : ∀ H5 (v : V), H5 = H4 → v = nv (monoE n d i j) → ∃ (l : Addr) (xs : List V) (y : V), V.ref L = .ref l ∧ [v] = [y] ∧ H5 l = some (.lst xs) ∧ xs.length < sizeLine ∧
            Kp a H (upd H5 l (.lst (xs ++ [y]))) ∧ TabL (upd H5 l (.lst (xs ++ [y]))) R ((tabF n (monoE n d)).take i) ∧ (upd H5 l (.lst (xs ++ [y]))) L = some (.lst ((((List.range n).map (monoE n d i)).take (j + 1)).map nv)) := by
          rintro H5 v rfl rfl
          refine ⟨L, _, _, rfl, rfl, eL, by rw [nv_len, List.length_take]; exact small1000 (by omega), kp5.upd_new nLH La, tR5.mono (KT.lst eL) (fun o e => by rw [upd_ne LR.symm]; exact e), ?_⟩
          rw [upd_same, List.take_add_one, row_at hj, List.map_append]; rfl
        refine ⟨_, rfl, nv n, rfl, _, _, rfl, rfl, _, rfl, ite2 (fun e => ?_) (fun e => ?_)⟩
        · have hlt := of_decide_eq_true e
          refine ⟨_, rfl, _, rfl, _, rfl, _, _, rfl, rfl, .inl ⟨_, rfl, nv d, rfl, _, _, rfl, rfl, (show (0 : Int) < (d : Int) by omega), _, _, rfl, rfl, ?_⟩⟩
          refine ⟨.ref L, rfl, .inl ⟨rfl, _, SqL.of eL⟩, _, rfl, _, 1, rfl, rfl, ?_⟩
          obtain ⟨l, xs, y, e1, e2, e3, e4, e5, e6, e7⟩ := step H4 (V.int ((((n : Int) + 1 - (d : Int)) + (((i : Int) + (j : Int) + 2) - ((n : Int) + 1 - (d : Int))) % (d : Int)) - 1)) rfl (by
            show V.int _ = V.int _
            rw [monoI n d i j hdn hd0, if_pos hlt])
          exact ⟨l, xs, y, e1, e2, e3, e4, e5, e6, e7, _, _, rfl⟩
        · have hlt := of_decide_eq_false (Bool.eq_false_iff.mpr e)
          refine ⟨.ref L, rfl, .inl ⟨rfl, _, SqL.of eL⟩, _, rfl, _, 1, rfl, rfl, ?_⟩
          obtain ⟨l, xs, y, e1, e2, e3, e4, e5, e6, e7⟩ := step H4 (V.int (((i : Int) + (j : Int) + 2) - 1)) rfl (by
            show V.int _ = V.int _
            rw [monoI n d i j hdn hd0, if_neg hlt])
          exact ⟨l, xs, y, e1, e2, e3, e4, e5, e6, e7, _, _, rfl⟩
      · obtain ⟨kp5, tR5, eL, z8, z9, rfl⟩ := h
        rw [take_all (rg_len n _)] at eL
        obtain ⟨rs, eR, rR⟩ := id tR5
        refine ⟨.ref R, rfl, .inl ⟨rfl, _, SqL.of eR⟩, .ref L, rfl, L, _, rfl, .inl ⟨SqL.of eL, fun pt npt => ?_⟩⟩
        have pta := kp5.ne npt
        have kp6 := kp5.upd_new (o := .tup (((List.range n).map (monoE n d i)).map nv)) (kp5.free pta npt) pta
        obtain ⟨rs6, eR6, rR6⟩ := tR5.beside (o := .tup (((List.range n).map (monoE n d i)).map nv)) npt
        refine ⟨R, _, _, rfl, rfl, eR6, ?_, kp6.upd_new nRH Ra, ?_, _, _, _, _, rfl⟩
        · rw [TabL.len eR6 rR6, List.length_take]; exact small1000 (by omega)
        · rw [List.take_add_one, tabF_at hi]
          exact TabL.push eR6 rR6 upd_same
    · obtain ⟨kp, tR, y6, y7, y8, y9, rfl⟩ := h
      rw [take_all tabF_len] at tR
      exact ⟨.ref R, rfl, q n _ R H3 (sg_mono (by omega) (by omega) hd0 hdn) (by omega) nRH kp tR⟩
end
end K35
set_option Elab.async false
set_option linter.all false
set_option maxRecDepth 100000
set_option maxHeartbeats 4000000
namespace K35
open PySem PySem.Spec PyProof.Rows L2
/-- a list of lists of values -/
def Lst2 (H : Hp) (p : Addr) (M : List (List V)) : Prop := ∃ qs : List Addr, H p = some (.lst (qs.map V.ref)) ∧ qs.length = M.length ∧ ∀ (i : Nat) (q : Addr) (r : List V), qs[i]? = some q → M[i]? = some r → H q = some (.lst r)
theorem Lst2.same {H H' : Hp} {p : Addr} {M : List (List V)} (h : Lst2 H p M) (k : Same H H') : Lst2 H' p M := by
  obtain ⟨qs, e, l, a⟩ := h
  exact ⟨qs, k _ _ e, l, fun i q r e1 e2 => k _ _ (a i q r e1 e2)⟩
theorem Lst2.at {H : Hp} {p : Addr} {M : List (List V)} (h : Lst2 H p M) {x y : Nat} {r : List V} {v : V} (e1 : M[x]? = some r) (e2 : r[y]? = some v) :
    ∃ (qs : List Addr) (q : Addr), H p = some (.lst (qs.map V.ref)) ∧ (qs.map V.ref)[x]? = some (.ref q) ∧ H q = some (.lst r) := by
  obtain ⟨qs, e, l, a⟩ := h
  have hx := (List.getElem?_eq_some_iff.mp e1).1
  have hx2 : x < qs.length := by rw [l]; exact hx
  exact ⟨qs, qs[x], e, by rw [List.getElem?_map, List.getElem?_eq_getElem hx2]; rfl, a x _ r (List.getElem?_eq_getElem hx2) e1⟩
section
variable {X : Cx} (K : PySem.W.Frag)
theorem slL (h : X.K = K := by rfl) : SlR X (rSlL K) := by subst h; exact sl_list
theorem slT (h : X.K = K := by rfl) : SlR X (rSlA K) := by subst h; exact sl_tupA
theorem oInS (h : X.K = K := by rfl) : OpR X (compareOp .In) (rIn K false) := by subst h; exact op_in_seq
theorem oNotInS (h : X.K = K := by rfl) : OpR X (compareOp .NotIn) (rIn K true) := by subst h; exact op_notIn_seq
theorem oCatA (h : X.K = K := by rfl) : OpR X (binaryOp .Add) (rCatA K) := by subst h; exact op_catA
end
theorem getD_get {α : Type} {l : List α} {i : Nat} {d : α} (h : i < l.length) : l[i]? = some (l.getD i d) := by
  rw [List.getD_eq_getElem?_getD, List.getElem?_eq_getElem h]; rfl
def tripRow (b g : Nat) (tw : List (List Nat)) (ho : List (List Bool)) (z : Bool) (size x : Nat) : List Nat := ((List.range size).map fun y => tripE b g tw ho z size x y) ++ (if z then [size] else [])
theorem tripT_eq (a b g : Nat) (tw : List (List Nat)) (ho : List (List Bool)) (z : Bool) : tripT a b g tw ho z = ((List.range (a * b * g)).map (tripRow b g tw ho z (a * b * g))) ++ (if z then [(List.range (a * b * g + 1)).map fun _ => a * b * g] else []) := rfl
abbrev nTrip : List Str := ["_law_a", "_law_b", "_law_g", "_law_twist", "_law_holes", "_law_zero", "_law_size", "_law_rows", "_law_x", "_law_row", "_law_y", "_law_j", "_law_i", "_law_turn", "_law_k"]
theorem rep_range {α : Type} (n : Nat) (c : α) : List.replicate n c = (List.range n).map fun _ => c := by
  apply List.ext_getElem
  · simp
  · intro i h1 h2; simp
section
variable {P : Program} {w : World} {K : PySem.W.Frag} {mg : Str → Option Value} {base : Heap}
def spTrip : Sp := fun vs H Q _ => ∃ (a b g : Nat) (ta ha : Addr) (z : Bool) (tw : List (List Nat)) (ho : List (List Bool)), vs = [nv a, nv b, nv g, .ref ta, .ref ha, .bl z] ∧ (a = 1 ∨ a = 2) ∧ (b = 1 ∨ b = 2) ∧ (g = 1 ∨ g = 2) ∧
  tw.length = b ∧ (∀ r ∈ tw, r.length = a ∧ ∀ v ∈ r, v < g) ∧ ho.length = b ∧ (∀ r ∈ ho, r.length = a) ∧ Lst2 H ta (tw.map (·.map nv)) ∧ Lst2 H ha (ho.map (·.map V.bl)) ∧
  ∀ (p : Addr) (H' : Hp), H p = none → Same H H' → TabL H' p (tripT a b g tw ho z) → Q (.ref p) H'
theorem ok_trip {f : Addr} {fd : FuncData} {k : Nat} (F : Fun K "_law_triples" "_law_triples" sTrip f fd) (m_range : mg "range" = none) (m_int : mg "int" = none) (m_tuple : mg "tuple" = none) :
    FnOk P w K mg base CX0 (k + 1) f fd ["_law_a", "_law_b", "_law_g", "_law_twist", "_law_holes", "_law_zero"] spTrip := by
  refine F.ok scTrip (fun vs H Q E h => ?_) (fun cdv A outer s H vs Q E hr h => ?_)
  · obtain ⟨a, b, g, ta, ha, z, tw, ho, rfl, _⟩ := h
    rfl
  · obtain ⟨a, b, g, ta, ha, z, tw, ho, rfl, ca, cb, cg, ltw, htw, lho, hho, etw, eho, q⟩ := h
    refine ⟨_, (pss_cons (ps_set (i := 6) scTrip.nd rfl (.inr rfl) (pe_op op_mul (pe_op op_mul (pv 0) (pv 1)) (pv 2)))
  (pss_cons (ps_set (i := 7) scTrip.nd rfl (.inl rfl) (pe_lst pa_nil))
  (pss_cons (ps_for PassesOwn.never rfl (pi_range1 (by rfl) m_range (pa_cons (pv 6) pa_nil)) (pg_name (i := 8) scTrip.nd rfl (.inl rfl))
  (pss_cons (ps_set (i := 9) scTrip.nd rfl (.inl rfl) (pe_lst pa_nil))
  (pss_cons (ps_for PassesOwn.never rfl (pi_range1 (by rfl) m_range (pa_cons (pv 6) pa_nil)) (pg_name (i := 10) scTrip.nd rfl (.inl rfl))
  (pss_cons (ps_set (i := 11) scTrip.nd rfl (.inl rfl) (pe_op op_mod (pe_callTy call_int1 (by rfl) m_int PyProof.Rows.boot_int (pa_cons (pv 8) pa_nil)) (pv 1)))
  (pss_cons (ps_set (i := 12) scTrip.nd rfl (.inl rfl) (pe_op op_fdiv (pv 10) (pe_op op_mul (pv 2) (pv 1))))
  (pss_one (ps_if (PW.pt (pw_and (pt_val (pv 5)) (pw_and1 (pt_val (pe_ix (ixL K) (pe_ix (ixL K) (pv 4) (pv 11) (fun _ _ => rfl)) (pv 12) (fun _ _ => rfl))))))
  (pss_one (ps_expr (pBm K PySem.F.plainAttrs_list PySem.F.slot_list_append PySem.F.type_list_append mt_append (pv 9) (pa_cons (pv 6) pa_nil))))
  (pss_cons (ps_set (i := 13) scTrip.nd rfl (.inl rfl) (pe_op op_mod (pe_callTy call_int1 (by rfl) m_int PyProof.Rows.boot_int (pa_cons (pe_op op_add (pe_op op_add (pe_op op_fdiv (pv 8) (pv 1)) (pe_ix (ixL K) (pe_ix (ixL K) (pv 3) (pv 11) (fun _ _ => rfl)) (pv 12) (fun _ _ => rfl))) (pe_op op_fdiv (pv 10) (pv 1))) pa_nil)) (pv 2)))
  (pss_one (ps_expr (pBm K PySem.F.plainAttrs_list PySem.F.slot_list_append PySem.F.type_list_append mt_append (pv 9) (pa_cons (pe_op op_add (pe_op op_mul (pe_op op_add (pe_op op_mul (pe_op op_fdiv (pv 8) (pe_op op_mul (pv 2) (pv 1))) (pv 2)) (pv 13)) (pv 1)) (pe_op op_mod (pe_callTy call_int1 (by rfl) m_int PyProof.Rows.boot_int (pa_cons (pv 10) pa_nil)) (pv 1))) pa_nil))))))))))
  (pss_one (ps_expr (pBm K PySem.F.plainAttrs_list PySem.F.slot_list_append PySem.F.type_list_append mt_append (pv 7) (pa_cons (pe_callTy (cTup K) (by rfl) m_tuple PyProof.Rows.boot_tuple (pa_cons (pe_op op_cat (pv 9) (pe_lc (own := [("_law_k", 14)]) (g := gName 14) (tt := tYes) rfl scTrip.nd (pi_range1 (by rfl) m_range (pa_cons (pe_callTy call_int1 (by rfl) m_int PyProof.Rows.boot_int (pa_cons (pv 5) pa_nil)) pa_nil)) (blkOk_by (N := nTrip) (sc := defScope sTrip) (by decide +kernel)) (fun _ _ _ _ _ => pg_name (i := 14) scTrip.nd rfl (.inl rfl)) (fun _ _ _ _ _ => pts_nil) (fun _ _ _ _ _ => (pv 6)))) pa_nil)) pa_nil)))))))
  (pss_cons (ps_if (pt_val (pv 5))
  (pss_one (ps_expr (pBm K PySem.F.plainAttrs_list PySem.F.slot_list_append PySem.F.type_list_append mt_append (pv 7) (pa_cons (pe_callTy (cTup K) (by rfl) m_tuple PyProof.Rows.boot_tuple (pa_cons (pe_lc (own := [("_law_k", 14)]) (g := gName 14) (tt := tYes) rfl scTrip.nd (pi_range1 (by rfl) m_range (pa_cons (pe_op op_add (pv 6) pe_int) pa_nil)) (blkOk_by (N := nTrip) (sc := defScope sTrip) (by decide +kernel)) (fun _ _ _ _ _ => pg_name (i := 14) scTrip.nd rfl (.inl rfl)) (fun _ _ _ _ _ => pts_nil) (fun _ _ _ _ _ => (pv 6))) pa_nil)) pa_nil))))
  pss_nil)
  (pss_one (ps_ret (pv 7))))))), ?_⟩
    have hab : a * b ≤ 4 ∧ 1 ≤ a * b := by rcases ca with rfl | rfl <;> rcases cb with rfl | rfl <;> simp
    have hsz : a * b * g ≤ 8 ∧ 1 ≤ a * b * g := by rcases ca with rfl | rfl <;> rcases cb with rfl | rfl <;> rcases cg with rfl | rfl <;> simp
    have hgb : 1 ≤ g * b ∧ g * b ≤ 4 := by rcases cg with rfl | rfl <;> rcases cb with rfl | rfl <;> simp
    obtain ⟨size, hsize⟩ : ∃ size, size = a * b * g := ⟨_, rfl⟩
    have es : V.int ((a : Int) * (b : Int) * (g : Int)) = nv size := by rw [hsize]; rfl
    -- size
    refine ⟨nv a, rfl, nv b, rfl, (a : Int), (b : Int), rfl, rfl, .inl ⟨by omega, by omega⟩, nv g, rfl, _, (g : Int), rfl, rfl, .inr ⟨by omega, by omega⟩, ?_⟩
    refine ⟨Nat.zero_le _, fun R nR => ?_⟩
    refine ⟨nv size, (by rw [← es]; rfl), (size : Int), rfl, by omega, by omega, ?_⟩
    refine for_rg (n := size) (fun x σ H3 => Same H H3 ∧ TabL H3 R (((List.range size).map (tripRow b g tw ho z size)).take x) ∧ ∃ y8 y9 y10 y11 y12 y13, σ = [some (nv a), some (nv b), some (nv g), some (.ref ta), some (.ref ha), some (.bl z), some (nv size), some (.ref R), y8, y9, y10, y11, y12, y13, none]) ?_ (fun x σ H3 hx h => ?_) (fun σ H3 h => ?_)
    · exact ⟨sNew (Same.refl H) nR, ⟨[], upd_same, Rows.nil⟩, none, none, none, none, none, none, by rw [← es]; rfl⟩
    · obtain ⟨sm, tR, y8, y9, y10, y11, y12, y13, rfl⟩ := h
      refine ⟨Nat.zero_le _, fun L nL => ?_⟩
      have nLH := sFree sm nL
      have LR : L ≠ R := by
        obtain ⟨qs, e, _⟩ := tR
        exact (ne_of_none e nL).symm
      refine ⟨nv size, rfl, (size : Int), rfl, by omega, by omega, ?_⟩
      have hxb : x % b < b := Nat.mod_lt _ (by omega)
      obtain ⟨twr, etwr⟩ : ∃ r, tw[x % b]? = some r := ⟨_, List.getElem?_eq_getElem (by rw [ltw]; exact hxb)⟩
      obtain ⟨hor, ehor⟩ : ∃ r, ho[x % b]? = some r := ⟨_, List.getElem?_eq_getElem (by rw [lho]; exact hxb)⟩
      have ltr := htw twr (List.mem_of_getElem? etwr)
      have lhr := hho hor (List.mem_of_getElem? ehor)
      refine for_rg (n := size) (fun y σ H4 => Same H H4 ∧ TabL H4 R (((List.range size).map (tripRow b g tw ho z size)).take x) ∧ H4 L = some (.lst ((((List.range size).map fun y => tripE b g tw ho z size x y).take y).map nv)) ∧
        ∃ y10 y11 y12 y13, σ = [some (nv a), some (nv b), some (nv g), some (.ref ta), some (.ref ha), some (.bl z), some (nv size), some (.ref R), some (nv x), some (.ref L), y10, y11, y12, y13, none]) ?_ (fun y σ H4 hy h => ?_) (fun σ H4 h => ?_)
      · exact ⟨sNew sm nLH, tR.beside nL, upd_same, _, _, _, _, rfl⟩
      · obtain ⟨sm4, tR4, eL, z10, z11, z12, z13, rfl⟩ := h
        have hyi : y / (g * b) < a := by
          refine Nat.div_lt_of_lt_mul ?_
          have : g * b * a = size := by rw [hsize, Nat.mul_assoc g b a, Nat.mul_comm b a, Nat.mul_comm g (a * b)]
          omega
        have step : ∀ (v : V), v = nv (tripE b g tw ho z size x y) → ∃ (l : Addr) (xs : List V) (u : V), V.ref L = .ref l ∧ [v] = [u] ∧ H4 l = some (.lst xs) ∧ xs.length < sizeLine ∧
            Same H (upd H4 l (.lst (xs ++ [u]))) ∧ TabL (upd H4 l (.lst (xs ++ [u]))) R (((List.range size).map (tripRow b g tw ho z size)).take x) ∧ (upd H4 l (.lst (xs ++ [u]))) L = some (.lst ((((List.range size).map fun y => tripE b g tw ho z size x y).take (y + 1)).map nv)) := by
          rintro v rfl
          refine ⟨L, _, _, rfl, rfl, eL, by rw [nv_len, List.length_take]; exact small1000 (by omega), sNew sm4 nLH, tR4.mono (KT.lst eL) (fun o e => by rw [upd_ne LR.symm]; exact e), ?_⟩
          rw [upd_same, List.take_add_one, row_at hy, List.map_append]; rfl
        -- j, i
        refine ⟨nv x, rfl, .inl ⟨(x : Int), rfl, nv b, rfl, (x : Int), (b : Int), rfl, rfl, (show (0 : Int) < (b : Int) by omega), ?_⟩⟩
        refine ⟨nv y, rfl, nv g, rfl, nv b, rfl, (g : Int), (b : Int), rfl, rfl, .inl ⟨by omega, by omega⟩, (y : Int), ((g * b : Nat) : Int), rfl, rfl, ⟨by omega, by omega⟩, ?_⟩
        have e11 : V.int ((x : Int) % (b : Int)) = nv (x % b) := rfl
        have e12 : V.int ((y : Int) / ((g * b : Nat) : Int)) = nv (y / (g * b)) := rfl
        obtain ⟨bv, ebv⟩ : ∃ bv, hor[y / (g * b)]? = some bv := ⟨_, List.getElem?_eq_getElem (by rw [lhr]; exact hyi)⟩
        obtain ⟨tv, etv⟩ : ∃ tv, twr[y / (g * b)]? = some tv := ⟨_, List.getElem?_eq_getElem (by rw [ltr.1]; exact hyi)⟩
        have hto : (ho.getD (x % b) []).getD (y / (g * b)) false = bv := by
          rw [List.getD_eq_getElem?_getD, List.getD_eq_getElem?_getD, ehor]
          show (hor[y / (g * b)]?).getD false = bv
          rw [ebv]; rfl
        have htt : (tw.getD (x % b) []).getD (y / (g * b)) 0 = tv := by
          rw [List.getD_eq_getElem?_getD, List.getD_eq_getElem?_getD, etwr]
          show (twr[y / (g * b)]?).getD 0 = tv
          rw [etv]; rfl
        have rest : (z && bv) = false → ∃ (l : Addr) (xs : List V) (u : V), True := fun _ => ⟨0, [], .non, trivial⟩
        -- the else part, as a lemma over the step
        have hE : (z && bv) = false → tripE b g tw ho z size x y = (x / (g * b) * g + (x / b + tv + y / b) % g) * b + y % b := fun hz => by
          unfold tripE
          rw [hto, htt, hz]; rfl
        have hT : (z && bv) = true → tripE b g tw ho z size x y = size := fun hz => by
          unfold tripE
          rw [hto, hz]; rfl
        obtain ⟨qt, qq, a1, a2, a3⟩ := (etw.same sm4).at (x := x % b) (y := y / (g * b)) (r := twr.map nv) (v := nv tv) (by rw [List.getElem?_map, etwr]; rfl) (by rw [List.getElem?_map, etv]; rfl)
        obtain ⟨qh, qi, b1, b2, b3⟩ := (eho.same sm4).at (x := x % b) (y := y / (g * b)) (r := hor.map V.bl) (v := .bl bv) (by rw [List.getElem?_map, ehor]; rfl) (by rw [List.getElem?_map, ebv]; rfl)
        have elsePart : ∀ {t13 : V} {R2 : L2.St → Hp → Prop}, (z && bv) = false → True := fun _ => trivial
        refine ⟨.bl z, rfl, z, rfl, ?_⟩
        cases z with
        | true =>
          refine ⟨.ref ha, rfl, nv (x % b), rfl, ha, _, _, .ref qi, rfl, rfl, SqL.of b1, atI_nat b2, nv (y / (g * b)), rfl, qi, _, _, .bl bv, rfl, rfl, SqL.of b3, atI_nat (by rw [List.getElem?_map, ebv]; rfl), bv, rfl, ?_⟩
          cases bv with
          | true =>
            refine ⟨.ref L, rfl, .inl ⟨rfl, _, SqL.of eL⟩, nv size, rfl, ?_⟩
            obtain ⟨l, xs, u, e1, e2, e3, e4, e5, e6, e7⟩ := step (nv size) (by rw [hT rfl])
            exact ⟨l, xs, u, e1, e2, e3, e4, e5, e6, e7, _, _, _, _, rfl⟩
          | false =>
            refine ⟨nv x, rfl, nv b, rfl, (x : Int), (b : Int), rfl, rfl, ⟨by omega, by omega⟩, .ref ta, rfl, nv (x % b), rfl, ta, _, _, .ref qq, rfl, rfl, SqL.of a1, atI_nat a2, nv (y / (g * b)), rfl, qq, _, _, nv tv, rfl, rfl, SqL.of a3, atI_nat (by rw [List.getElem?_map, etv]; rfl), _, (tv : Int), rfl, rfl,
              nv y, rfl, nv b, rfl, (y : Int), (b : Int), rfl, rfl, ⟨by omega, by omega⟩, _, _, rfl, rfl, .inl ⟨_, rfl, nv g, rfl, _, (g : Int), rfl, rfl, (show (0 : Int) < (g : Int) by omega), ?_⟩⟩
            refine ⟨.ref L, rfl, .inl ⟨rfl, _, SqL.of eL⟩, nv x, rfl, nv g, rfl, nv b, rfl, (g : Int), (b : Int), rfl, rfl, .inl ⟨by omega, by omega⟩, (x : Int), ((g * b : Nat) : Int), rfl, rfl, ⟨by omega, by omega⟩, nv g, rfl, _, (g : Int), rfl, rfl, .inr ⟨by omega, by omega⟩,
              _, rfl, _, _, rfl, rfl, nv b, rfl, _, (b : Int), rfl, rfl, .inr ⟨by omega, by omega⟩, nv y, rfl, .inl ⟨(y : Int), rfl, nv b, rfl, (y : Int), (b : Int), rfl, rfl, (show (0 : Int) < (b : Int) by omega), _, _, rfl, rfl, ?_⟩⟩
            obtain ⟨l, xs, u, e1, e2, e3, e4, e5, e6, e7⟩ := step (nv ((x / (g * b) * g + (x / b + tv + y / b) % g) * b + y % b)) (by rw [hE rfl])
            exact ⟨l, xs, u, e1, e2, e3, e4, e5, e6, e7, _, _, _, _, rfl⟩
        | false =>
          refine ⟨nv x, rfl, nv b, rfl, (x : Int), (b : Int), rfl, rfl, ⟨by omega, by omega⟩, .ref ta, rfl, nv (x % b), rfl, ta, _, _, .ref qq, rfl, rfl, SqL.of a1, atI_nat a2, nv (y / (g * b)), rfl, qq, _, _, nv tv, rfl, rfl, SqL.of a3, atI_nat (by rw [List.getElem?_map, etv]; rfl), _, (tv : Int), rfl, rfl,
            nv y, rfl, nv b, rfl, (y : Int), (b : Int), rfl, rfl, ⟨by omega, by omega⟩, _, _, rfl, rfl, .inl ⟨_, rfl, nv g, rfl, _, (g : Int), rfl, rfl, (show (0 : Int) < (g : Int) by omega), ?_⟩⟩
          refine ⟨.ref L, rfl, .inl ⟨rfl, _, SqL.of eL⟩, nv x, rfl, nv g, rfl, nv b, rfl, (g : Int), (b : Int), rfl, rfl, .inl ⟨by omega, by omega⟩, (x : Int), ((g * b : Nat) : Int), rfl, rfl, ⟨by omega, by omega⟩, nv g, rfl, _, (g : Int), rfl, rfl, .inr ⟨by omega, by omega⟩,
            _, rfl, _, _, rfl, rfl, nv b, rfl, _, (b : Int), rfl, rfl, .inr ⟨by omega, by omega⟩, nv y, rfl, .inl ⟨(y : Int), rfl, nv b, rfl, (y : Int), (b : Int), rfl, rfl, (show (0 : Int) < (b : Int) by omega), _, _, rfl, rfl, ?_⟩⟩
          obtain ⟨l, xs, u, e1, e2, e3, e4, e5, e6, e7⟩ := step (nv ((x / (g * b) * g + (x / b + tv + y / b) % g) * b + y % b)) (by rw [hE rfl])
          exact ⟨l, xs, u, e1, e2, e3, e4, e5, e6, e7, _, _, _, _, rfl⟩
      · -- the row is done
        obtain ⟨sm4, tR4, eL, z10, z11, z12, z13, rfl⟩ := h
        rw [take_all (rg_len size _)] at eL
        obtain ⟨rs, eR, rR⟩ := id tR4
        let zz : Nat := if z then 1 else 0
        have hz1 : V.int (if z = true then 1 else 0) = nv (if z then 1 else 0) := by cases z <;> rfl
        refine ⟨.ref R, rfl, .inl ⟨rfl, _, SqL.of eR⟩, .ref L, rfl, .bl z, rfl, .inr ⟨z, rfl, (((if z then 1 else 0 : Nat)) : Int), by rw [hz1], by split <;> omega, by split <;> omega, fun D nD => ?_⟩⟩
        have nDH := sFree sm4 nD
        have DL : D ≠ L := (ne_of_none eL nD).symm
        refine lc_rg (n := if z then 1 else 0) (fun j H5 => Same H H5 ∧ (∀ b, b ≠ D → H5 b = H4 b) ∧ H5 D = some (.lst ((List.replicate j size).map nv))) ⟨sNew sm4 nDH, fun b hb => upd_ne hb, upd_same⟩ (fun j H5 hj h => ?_) (fun H5 h => ?_)
        · obtain ⟨sm5, k5, eD⟩ := h
          refine ⟨rfl, nv size, rfl, _, eD, ?_, sNew sm5 nDH, fun b hb => by rw [upd_ne hb]; exact k5 b hb, ?_⟩
          · rw [nv_len, List.length_replicate]
            have : j < 2 := by
              split at hj <;> omega
            exact small1000 (by omega)
          · rw [upd_same, List.replicate_succ', List.map_append]; rfl
        · obtain ⟨sm5, k5, eD⟩ := h
          have eL5 : H5 L = some (.lst (((List.range size).map fun y => tripE b g tw ho z size x y).map nv)) := by rw [k5 L DL.symm]; exact eL
          refine ⟨L, D, _, _, rfl, rfl, eL5, eD, ?_, fun C nC => ?_⟩
          · rw [nv_len, nv_len, rg_len, List.length_replicate]
            refine Nat.le_of_lt (small1000 ?_)
            split <;> omega
          · have nCH := sFree sm5 nC
            refine ⟨C, _, rfl, .inl ⟨SqL.of upd_same, fun pt npt => ?_⟩⟩
            have ptC : pt ≠ C := (ne_of_none upd_same npt).symm
            have npt5 : H5 pt = none := by rw [upd_ne ptC] at npt; exact npt
            have DR : D ≠ R := (ne_of_none eR nD).symm
            have kt : KT H4 H5 := fun b xs e => by
              have : b ≠ D := ne_of_none e nD
              rw [k5 b this]; exact e
            have tR5 : TabL H5 R (((List.range size).map (tripRow b g tw ho z size)).take x) := tR4.mono kt fun o e => by rw [k5 R DR.symm]; exact e
            have hrow : (((List.range size).map fun y => tripE b g tw ho z size x y).map nv ++ (List.replicate (if z then 1 else 0) size).map nv) = (tripRow b g tw ho z size x).map nv := by
              unfold tripRow
              rw [List.map_append]
              cases z <;> rfl
            rw [hrow] at npt ⊢
            have tR6 := (tR5.beside (o := .lst ((tripRow b g tw ho z size x).map nv)) nC).beside (o := .tup ((tripRow b g tw ho z size x).map nv)) npt
            obtain ⟨rs6, eR6, rR6⟩ := id tR6
            refine ⟨R, _, _, rfl, rfl, eR6, ?_, sNew (sNew (sNew sm5 nCH) (sFree sm5 npt5)) nR, ?_, _, _, _, _, _, _, rfl⟩
            · rw [TabL.len eR6 rR6, List.length_take]; exact small1000 (by omega)
            · have : ((List.range size).map (tripRow b g tw ho z size))[x]? = some (tripRow b g tw ho z size x) := by
                rw [List.getElem?_map, List.getElem?_range hx]; rfl
              rw [List.take_add_one, this]
              exact TabL.push eR6 rR6 upd_same
    · obtain ⟨sm, tR, y8, y9, y10, y11, y12, y13, rfl⟩ := h
      have tl : ((List.range size).map (tripRow b g tw ho z size)).take size = (List.range size).map (tripRow b g tw ho z size) := take_all (by simp)
      rw [tl] at tR
      refine ⟨.bl z, rfl, z, rfl, ?_⟩
      cases z with
      | false =>
        refine ⟨.ref R, rfl, q R H3 nR sm ?_⟩
        rw [tripT_eq, ← hsize]
        show TabL H3 R (_ ++ [])
        rw [List.append_nil]
        exact tR
      | true =>
        obtain ⟨rs, eR, rR⟩ := id tR
        refine ⟨.ref R, rfl, .inl ⟨rfl, _, SqL.of eR⟩, nv size, rfl, (size : Int), 1, rfl, rfl, ((size + 1 : Nat) : Int), rfl, by omega, by omega, fun D nD => ?_⟩
        have nDH := sFree sm nD
        have DR : D ≠ R := (ne_of_none eR nD).symm
        refine lc_rg (n := size + 1) (fun j H5 => Same H H5 ∧ (∀ b, b ≠ D → H5 b = H3 b) ∧ H5 D = some (.lst ((List.replicate j size).map nv))) ⟨sNew sm nDH, fun b hb => upd_ne hb, upd_same⟩ (fun j H5 hj h => ?_) (fun H5 h => ?_)
        · obtain ⟨sm5, k5, eD⟩ := h
          refine ⟨rfl, nv size, rfl, _, eD, ?_, sNew sm5 nDH, fun b hb => by rw [upd_ne hb]; exact k5 b hb, ?_⟩
          · rw [nv_len, List.length_replicate]; exact small1000 (by omega)
          · rw [upd_same, List.replicate_succ', List.map_append]; rfl
        · obtain ⟨sm5, k5, eD⟩ := h
          refine ⟨D, _, rfl, .inl ⟨SqL.of eD, fun pt npt => ?_⟩⟩
          have kt : KT H3 H5 := fun b xs e => by
            have : b ≠ D := ne_of_none e nD
            rw [k5 b this]; exact e
          have tR5 : TabL H5 R ((List.range size).map (tripRow b g tw ho true size)) := tR.mono kt fun o e => by rw [k5 R DR.symm]; exact e
          have tR6 := tR5.beside (o := .tup ((List.replicate (size + 1) size).map nv)) npt
          obtain ⟨rs6, eR6, rR6⟩ := id tR6
          refine ⟨R, _, _, rfl, rfl, eR6, ?_, .ref R, rfl, q R _ nR (sNew (sNew sm5 (sFree sm5 npt)) nR) ?_⟩
          · rw [TabL.len eR6 rR6]; simp; exact small1000 (by omega)
          · rw [tripT_eq, ← hsize]
            have : (if true = true then [(List.range (size + 1)).map fun _ => size] else []) = [List.replicate (size + 1) size] := by rw [rep_range]; rfl
            show TabL _ R (_ ++ (if true = true then [(List.range (size + 1)).map fun _ => size] else []))
            rw [this]
            exact TabL.push eR6 rR6 upd_same
end
end K35
set_option Elab.async false
set_option linter.all false
set_option maxRecDepth 100000
set_option maxHeartbeats 4000000
namespace K35
open PySem PySem.Spec PyProof.Rows L2
/-- a matrix apart from the law's state -/
def Lst2A (H : Hp) (aa p : Addr) (M : List (List V)) : Prop := p ≠ aa ∧ ∃ qs : List Addr, H p = some (.lst (qs.map V.ref)) ∧ qs.length = M.length ∧ ∀ (i : Nat) (q : Addr) (r : List V), qs[i]? = some q → M[i]? = some r → q ≠ aa ∧ H q = some (.lst r)
theorem Lst2A.kp {H H' : Hp} {aa p : Addr} {M : List (List V)} (h : Lst2A H aa p M) (k : Kp aa H H') : Lst2A H' aa p M := by
  obtain ⟨hp, qs, e, l, a⟩ := h
  exact ⟨hp, qs, k.keep p _ hp e, l, fun i q r e1 e2 => ⟨(a i q r e1 e2).1, k.keep q _ (a i q r e1 e2).1 (a i q r e1 e2).2⟩⟩
theorem Lst2A.lst {H : Hp} {aa p : Addr} {M : List (List V)} (h : Lst2A H aa p M) : Lst2 H p M := by
  obtain ⟨hp, qs, e, l, a⟩ := h
  exact ⟨qs, e, l, fun i q r e1 e2 => (a i q r e1 e2).2⟩
theorem seq_asg {te : TE} {g : TG} {u : TS} {D : Ends} {σ : L2.St} {H : Hp} (h : te σ H fun x H1 => g x σ H1 (u D)) : tSeq (tAsg te g) u D σ H := h
/-- [[draw for i in range(a)] for j in range(b)] -/
theorem mat_lc {aa : Addr} {a b ix iy : Nat} {Ok : V → Prop} {tn tn2 te : TE} {σ : L2.St} {H : Hp} {Q : VK} (ha : a ≤ 100) (hb : b ≤ 100) (hst : LawSt H aa)
    (h1 : ∀ (H' : Hp) (R : VK), R (nv b) H' → tn σ H' R) (h2 : ∀ (x : Nat) (H' : Hp) (R : VK), x < b → R (nv a) H' → tn2 (s1 σ ix x) H' R)
    (h3 : ∀ (x y : Nat) (H' : Hp) (R : VK), LawSt H' aa → (∀ (v : V) (S T : Int), Ok v → 0 ≤ S → R v (upd H' aa (.lst [.int S, .int T]))) → te (s1 (s1 σ ix x) iy y) H' R)
    (q : ∀ (p : Addr) (H' : Hp) (M : List (List V)), H p = none → Kp aa H H' → Lst2A H' aa p M → M.length = b → (∀ r ∈ M, r.length = a ∧ ∀ v ∈ r, Ok v) → Q (.ref p) H') :
    tLc (iRng1 (tCons tn tNil)) (gName ix) tYes (tLc (iRng1 (tCons tn2 tNil)) (gName iy) tYes te [iy]) [ix] σ H Q := by
  refine h1 H _ ⟨(b : Int), rfl, by omega, by omega, fun D nD => ?_⟩
  have Da := hst.ne nD
  refine lc_rg (n := b) (fun i H3 => Kp aa H H3 ∧ ∃ (qs : List Addr) (M : List (List V)), H3 D = some (.lst (qs.map V.ref)) ∧ qs.length = i ∧ M.length = i ∧ (∀ r ∈ M, r.length = a ∧ ∀ v ∈ r, Ok v) ∧
    ∀ (j : Nat) (z : Addr) (r : List V), qs[j]? = some z → M[j]? = some r → z ≠ D ∧ z ≠ aa ∧ H3 z = some (.lst r)) ?_ (fun i H3 hi h => ?_) (fun H3 h => ?_)
  · exact ⟨(Kp.refl hst).upd_new nD Da, [], [], upd_same, rfl, rfl, fun r hr => (nomatch hr), fun j z r e => by simp at e⟩
  · obtain ⟨kp, qs, M, eD, lq, lM, hM, hz⟩ := h
    refine ⟨wipe_s1 σ ix i, ?_⟩
    refine h2 i H3 _ hi ⟨(a : Int), rfl, by omega, by omega, fun D2 nD2 => ?_⟩
    have D2a := kp.ne nD2
    have D2D : D2 ≠ D := (ne_of_none eD nD2).symm
    refine lc_rg (n := a) (fun j H4 => Kp aa H3 H4 ∧ ∃ r : List V, H4 D2 = some (.lst r) ∧ r.length = j ∧ ∀ v ∈ r, Ok v) ⟨(Kp.refl kp.st).upd_new nD2 D2a, [], upd_same, rfl, fun v hv => (nomatch hv)⟩ (fun j H4 hj h => ?_) (fun H4 h => ?_)
    · obtain ⟨kp4, r, eD2, lr, hr⟩ := h
      refine ⟨wipe_s1 (s1 σ ix i) iy j, ?_⟩
      refine h3 i j H4 _ kp4.st fun v S T hv hS => ?_
      have eD2' : (upd H4 aa (.lst [.int S, .int T])) D2 = some (.lst r) := by rw [upd_ne D2a]; exact eD2
      refine ⟨r, eD2', small1000 (by omega), (kp4.upd_st hS).upd_new nD2 D2a, r ++ [v], upd_same, by rw [List.length_append, lr]; rfl, fun u hu => ?_⟩
      rcases List.mem_append.mp hu with w | w
      · exact hr u w
      · rw [List.mem_singleton.mp w]; exact hv
    · obtain ⟨kp4, r, eD2, lr, hr⟩ := h
      refine ⟨qs.map V.ref, kp4.keep D _ Da eD, by rw [List.length_map]; exact small1000 (by omega), (kp.trans kp4).upd_new nD Da, qs ++ [D2], M ++ [r], by rw [upd_same, List.map_append]; rfl, by rw [List.length_append, lq]; rfl, by rw [List.length_append, lM]; rfl, fun u hu => ?_, fun j z r' e1 e2 => ?_⟩
      · rcases List.mem_append.mp hu with w | w
        · exact hM u w
        · rw [List.mem_singleton.mp w]; exact ⟨lr, hr⟩
      · by_cases hj : j < qs.length
        · rw [List.getElem?_append_left hj] at e1
          rw [List.getElem?_append_left (by omega)] at e2
          obtain ⟨z1, z2, z3⟩ := hz j z r' e1 e2
          refine ⟨z1, z2, ?_⟩
          rw [upd_ne z1]
          exact kp4.keep z _ z2 z3
        · have hj2 : j = qs.length := by
            have h1 := (List.getElem?_eq_some_iff.mp e1).1
            rw [List.length_append, List.length_singleton] at h1
            omega
          subst hj2
          rw [List.getElem?_append_right (Nat.le_refl _), Nat.sub_self] at e1
          rw [List.getElem?_append_right (by omega), lq, ← lM, Nat.sub_self] at e2
          cases Option.some.inj e1
          cases Option.some.inj e2
          exact ⟨D2D, D2a, by rw [upd_ne D2D]; exact eD2⟩
  · obtain ⟨kp, qs, M, eD, lq, lM, hM, hz⟩ := h
    exact q D H3 M nD kp ⟨Da, qs, eD, by rw [lq, lM], fun j z r e1 e2 => (hz j z r e1 e2).2⟩ lM hM
theorem ints_of {g : Nat} : ∀ {r : List V}, (∀ v ∈ r, ∃ x : Nat, x < g ∧ v = nv x) → ∃ ns : List Nat, r = ns.map nv ∧ ∀ x ∈ ns, x < g
  | [], _ => ⟨[], rfl, fun x hx => (nomatch hx)⟩
  | v :: r, h => by
    obtain ⟨x, hx, rfl⟩ := h v List.mem_cons_self
    obtain ⟨ns, rfl, hns⟩ := ints_of (r := r) fun u hu => h u (List.mem_cons_of_mem _ hu)
    refine ⟨x :: ns, rfl, fun y hy => ?_⟩
    rcases List.mem_cons.mp hy with e | e
    · rw [e]; exact hx
    · exact hns y e
theorem mats_of {g a : Nat} : ∀ {M : List (List V)}, (∀ r ∈ M, r.length = a ∧ ∀ v ∈ r, ∃ x : Nat, x < g ∧ v = nv x) → ∃ tw : List (List Nat), M = tw.map (·.map nv) ∧ ∀ r ∈ tw, r.length = a ∧ ∀ v ∈ r, v < g
  | [], _ => ⟨[], rfl, fun x hx => (nomatch hx)⟩
  | r :: M, h => by
    obtain ⟨l, hr⟩ := h r List.mem_cons_self
    obtain ⟨ns, rfl, hns⟩ := ints_of hr
    obtain ⟨tw, rfl, htw⟩ := mats_of (M := M) fun u hu => h u (List.mem_cons_of_mem _ hu)
    refine ⟨ns :: tw, rfl, fun y hy => ?_⟩
    rcases List.mem_cons.mp hy with e | e
    · rw [e]; exact ⟨by rw [nv_len] at l; exact l, hns⟩
    · exact htw y e
theorem bools_of : ∀ {r : List V}, (∀ v ∈ r, ∃ x : Bool, v = .bl x) → ∃ bs : List Bool, r = bs.map V.bl
  | [], _ => ⟨[], rfl⟩
  | v :: r, h => by
    obtain ⟨x, rfl⟩ := h v List.mem_cons_self
    obtain ⟨ns, rfl⟩ := bools_of (r := r) fun u hu => h u (List.mem_cons_of_mem _ hu)
    exact ⟨x :: ns, rfl⟩
theorem bmats_of {a : Nat} : ∀ {M : List (List V)}, (∀ r ∈ M, r.length = a ∧ ∀ v ∈ r, ∃ x : Bool, v = .bl x) → ∃ ho : List (List Bool), M = ho.map (·.map V.bl) ∧ ∀ r ∈ ho, r.length = a
  | [], _ => ⟨[], rfl, fun x hx => (nomatch hx)⟩
  | r :: M, h => by
    obtain ⟨l, hr⟩ := h r List.mem_cons_self
    obtain ⟨ns, rfl⟩ := bools_of hr
    obtain ⟨tw, rfl, htw⟩ := bmats_of (M := M) fun u hu => h u (List.mem_cons_of_mem _ hu)
    refine ⟨ns :: tw, rfl, fun y hy => ?_⟩
    rcases List.mem_cons.mp hy with e | e
    · rw [e]; rw [List.length_map] at l; exact l
    · exact htw y e
theorem tripT_len {a b g : Nat} {tw : List (List Nat)} {ho : List (List Bool)} {z : Bool} : (tripT a b g tw ho z).length = tripN a b g z := by
  unfold tripT tripN
  cases z <;> simp
abbrev nBlocks : List Str := ["_law_state_here", "_law_most", "_law_a", "_law_b", "_law_g", "_law_twist", "_law_holes", "_law_zero", "_law_i", "_law_j"]
section
variable {P : Program} {w : World} {K : PySem.W.Frag} {mg : Str → Option Value} {base : Heap}
theorem ok_blocks {f fT fR : Addr} {fd fdT fdR : FuncData} {k : Nat} (F : Fun K "_law_blocks" "_law_blocks" sBlocks f fd)
    (GT : FnOk P w K mg base CX0 k fT fdT ["_law_state_here", "_law_m"] spTake) (bT : Binds K fdT ["_law_state_here", "_law_m"] []) (kT : PySem.W.keepIn K (.ref fT) = true) (gT : mg "_law_take" = some (.ref fT))
    (GR : FnOk P w K mg base CX0 k fR fdR ["_law_a", "_law_b", "_law_g", "_law_twist", "_law_holes", "_law_zero"] spTrip) (bR : Binds K fdR ["_law_a", "_law_b", "_law_g", "_law_twist", "_law_holes", "_law_zero"] []) (kR : PySem.W.keepIn K (.ref fR) = true) (gR : mg "_law_triples" = some (.ref fR))
    (m_range : mg "range" = none) (m_min : mg "min" = none) : FnOk P w K mg base CX0 (k + 1) f fd ["_law_state_here", "_law_most"] spBuild := by
  refine F.ok scBlocks (fun vs H Q E h => ?_) (fun cdv A outer s H vs Q E hr h => ?_)
  · obtain ⟨a, m, rfl, _⟩ := h
    rfl
  · obtain ⟨aa, most, rfl, hmost, hst, q⟩ := h
    obtain ⟨u, hu, ru⟩ : ∃ u, PSs (cxOf CX0 P w K mg base nBlocks "_law_blocks" (defScope sBlocks) f cdv A outer s H E).nox ((defBody sBlocks).drop 4) u ∧
        ∀ (H5 : Hp) (a b g : Nat), Kp aa H H5 → (a = 1 ∨ a = 2) → (b = 1 ∨ b = 2) → (g = 1 ∨ g = 2) → a * b * g ≤ 4 → a * b * g ≤ most →
          u { nx := fun _ H' => Q .non H', rt := Q } [some (.ref aa), some (nv most), some (nv a), some (nv b), some (nv g), none, none, none, none, none] H5 := by
      refine ⟨_, (pss_cons (ps_setLc (i := 5) (own := [("_law_j", 9)]) (g := gName 9) (tt := tYes) rfl scBlocks.nd rfl rfl (sw_true rfl rfl rfl (by decide +kernel)) (pi_range1 (by rfl) m_range (pa_cons (pv 3) pa_nil)) (blkOk_by (N := nBlocks) (sc := defScope sBlocks) (by decide +kernel)) (fun _ _ _ _ _ => pg_name (i := 9) scBlocks.nd rfl (.inl rfl)) (fun _ _ _ _ _ => pts_nil) (fun _ _ _ _ _ => (pe_lc (own := [("_law_i", 8)]) (g := gName 8) (tt := tYes) rfl scBlocks.nd (pi_range1 (by rfl) m_range (pa_cons (pv 2) pa_nil)) (blkOk_by (N := nBlocks) (sc := relS (lcS (stE ((defBody sBlocks).getD 4 (.Pass ⟨0, 0, 0, 0⟩)))) (defScope sBlocks)) (by decide +kernel)) (fun _ _ _ _ _ => pg_name (i := 8) scBlocks.nd rfl (.inl rfl)) (fun _ _ _ _ _ => pts_nil) (fun _ _ _ _ _ => (pe_call GT hr (by rfl) gT kT bT .nil pass0 (pa_cons (pv 0) (pa_cons (pv 4) pa_nil)))))))
  (pss_cons (ps_setLc (i := 6) (own := [("_law_j", 9)]) (g := gName 9) (tt := tYes) rfl scBlocks.nd rfl rfl (sw_true rfl rfl rfl (by decide +kernel)) (pi_range1 (by rfl) m_range (pa_cons (pv 3) pa_nil)) (blkOk_by (N := nBlocks) (sc := defScope sBlocks) (by decide +kernel)) (fun _ _ _ _ _ => pg_name (i := 9) scBlocks.nd rfl (.inl rfl)) (fun _ _ _ _ _ => pts_nil) (fun _ _ _ _ _ => (pe_lc (own := [("_law_i", 8)]) (g := gName 8) (tt := tYes) rfl scBlocks.nd (pi_range1 (by rfl) m_range (pa_cons (pv 2) pa_nil)) (blkOk_by (N := nBlocks) (sc := relS (lcS (stE ((defBody sBlocks).getD 5 (.Pass ⟨0, 0, 0, 0⟩)))) (defScope sBlocks)) (by decide +kernel)) (fun _ _ _ _ _ => pg_name (i := 8) scBlocks.nd rfl (.inl rfl)) (fun _ _ _ _ _ => pts_nil) (fun _ _ _ _ _ => (pe_cmpR op_eq (pe_call GT hr (by rfl) gT kT bT .nil pass0 (pa_cons (pv 0) (pa_cons pe_int pa_nil))) pe_int (nomark _))))))
  (pss_cons (ps_set (i := 7) scBlocks.nd rfl (.inl rfl) (pe_and (pe_cmpR op_eq (pe_call GT hr (by rfl) gT kT bT .nil pass0 (pa_cons (pv 0) (pa_cons pe_int pa_nil))) pe_int (nomark _)) (pe_one (pe_cmpR op_lt (pe_op op_mul (pe_op op_mul (pv 2) (pv 3)) (pv 4)) (pv 1) (nomark _)))))
  (pss_one (ps_ret (pe_call GR hr (by rfl) gR kR bR .nil pass0 (pa_cons (pv 2) (pa_cons (pv 3) (pa_cons (pv 4) (pa_cons (pv 5) (pa_cons (pv 6) (pa_cons (pv 7) pa_nil)))))))))))), ?_⟩
      intro H5 a b g kp ca cb cg h4 hm
      have ha : a ≤ 100 := by omega
      have hb : b ≤ 100 := by omega
      refine seq_asg ?_
      refine mat_lc (aa := aa) (a := a) (b := b) (ix := 9) (iy := 8) (Ok := fun v => ∃ x : Nat, x < g ∧ v = nv x) ha hb kp.st (fun H' R h => ⟨_, rfl, h⟩) (fun x H' R hx h => ⟨_, rfl, h⟩)
        (fun x y H' R st h => ⟨.ref aa, rfl, nv g, rfl, aa, g, rfl, by omega, by omega, st, fun r S T hr hS => h _ S T ⟨r, hr, rfl⟩ hS⟩) (fun p H6 M np kp6 l2 lM hM => ?_)
      obtain ⟨tw, rfl, htw⟩ := mats_of hM
      rw [List.length_map] at lM
      refine seq_asg ?_
      refine mat_lc (aa := aa) (a := a) (b := b) (ix := 9) (iy := 8) (Ok := fun v => ∃ x : Bool, v = .bl x) ha hb kp6.st (fun H' R h => ⟨_, rfl, h⟩) (fun x H' R hx h => ⟨_, rfl, h⟩)
        (fun x y H' R st h => ⟨.ref aa, rfl, aa, 3, rfl, by decide, by decide, st, fun r S T hr hS => ⟨rfl, h _ S T ⟨_, rfl⟩ hS⟩⟩) (fun p2 H7 M2 np2 kp7 l3 lM2 hM2 => ?_)
      obtain ⟨ho, rfl, hho⟩ := bmats_of hM2
      rw [List.length_map] at lM2
      have l2' := l2.kp kp7
      have k7 := (kp.trans kp6).trans kp7
      have fin : ∀ (S T : Int) (z : Bool), 0 ≤ S → (z = true → a * b * g < most) → spTrip [nv a, nv b, nv g, .ref p, .ref p2, .bl z] (upd H7 aa (.lst [.int S, .int T])) Q (fun _ _ _ => False) := fun S T z hS hz => by
        have k8 := (Kp.refl k7.st).upd_st (T := T) hS
        refine ⟨a, b, g, p, p2, z, tw, ho, rfl, ca, cb, cg, lM, htw, lM2, hho, (l2'.kp k8).lst, (l3.kp k8).lst, fun pt H9 npt sm9 t9 => ?_⟩
        have k9 := k7.trans k8
        have pta : pt ≠ aa := k9.ne npt
        refine q (tripN a b g z) _ pt H9 (sg_trip ca cb cg h4 lM htw lM2 hho) ?_ (k9.free pta npt) ⟨fun b o hb e => sm9 _ _ (k9.keep b o hb e), S, T, hS, sm9 _ _ upd_same⟩ t9
        unfold tripN
        cases z with
        | true => have := hz rfl; simp; omega
        | false => simp; exact hm
      refine ⟨.ref aa, rfl, aa, 2, rfl, by decide, by decide, k7.st, fun r S T hr2 hS => ⟨rfl, _, rfl, ite2 (fun e => ?_) (fun e => ?_)⟩⟩
      · refine ⟨nv a, rfl, nv b, rfl, (a : Int), (b : Int), rfl, rfl, .inl ⟨by omega, by omega⟩, nv g, rfl, _, (g : Int), rfl, rfl, .inr ⟨by omega, by omega⟩, nv most, rfl, _, (most : Int), rfl, rfl, ?_⟩
        exact ⟨nv a, rfl, nv b, rfl, nv g, rfl, .ref p, rfl, .ref p2, rfl, _, rfl, fin S T _ hS fun hz => by
          have h1 : ((a * b * g : Nat) : Int) < (most : Int) := of_decide_eq_true hz
          omega⟩
      · exact ⟨nv a, rfl, nv b, rfl, nv g, rfl, .ref p, rfl, .ref p2, rfl, _, rfl, fin S T false hS fun hz => by cases hz⟩
    refine ⟨_, (pss_cons (ps_set (i := 2) scBlocks.nd rfl (.inr rfl) (pe_op op_add pe_int (pe_call GT hr (by rfl) gT kT bT .nil pass0 (pa_cons (pv 0) (pa_cons pe_int pa_nil)))))
  (pss_cons (ps_set (i := 3) scBlocks.nd rfl (.inl rfl) (pe_op op_add pe_int (pe_call GT hr (by rfl) gT kT bT .nil pass0 (pa_cons (pv 0) (pa_cons pe_int pa_nil)))))
  (pss_cons (ps_set (i := 4) scBlocks.nd rfl (.inr rfl) (pe_op op_add pe_int (pe_call GT hr (by rfl) gT kT bT .nil pass0 (pa_cons (pv 0) (pa_cons pe_int pa_nil)))))
  (pss_cons (ps_if (pt_cmpR op_gt (pe_op op_add (pe_op op_mul (pe_op op_mul (pv 2) (pv 3)) (pv 4)) pe_int) (pv 1) (nomark _))
  (pss_one (ps_asg (pe_tup (pa_cons pe_int (pa_cons pe_int (pa_cons (pe_callB (call_min2 rfl) (by rfl) m_min PyProof.Rows.boot_min (pa_cons pe_int (pa_cons (pv 1) pa_nil))) pa_nil)))) (pg_tup rfl (pgs_cons (pg_name (i := 2) scBlocks.nd rfl (.inr rfl)) (pgs_cons (pg_name (i := 3) scBlocks.nd rfl (.inl rfl)) (pgs_cons (pg_name (i := 4) scBlocks.nd rfl (.inr rfl)) pgs_nil))))))
  pss_nil)
  hu)))), ?_⟩
    refine ⟨.ref aa, rfl, aa, 2, rfl, by decide, by decide, hst, fun r1 S1 T1 h1 hS1 => ⟨1, (r1 : Int), rfl, rfl, ?_⟩⟩
    have kp1 := (Kp.refl hst).upd_st (T := T1) hS1
    refine ⟨.ref aa, rfl, aa, 2, rfl, by decide, by decide, kp1.st, fun r2 S2 T2 h2 hS2 => ⟨1, (r2 : Int), rfl, rfl, ?_⟩⟩
    have kp2 := kp1.upd_st (T := T2) hS2
    refine ⟨.ref aa, rfl, aa, 2, rfl, by decide, by decide, kp2.st, fun r3 S3 T3 h3 hS3 => ⟨1, (r3 : Int), rfl, rfl, ?_⟩⟩
    have kp3 := kp2.upd_st (T := T3) hS3
    have ca : 1 + r1 = 1 ∨ 1 + r1 = 2 := by omega
    have cb : 1 + r2 = 1 ∨ 1 + r2 = 2 := by omega
    have cg : 1 + r3 = 1 ∨ 1 + r3 = 2 := by omega
    refine ⟨nv (1 + r1), rfl, nv (1 + r2), rfl, ((1 + r1 : Nat) : Int), ((1 + r2 : Nat) : Int), rfl, rfl, .inl ⟨by omega, by omega⟩, nv (1 + r3), rfl, _, ((1 + r3 : Nat) : Int), rfl, rfl, .inr ⟨by omega, by omega⟩, _, 1, rfl, rfl, nv most, rfl, _, (most : Int), rfl, rfl, _, rfl, ite2 (fun e => ?_) (fun e => ?_)⟩
    · refine ⟨nv most, rfl, 2, (most : Int), rfl, ?_⟩
      rw [if_neg (show ¬ ((most : Int) < 2) by omega)]
      refine ⟨by show 3 ≤ sizeLine; decide, fun tp ntp => ?_⟩
      have tpa := kp3.ne ntp
      have kp4 := kp3.upd_new (o := .tup [.int 1, .int 1, .int 2]) (kp3.free tpa ntp) tpa
      refine ⟨tp, _, rfl, SqT.of upd_same, rfl, _, _, rfl, _, _, rfl, _, _, rfl, rfl, ?_⟩
      exact ru _ 1 1 2 kp4 (.inl rfl) (.inl rfl) (.inr rfl) (by decide) (by show 2 ≤ most; omega)
    · have hlt := of_decide_eq_false (Bool.eq_false_iff.mpr e)
      have hlt' : ¬ (most : Int) < (((1 + r1) * (1 + r2) * (1 + r3) : Nat) : Int) + 1 := hlt
      exact ru _ (1 + r1) (1 + r2) (1 + r3) kp3 ca cb cg (by omega) (by omega)
end
end K35
set_option Elab.async false
set_option linter.all false
set_option maxRecDepth 100000
set_option maxHeartbeats 4000000
namespace K35
open PySem PySem.Spec PyProof.Rows L2
def ifB : Stmt → Nat → Stmt
  | .If _ b _ _, i => b.getD i (.Pass ⟨0, 0, 0, 0⟩)
  | _, _ => .Pass ⟨0, 0, 0, 0⟩
abbrev nPlain : List Str := ["_law_state_here", "_law_most", "_law_pick", "_law_n", "_law_x", "_law_y"]
section
variable {P : Program} {w : World} {K : PySem.W.Frag} {mg : Str → Option Value} {base : Heap}
theorem ok_plain {f fT fM fO fB : Addr} {fd fdT fdM fdO fdB : FuncData} {k : Nat} (F : Fun K "_law_plain" "_law_plain" sPlain f fd)
    (GT : FnOk P w K mg base CX0 k fT fdT ["_law_state_here", "_law_m"] spTake) (bT : Binds K fdT ["_law_state_here", "_law_m"] []) (kT : PySem.W.keepIn K (.ref fT) = true) (gT : mg "_law_take" = some (.ref fT))
    (GM : FnOk P w K mg base CX0 k fM fdM ["_law_state_here", "_law_most"] spBuild) (bM : Binds K fdM ["_law_state_here", "_law_most"] []) (kM : PySem.W.keepIn K (.ref fM) = true) (gM : mg "_law_monogenic" = some (.ref fM))
    (GO : FnOk P w K mg base CX0 k fO fdO ["_law_state_here", "_law_most"] spBuild) (bO : Binds K fdO ["_law_state_here", "_law_most"] []) (kO : PySem.W.keepIn K (.ref fO) = true) (gO : mg "_law_of_maps" = some (.ref fO))
    (GB : FnOk P w K mg base CX0 k fB fdB ["_law_state_here", "_law_most"] spBuild) (bB : Binds K fdB ["_law_state_here", "_law_most"] []) (kB : PySem.W.keepIn K (.ref fB) = true) (gB : mg "_law_blocks" = some (.ref fB))
    (m_range : mg "range" = none) (m_tuple : mg "tuple" = none) (m_min : mg "min" = none) : FnOk P w K mg base CX0 (k + 1) f fd ["_law_state_here", "_law_most"] spBuild := by
  refine F.ok scPlain (fun vs H Q E h => ?_) (fun cdv A outer s H vs Q E hr h => ?_)
  · obtain ⟨a, m, rfl, _⟩ := h
    rfl
  · obtain ⟨aa, most, rfl, hmost, hst, q⟩ := h
    refine ⟨_, (pss_cons (ps_set (i := 2) scPlain.nd rfl (.inl rfl) (pe_call GT hr (by rfl) gT kT bT .nil pass0 (pa_cons (pv 0) (pa_cons pe_int pa_nil))))
  (pss_cons (ps_set (i := 3) scPlain.nd rfl (.inr rfl) (pe_op op_add pe_int (pe_call GT hr (by rfl) gT kT bT .nil pass0 (pa_cons (pv 0) (pa_cons (pv 1) pa_nil)))))
  (pss_cons (ps_if (pt_cmpR op_eq (pv 2) pe_int (nomark _))
  (pss_one (ps_ret (pe_lc (own := [("_law_x", 4)]) (g := gName 4) (tt := tYes) rfl scPlain.nd (pi_range1 (by rfl) m_range (pa_cons (pv 3) pa_nil)) (blkOk_by (N := nPlain) (sc := defScope sPlain) (by decide +kernel)) (fun _ _ _ _ _ => pg_name (i := 4) scPlain.nd rfl (by first | exact .inl rfl | exact .inr rfl)) (fun _ _ _ _ _ => pts_nil) (fun _ _ _ _ _ => (pe_callTy (cTup K) (by rfl) m_tuple PyProof.Rows.boot_tuple (pa_cons (pe_lc (own := [("_law_y", 5)]) (g := gName 5) (tt := tYes) rfl scPlain.nd (pi_range1 (by rfl) m_range (pa_cons (pv 3) pa_nil)) (blkOk_by (N := nPlain) (sc := relS (lcS (stE (ifB ((defBody sPlain).getD 2 (.Pass ⟨0, 0, 0, 0⟩)) 0))) (defScope sPlain)) (by decide +kernel)) (fun _ _ _ _ _ => pg_name (i := 5) scPlain.nd rfl (by first | exact .inl rfl | exact .inr rfl)) (fun _ _ _ _ _ => pts_nil) (fun _ _ _ _ _ => (pv 4))) pa_nil))))))
  pss_nil)
  (pss_cons (ps_if (pt_cmpR op_eq (pv 2) pe_int (nomark _))
  (pss_one (ps_ret (pe_lc (own := [("_law_x", 4)]) (g := gName 4) (tt := tYes) rfl scPlain.nd (pi_range1 (by rfl) m_range (pa_cons (pv 3) pa_nil)) (blkOk_by (N := nPlain) (sc := defScope sPlain) (by decide +kernel)) (fun _ _ _ _ _ => pg_name (i := 4) scPlain.nd rfl (by first | exact .inl rfl | exact .inr rfl)) (fun _ _ _ _ _ => pts_nil) (fun _ _ _ _ _ => (pe_callTy (cTup K) (by rfl) m_tuple PyProof.Rows.boot_tuple (pa_cons (pe_lc (own := [("_law_y", 5)]) (g := gName 5) (tt := tYes) rfl scPlain.nd (pi_range1 (by rfl) m_range (pa_cons (pv 3) pa_nil)) (blkOk_by (N := nPlain) (sc := relS (lcS (stE (ifB ((defBody sPlain).getD 3 (.Pass ⟨0, 0, 0, 0⟩)) 0))) (defScope sPlain)) (by decide +kernel)) (fun _ _ _ _ _ => pg_name (i := 5) scPlain.nd rfl (by first | exact .inl rfl | exact .inr rfl)) (fun _ _ _ _ _ => pts_nil) (fun _ _ _ _ _ => pe_int)) pa_nil))))))
  pss_nil)
  (pss_cons (ps_if (pt_cmpR op_eq (pv 2) pe_int (nomark _))
  (pss_one (ps_ret (pe_call GM hr (by rfl) gM kM bM .nil pass0 (pa_cons (pv 0) (pa_cons (pv 1) pa_nil)))))
  pss_nil)
  (pss_cons (ps_if (pt_cmpR op_eq (pv 2) pe_int (nomark _))
  (pss_one (ps_ret (pe_lc (own := [("_law_x", 4)]) (g := gName 4) (tt := tYes) rfl scPlain.nd (pi_range1 (by rfl) m_range (pa_cons (pv 3) pa_nil)) (blkOk_by (N := nPlain) (sc := defScope sPlain) (by decide +kernel)) (fun _ _ _ _ _ => pg_name (i := 4) scPlain.nd rfl (by first | exact .inl rfl | exact .inr rfl)) (fun _ _ _ _ _ => pts_nil) (fun _ _ _ _ _ => (pe_callTy (cTup K) (by rfl) m_tuple PyProof.Rows.boot_tuple (pa_cons (pe_lc (own := [("_law_y", 5)]) (g := gName 5) (tt := tYes) rfl scPlain.nd (pi_range1 (by rfl) m_range (pa_cons (pv 3) pa_nil)) (blkOk_by (N := nPlain) (sc := relS (lcS (stE (ifB ((defBody sPlain).getD 5 (.Pass ⟨0, 0, 0, 0⟩)) 0))) (defScope sPlain)) (by decide +kernel)) (fun _ _ _ _ _ => pg_name (i := 5) scPlain.nd rfl (by first | exact .inl rfl | exact .inr rfl)) (fun _ _ _ _ _ => pts_nil) (fun _ _ _ _ _ => (pe_callB (call_min2 rfl) (by rfl) m_min PyProof.Rows.boot_min (pa_cons (pv 4) (pa_cons (pv 5) pa_nil))))) pa_nil))))))
  pss_nil)
  (pss_cons (ps_if (pt_cmpR op_lt (pv 2) pe_int (nomark _))
  (pss_one (ps_ret (pe_call GO hr (by rfl) gO kO bO .nil pass0 (pa_cons (pv 0) (pa_cons (pv 1) pa_nil)))))
  pss_nil)
  (pss_one (ps_ret (pe_call GB hr (by rfl) gB kB bB .nil pass0 (pa_cons (pv 0) (pa_cons (pv 1) pa_nil)))))))))))), ?_⟩
    refine ⟨.ref aa, rfl, aa, 8, rfl, by decide, by decide, hst, fun r S T hr2 hS => ?_⟩
    have kp1 := (Kp.refl hst).upd_st (T := T) hS
    refine ⟨.ref aa, rfl, nv most, rfl, aa, most, rfl, by omega, by omega, kp1.st, fun r2 S2 T2 hr3 hS2 => ⟨1, (r2 : Int), rfl, rfl, ?_⟩⟩
    have kp2 := kp1.upd_st (T := T2) hS2
    have hn0 : 0 < 1 + r2 := by omega
    have hn5 : 1 + r2 ≤ most := by omega
    have go : ∀ {F : Nat → Nat → Nat}, Sg (1 + r2) (tabF (1 + r2) F) → ∀ (p : Addr) (H' : Hp), (upd (upd H aa (.lst [.int S, .int T])) aa (.lst [.int S2, .int T2])) p = none → Same (upd (upd H aa (.lst [.int S, .int T])) aa (.lst [.int S2, .int T2])) H' → TabL H' p (tabF (1 + r2) F) → Q (.ref p) H' := fun sg p H' np sm t => by
      have pa := kp2.ne np
      have k3 := sKp sm kp2.st
      exact q (1 + r2) _ p H' sg hn5 (kp2.free pa np) (kp2.trans k3) t
    have sub : spBuild [.ref aa, nv most] (upd (upd H aa (.lst [.int S, .int T])) aa (.lst [.int S2, .int T2])) Q (fun _ _ _ => False) := by
      refine ⟨aa, most, rfl, hmost, kp2.st, fun n' T' p H' sg hn np k3 t => ?_⟩
      have pa := kp2.ne np
      exact q n' T' p H' sg hn (kp2.free pa np) (kp2.trans k3) t
    refine ⟨nv r, rfl, rfl, _, rfl, ite2 (fun e => ?_) (fun e => ?_)⟩
    · exact tab_lc (n := 1 + r2) (ix := 4) (iy := 5) (F := fun x _ => x) (by omega) (fun H' R h => ⟨_, rfl, h⟩) (fun x H' R hx h => ⟨_, rfl, h⟩) (fun x y H' R hx hy sm h => ⟨_, rfl, h⟩) (go (sg_left hn0))
    refine ⟨nv r, rfl, rfl, _, rfl, ite2 (fun e => ?_) (fun e => ?_)⟩
    · exact tab_lc (n := 1 + r2) (ix := 4) (iy := 5) (F := fun _ _ => 0) (by omega) (fun H' R h => ⟨_, rfl, h⟩) (fun x H' R hx h => ⟨_, rfl, h⟩) (fun x y H' R hx hy sm h => h) (go (sg_null hn0))
    refine ⟨nv r, rfl, rfl, _, rfl, ite2 (fun e => ?_) (fun e => ?_)⟩
    · exact ⟨.ref aa, rfl, nv most, rfl, sub⟩
    refine ⟨nv r, rfl, rfl, _, rfl, ite2 (fun e => ?_) (fun e => ?_)⟩
    · exact tab_lc (n := 1 + r2) (ix := 4) (iy := 5) (F := fun x y => min x y) (by omega) (fun H' R h => ⟨_, rfl, h⟩) (fun x H' R hx h => ⟨_, rfl, h⟩) (fun x y H' R hx hy sm h => ⟨nv x, rfl, nv y, rfl, (x : Int), (y : Int), rfl, by
        have e : nv (min x y) = V.int (if (y : Int) < (x : Int) then (y : Int) else (x : Int)) := by
          by_cases hh : y < x
          · rw [if_pos (by omega), Nat.min_eq_right (by omega)]
          · rw [if_neg (by omega), Nat.min_eq_left (by omega)]
        rw [e] at h
        exact h⟩) (go (sg_min hn0))
    refine ⟨nv r, rfl, _, _, rfl, rfl, _, rfl, ite2 (fun e => ?_) (fun e => ?_)⟩
    · exact ⟨.ref aa, rfl, nv most, rfl, sub⟩
    · exact ⟨.ref aa, rfl, nv most, rfl, sub⟩
end
end K35
set_option Elab.async false
set_option linter.all false
set_option maxRecDepth 100000
set_option maxHeartbeats 4000000
namespace K35
open PySem PySem.Spec PyProof.Rows L2
/-- [te for x in range(n)], each item a new tuple -/
theorem rows_rg {n ix : Nat} {rowf : Nat → List Nat} {tn te : TE} {σ : L2.St} {H : Hp} {Q : VK} (hn : n ≤ 1000)
    (h1 : ∀ (H' : Hp) (R : VK), R (nv n) H' → tn σ H' R)
    (h3 : ∀ (x : Nat) (H' : Hp) (R : VK), x < n → Same H H' → (∀ (p : Addr) (H'' : Hp), Same H' H'' → H'' p = some (.tup ((rowf x).map nv)) → R (.ref p) H'') → te (s1 σ ix x) H' R)
    (q : ∀ (p : Addr) (H' : Hp), H p = none → Same H H' → TabL H' p ((List.range n).map rowf) → Q (.ref p) H') :
    tLc (iRng1 (tCons tn tNil)) (gName ix) tYes te [ix] σ H Q := by
  refine h1 H _ ⟨(n : Int), rfl, by omega, by omega, fun D nD => ?_⟩
  refine lc_rg (n := n) (fun i H3 => Same H H3 ∧ ∃ ps : List Addr, H3 D = some (.lst (ps.map V.ref)) ∧ Rows H3 ps (((List.range n).map rowf).take i)) ⟨sNew (Same.refl H) nD, [], upd_same, Rows.nil⟩ (fun i H3 hi h => ?_) (fun H3 h => ?_)
  · obtain ⟨sm, ps, eD, rD⟩ := h
    refine ⟨wipe_s1 σ ix i, ?_⟩
    refine h3 i H3 _ hi sm fun p H4 sm4 ep => ?_
    have eD4 := sm4 _ _ eD
    refine ⟨_, eD4, ?_, sNew (sm.trans sm4) nD, ps ++ [p], by rw [upd_same, List.map_append]; rfl, ?_⟩
    · rw [List.length_map, rD.len, List.length_take]; exact small1000 (by omega)
    · rw [List.take_add_one, List.getElem?_map, List.getElem?_range hi]
      exact ((rD.mono (sKt sm4)).snoc ep).mono (KT.lst eD4)
  · obtain ⟨sm, ps, eD, rD⟩ := h
    rw [take_all (by simp)] at rD
    exact q D H3 nD sm ⟨ps, eD, rD⟩
/-- [te for row in table], each item a new tuple -/
theorem rows_tab {K : PySem.W.Frag} {ix : Nat} {t : Addr} {T : List (List Nat)} {rowf : List Nat → List Nat} {tn te : TE} {σ : L2.St} {H : Hp} {Q : VK} (hn : T.length ≤ 1000) (ht : TabL H t T)
    (h1 : ∀ (H' : Hp) (R : VK), R (.ref t) H' → tn σ H' R)
    (h3 : ∀ (a : Addr) (r : List Nat) (H' : Hp) (R : VK), r ∈ T → Same H H' → H' a = some (.tup (r.map nv)) → (∀ (p : Addr) (H'' : Hp), Same H' H'' → H'' p = some (.tup ((rowf r).map nv)) → R (.ref p) H'') → te ((wipe σ [ix]).set ix (some (.ref a))) H' R)
    (q : ∀ (p : Addr) (H' : Hp), H p = none → Same H H' → TabL H' p (T.map rowf) → Q (.ref p) H') :
    tLc (iList K tn) (gName ix) tYes te [ix] σ H Q := by
  obtain ⟨qs, eF, rF⟩ := ht
  refine h1 H _ ⟨t, rfl, ⟨_, SqL.of eF⟩, fun D nD => ?_⟩
  refine lc_list (xs := qs.map V.ref) (fun i H6 => Same H H6 ∧ ∃ ps : List Addr, H6 D = some (.lst (ps.map V.ref)) ∧ Rows H6 ps ((T.map rowf).take i)) ⟨sNew (Same.refl H) nD, [], upd_same, Rows.nil⟩ (fun i H6 _ h => SqL.of (h.1 _ _ eF)) (fun i x H6 hx h => ?_) (fun H6 h => ?_)
  · obtain ⟨sm6, ps, eD, rD⟩ := h
    obtain ⟨qf, eqf, rfl⟩ := refs_at hx
    obtain ⟨r, efx, hfx⟩ := rF.to eqf
    refine ⟨?_, ?_⟩
    · show ((σ.set ix none).set ix (some (.ref qf))).set ix none = σ.set ix none
      rw [List.set_set, List.set_set]
    · refine h3 qf r H6 _ (List.mem_of_getElem? efx) sm6 (sm6 _ _ hfx) fun p H7 sm7 ep => ?_
      have eD4 := sm7 _ _ eD
      refine ⟨_, eD4, ?_, sNew (sm6.trans sm7) nD, ps ++ [p], by rw [upd_same, List.map_append]; rfl, ?_⟩
      · rw [List.length_map, rD.len, List.length_take, List.length_map]; exact small1000 (by omega)
      · rw [List.take_add_one, List.getElem?_map, efx]
        exact ((rD.mono (sKt sm7)).snoc ep).mono (KT.lst eD4)
  · obtain ⟨sm, ps, eD, rD⟩ := h
    rw [take_all (by rw [List.length_map, TabL.len eF rF])] at rD
    exact q D H6 nD sm ⟨ps, eD, rD⟩
theorem asg_of {te : TE} {g : TG} {D : Ends} {σ : L2.St} {H : Hp} (h : te σ H fun x H1 => g x σ H1 D.nx) : tAsg te g D σ H := h
theorem ret_op {r : R2} {ta tb : TE} {D : Ends} {σ : L2.St} {H : Hp} (h : ta σ H fun x H1 => tb σ H1 fun y H2 => r x y H2 D.rt) : tRet (tOp r ta tb) D σ H := h
theorem lst_tup {t : TE} {r : List V → Hp → VK → Prop} {σ : L2.St} {H : Hp} {Q : VK} (h : t σ H fun x H1 => r [x] H1 fun y H2 => [y].length ≤ sizeLine ∧ ∀ l, H2 l = none → Q (.ref l) (upd H2 l (.lst [y]))) : tLst (tCons (tCB r (tCons t tNil)) tNil) σ H Q := h
/-- [F x for x in range(n)] -/
theorem ints_rg {n ix : Nat} {F : Nat → Nat} {tn te : TE} {σ : L2.St} {H : Hp} {Q : VK} (hn : n ≤ 1000)
    (h1 : ∀ (R : VK), R (nv n) H → tn σ H R)
    (h3 : ∀ (x : Nat) (H' : Hp) (R : VK), x < n → Same H H' → R (nv (F x)) H' → te (s1 σ ix x) H' R)
    (q : ∀ (p : Addr) (H' : Hp), H p = none → Same H H' → H' p = some (.lst (((List.range n).map F).map nv)) → Q (.ref p) H') :
    tLc (iRng1 (tCons tn tNil)) (gName ix) tYes te [ix] σ H Q := by
  refine h1 _ ⟨(n : Int), rfl, by omega, by omega, fun D nD => ?_⟩
  refine lc_rg (n := n) (fun i H3 => Same H H3 ∧ H3 D = some (.lst ((((List.range n).map F).take i).map nv))) ⟨sNew (Same.refl H) nD, upd_same⟩ (fun i H3 hi h => ?_) (fun H3 h => ?_)
  · obtain ⟨sm, eD⟩ := h
    refine ⟨wipe_s1 σ ix i, ?_⟩
    refine h3 i H3 _ hi sm ⟨_, eD, ?_, sNew sm nD, ?_⟩
    · rw [nv_len, List.length_take]; exact small1000 (by omega)
    · rw [upd_same, List.take_add_one, row_at hi, List.map_append]; rfl
  · obtain ⟨sm, eD⟩ := h
    rw [take_all (rg_len n F)] at eD
    exact q D H3 nD sm eD
theorem rgV_nat (n : Nat) : rgV 0 (n : Int) = (List.range n).map nv := by
  unfold rgV
  have e : ((n : Int) - 0).toNat = n := by omega
  rw [e]
  apply List.map_congr_left
  intro i _
  show V.int (0 + (i : Int)) = V.int (i : Int)
  rw [Int.zero_add]
theorem Rows.cat1 {H : Hp} {qs : List Addr} {T : List (List Nat)} {q : Addr} {r : List Nat} (h : Rows H qs T) (e : H q = some (.tup (r.map nv))) : Rows H (qs ++ [q]) (T ++ [r]) := h.snoc e
abbrev nExtd : List Str := ["_law_state_here", "_law_table", "_law_most", "_law_n", "_law_pick", "_law_second", "_law_x", "_law_y", "_law_row"]
section
variable {P : Program} {w : World} {K : PySem.W.Frag} {mg : Str → Option Value} {base : Heap}
def spExtd : Sp := fun vs H Q _ => ∃ (a t : Addr) (n most : Nat) (T : List (List Nat)), vs = [.ref a, .ref t, nv most] ∧ (most = 4 ∨ most = 5) ∧ LawSt H a ∧ TabL H t T ∧ Sg n T ∧ n ≤ most ∧
  ∀ (n' : Nat) (T' : List (List Nat)) (p : Addr) (H' : Hp), Sg n' T' → n' ≤ most → Kp a H H' → TabL H' p T' → Q (.ref p) H'
theorem ok_extd {f fT : Addr} {fd fdT : FuncData} {k : Nat} (F : Fun K "_law_extended" "_law_extended" sExtd f fd)
    (GT : FnOk P w K mg base CX0 k fT fdT ["_law_state_here", "_law_m"] spTake) (bT : Binds K fdT ["_law_state_here", "_law_m"] []) (kT : PySem.W.keepIn K (.ref fT) = true) (gT : mg "_law_take" = some (.ref fT))
    (m_range : mg "range" = none) (m_tuple : mg "tuple" = none) (m_len : mg "len" = none) (m_int : mg "int" = none) : FnOk P w K mg base CX0 (k + 1) f fd ["_law_state_here", "_law_table", "_law_most"] spExtd := by
  refine F.ok scExtd (fun vs H Q E h => ?_) (fun cdv A outer s H vs Q E hr h => ?_)
  · obtain ⟨a, t, n, m, T, rfl, _⟩ := h
    rfl
  · obtain ⟨aa, t, n, most, T, rfl, hmost, hst, tT, sg, hn, q⟩ := h
    have hn5 : n ≤ 5 := by omega
    have hn0 : 0 < n := sg.pos
    -- the cat of a table and a row
    have fin : ∀ {H1 H2 : Hp} {p1 q1 : Addr} {T1 : List (List Nat)} {row : List Nat}, Kp aa H H1 → Same H1 H2 → TabL H2 p1 T1 → T1.length = n → H2 q1 = some (.tup (row.map nv)) → Sg (n + 1) (T1 ++ [row]) → n < most →
        [V.ref q1].length ≤ sizeLine ∧ ∀ l, H2 l = none → rCat (.ref p1) (.ref l) (upd H2 l (.lst [.ref q1])) Q := by
      intro H1 H2 p1 q1 T1 row kp sm t1 l1 e1 sg' hlt
      refine ⟨by show 1 ≤ sizeLine; decide, fun l nl => ?_⟩
      obtain ⟨ps, ep, rp⟩ := id t1
      have pl : p1 ≠ l := ne_of_none ep nl
      refine ⟨p1, l, ps.map V.ref, [.ref q1], rfl, rfl, by rw [upd_ne pl]; exact ep, upd_same, ?_, fun z nz => ?_⟩
      · rw [TabL.len ep rp, l1]; exact Nat.succ_le_of_lt (small1000 (by omega))
      · have kp2 := kp.trans (sKp sm kp.st)
        have la := kp2.ne nl
        have nz2 : H2 z = none := by
          by_cases hz : z = l
          · subst hz; exact nl
          · rw [upd_ne hz] at nz; exact nz
        have za := kp2.ne nz2
        have kp3 := kp2.upd_new (o := .lst [.ref q1]) (kp2.free la nl) la
        have kp4 := kp3.upd_new (o := .lst (ps.map V.ref ++ [.ref q1])) (kp3.free za nz) za
        refine q (n + 1) _ z _ sg' hlt kp4 ⟨ps ++ [q1], by rw [upd_same, List.map_append]; rfl, ?_⟩
        exact (((rp.mono (KT.new nl)).mono (KT.new nz)).snoc (by rw [upd_ne (ne_of_none (by rw [upd_ne (ne_of_none e1 nl)]; exact e1) nz), upd_ne (ne_of_none e1 nl)]; exact e1))
    -- product, and the table itself
    have two : ∀ (c : Bool), Sg (2 * n) (tabF (2 * n) fun x y => 2 * el T (x / 2) (y / 2) + twoF c (x % 2) (y % 2)) := fun c => sg_prod sg (fun x y hx hy => by unfold twoF; cases c <;> rcases (show x = 0 ∨ x = 1 by omega) with rfl | rfl <;> rcases (show y = 0 ∨ y = 1 by omega) with rfl | rfl <;> decide)
      (fun x y z hx hy hz => by unfold twoF; cases c <;> rcases (show x = 0 ∨ x = 1 by omega) with rfl | rfl <;> rcases (show y = 0 ∨ y = 1 by omega) with rfl | rfl <;> rcases (show z = 0 ∨ z = 1 by omega) with rfl | rfl <;> decide)
    obtain ⟨u6, hu6, ru6⟩ : ∃ u, PSs (cxOf CX0 P w K mg base nExtd "_law_extended" (defScope sExtd) f cdv A outer s H E).nox [ifB ((defBody sExtd).getD 5 (.Pass ⟨0, 0, 0, 0⟩)) 2] u ∧
        ∀ (H5 : Hp) (r : Nat) (l : Addr) (c : Bool) (N : L2.St → Hp → Prop), Kp aa H H5 → TabL H5 l (tabF 2 (twoF c)) → 2 * n ≤ most → u { nx := N, rt := Q } [some (.ref aa), some (.ref t), some (nv most), some (nv n), some (nv r), some (.ref l), none, none, none] H5 := by
      refine ⟨_, (pss_one (ps_ret (pe_lc (own := [("_law_x", 6)]) (g := gName 6) (tt := tYes) rfl scExtd.nd (pi_range1 (by rfl) m_range (pa_cons (pe_op op_mul pe_int (pv 3)) pa_nil)) (blkOk_by (N := nExtd) (sc := defScope sExtd) (by decide +kernel)) (fun _ _ _ _ _ => pg_name (i := 6) scExtd.nd rfl (by first | exact .inl rfl | exact .inr rfl)) (fun _ _ _ _ _ => pts_nil) (fun _ _ _ _ _ => (pe_callTy (cTup K) (by rfl) m_tuple PyProof.Rows.boot_tuple (pa_cons (pe_lc (own := [("_law_y", 7)]) (g := gName 7) (tt := tYes) rfl scExtd.nd (pi_range1 (by rfl) m_range (pa_cons (pe_op op_mul pe_int (pv 3)) pa_nil)) (blkOk_by (N := nExtd) (sc := relS (lcS (stE (ifB ((defBody sExtd).getD 5 (.Pass ⟨0, 0, 0, 0⟩)) 2))) (defScope sExtd)) (by decide +kernel)) (fun _ _ _ _ _ => pg_name (i := 7) scExtd.nd rfl (by first | exact .inl rfl | exact .inr rfl)) (fun _ _ _ _ _ => pts_nil) (fun _ _ _ _ _ => (pe_op op_add (pe_op op_mul pe_int (pe_ix (ixT K) (pe_ix (ixL K) (pv 1) (pe_op op_fdiv (pv 6) pe_int) (fun _ _ => rfl)) (pe_op op_fdiv (pv 7) pe_int) (fun _ _ => rfl))) (pe_ix (ixT K) (pe_ix (ixL K) (pv 5) (pe_op op_mod (pe_callTy call_int1 (by rfl) m_int PyProof.Rows.boot_int (pa_cons (pv 6) pa_nil)) pe_int) (fun _ _ => rfl)) (pe_op op_mod (pe_callTy call_int1 (by rfl) m_int PyProof.Rows.boot_int (pa_cons (pv 7) pa_nil)) pe_int) (fun _ _ => rfl))))) pa_nil)))))), ?_⟩
      intro H5 r l c N kp tl hle
      have tT5 := tT.kp hst kp
      refine tab_lc (n := 2 * n) (ix := 6) (iy := 7) (F := fun x y => 2 * el T (x / 2) (y / 2) + twoF c (x % 2) (y % 2)) (by omega) (fun H' R h => ?_) (fun x H' R hx h => ?_) (fun x y H' R hx hy sm h => ?_) (fun p H' np sm tp => ?_)
      · exact ⟨nv n, rfl, 2, (n : Int), rfl, rfl, .inl ⟨by decide, by decide⟩, h⟩
      · exact ⟨nv n, rfl, 2, (n : Int), rfl, rfl, .inl ⟨by decide, by decide⟩, h⟩
      · have tT6 := tT5.same sm
        have tl6 := tl.same sm
        obtain ⟨rw_, er, ev⟩ := sg.at (x := x / 2) (y := y / 2) (by omega) (by omega)
        obtain ⟨qs', q', e1, e2, e3, e4⟩ := tT6.at er ev
        obtain ⟨qs2, q2, f1, f2, f3, f4⟩ := tl6.at (x := x % 2) (y := y % 2) (tabF_at (Nat.mod_lt _ (by decide))) (row_at (Nat.mod_lt _ (by decide)))
        have hb : (x / 2 : Nat) < 10 := by omega
        have hv := sg.lt (x / 2) (y / 2) (by omega) (by omega)
        have step : ∃ z, z = z := ⟨0, rfl⟩
        refine ⟨.ref t, rfl, nv x, rfl, (x : Int), 2, rfl, rfl, ⟨by decide, by decide⟩, t, _, ((x / 2 : Nat) : Int), .ref q', rfl, rfl, SqL.of e1, atI_nat e2, ?_⟩
        refine ⟨nv y, rfl, (y : Int), 2, rfl, rfl, ⟨by decide, by decide⟩, q', _, ((y / 2 : Nat) : Int), _, rfl, rfl, SqT.of e3, atI_nat e4, ?_⟩
        refine ⟨2, ((el T (x / 2) (y / 2) : Nat) : Int), rfl, rfl, .inl ⟨by decide, by decide⟩, ?_⟩
        refine ⟨.ref l, rfl, nv x, rfl, .inl ⟨(x : Int), rfl, _, 2, rfl, rfl, (show (0 : Int) < 2 from by decide), l, _, ((x % 2 : Nat) : Int), .ref q2, rfl, rfl, SqL.of f1, atI_nat f2, ?_⟩⟩
        refine ⟨nv y, rfl, .inl ⟨(y : Int), rfl, _, 2, rfl, rfl, (show (0 : Int) < 2 from by decide), q2, _, ((y % 2 : Nat) : Int), _, rfl, rfl, SqT.of f3, atI_nat f4, _, _, rfl, rfl, h⟩⟩
      · exact q (2 * n) _ p H' (two c) hle (kp.trans (sKp sm kp.st)) tp
    obtain ⟨u5, hu5, ru5⟩ : ∃ u, PSs (cxOf CX0 P w K mg base nExtd "_law_extended" (defScope sExtd) f cdv A outer s H E).nox ((defBody sExtd).drop 5) u ∧
        ∀ (H5 : Hp) (r : Nat), Kp aa H H5 → u { nx := fun _ H' => Q .non H', rt := Q } [some (.ref aa), some (.ref t), some (nv most), some (nv n), some (nv r), none, none, none, none] H5 := by
      refine ⟨_, (pss_cons (ps_if (PW.pt (pw_and (pt_cmpR op_eq (pv 4) pe_int (nomark _)) (pw_and1 (pt_cmpR op_le (pe_op op_mul pe_int (pv 3)) (pv 2) (nomark _))))) (pss_cons (ps_set (i := 5) scExtd.nd rfl (.inr rfl) (pe_lst (pa_cons (pe_tup (pa_cons pe_int (pa_cons pe_int pa_nil))) (pa_cons (pe_tup (pa_cons pe_int (pa_cons pe_int pa_nil))) pa_nil))))
  (pss_cons (ps_if (pt_cmpR op_eq (pe_call GT hr (by rfl) gT kT bT .nil pass0 (pa_cons (pv 0) (pa_cons pe_int pa_nil))) pe_int (nomark _))
  (pss_one (ps_set (i := 5) scExtd.nd rfl (.inr rfl) (pe_lst (pa_cons (pe_tup (pa_cons pe_int (pa_cons pe_int pa_nil))) (pa_cons (pe_tup (pa_cons pe_int (pa_cons pe_int pa_nil))) pa_nil)))))
  pss_nil)
  hu6)) pss_nil)
  (pss_one (ps_ret (pv 1)))), ?_⟩
      intro H5 r kp
      have tT5 := tT.kp hst kp
      have keep : Q (.ref t) H5 := q n T t H5 sg hn kp tT5
      refine ⟨nv r, rfl, rfl, _, rfl, ite2 (fun e => ?_) (fun e => ?_)⟩
      · refine ⟨nv n, rfl, 2, (n : Int), rfl, rfl, .inl ⟨by decide, by decide⟩, nv most, rfl, _, (most : Int), rfl, rfl, _, rfl, ite2 (fun e2 => ?_) (fun e2 => ⟨_, rfl, keep⟩)⟩
        have hle : 2 * n ≤ most := by have := of_decide_eq_true e2; omega
        have lay : ∀ (σ : L2.St) (a b c d : Nat) (H6 : Hp) (R : VK), Kp aa H5 H6 → (∀ (l : Addr) (H7 : Hp), Kp aa H5 H7 → TabL H7 l [[a, b], [c, d]] → R (.ref l) H7) →
            tLst (tCons (tTup (tCons (tC (nv a)) (tCons (tC (nv b)) tNil))) (tCons (tTup (tCons (tC (nv c)) (tCons (tC (nv d)) tNil))) tNil)) σ H6 R := fun σ a b c d H6 R kp6 h => by
          refine ⟨by show 2 ≤ sizeLine; decide, fun z1 n1 => ⟨by show 2 ≤ sizeLine; decide, fun z2 n2 => ⟨by show 2 ≤ sizeLine; decide, fun l nl => ?_⟩⟩⟩
          have z1a := kp6.ne n1
          have kp7 := kp6.upd_new (o := .tup [nv a, nv b]) (kp6.free z1a n1) z1a
          have z2a := kp7.ne n2
          have kp8 := kp7.upd_new (o := .tup [nv c, nv d]) (kp7.free z2a n2) z2a
          have la := kp8.ne nl
          have kp9 := kp8.upd_new (o := .lst [.ref z1, .ref z2]) (kp8.free la nl) la
          refine h l _ kp9 ⟨[z1, z2], upd_same, ?_⟩
          have e1 : (upd (upd H6 z1 (.tup [nv a, nv b])) z2 (.tup [nv c, nv d])) z1 = some (.tup [nv a, nv b]) := by rw [upd_ne (ne_of_none upd_same n2)]; exact upd_same
          exact (((Rows.nil.snoc (r := [a, b]) e1).snoc (r := [c, d]) upd_same).mono (KT.new nl))
        refine seq_asg ?_
        refine lay _ 0 0 0 1 H5 _ (Kp.refl kp.st) fun l1 H6 kp6 t1 => ?_
        refine ⟨.ref aa, rfl, aa, 2, rfl, by decide, by decide, kp6.st, fun r4 S4 T4 hr4 hS4 => ⟨rfl, _, rfl, ite2 (fun e3 => ?_) (fun e3 => ?_)⟩⟩
        · refine asg_of ?_
          refine lay _ 0 1 1 0 _ _ (kp6.upd_st hS4) fun l2 H8 kp8 t8 => ?_
          exact ru6 H8 r l2 true _ (kp.trans kp8) t8 hle
        · exact ru6 _ r l1 false _ ((kp.trans kp6).upd_st hS4) (t1.kp kp6.st ((Kp.refl kp6.st).upd_st hS4)) hle
      · exact ⟨_, rfl, keep⟩
    obtain ⟨u4, hu4, ru4⟩ : ∃ u, PSs (cxOf CX0 P w K mg base nExtd "_law_extended" (defScope sExtd) f cdv A outer s H E).nox ((defBody sExtd).drop 4) u ∧
        ∀ (H5 : Hp) (r : Nat), Kp aa H H5 → u { nx := fun _ H' => Q .non H', rt := Q } [some (.ref aa), some (.ref t), some (nv most), some (nv n), some (nv r), none, none, none, none] H5 := by
      refine ⟨_, (pss_cons (ps_if (PW.pt (pw_and (pt_cmpR op_eq (pv 4) pe_int (nomark _)) (pw_and1 (pt_cmpR op_lt (pv 3) (pv 2) (nomark _)))))
  (pss_one (ps_ret (pe_op op_cat (pe_lc (own := [("_law_x", 6)]) (g := gName 6) (tt := tYes) rfl scExtd.nd (pi_range1 (by rfl) m_range (pa_cons (pv 3) pa_nil)) (blkOk_by (N := nExtd) (sc := defScope sExtd) (by decide +kernel)) (fun _ _ _ _ _ => pg_name (i := 6) scExtd.nd rfl (by first | exact .inl rfl | exact .inr rfl)) (fun _ _ _ _ _ => pts_nil) (fun _ _ _ _ _ => (pe_op (oCatA K) (pe_ix (ixL K) (pv 1) (pv 6) (fun _ _ => rfl)) (pe_tup (pa_cons (pv 6) pa_nil))))) (pe_lst (pa_cons (pe_tupRg rfl (by rfl) m_tuple (prg_1 (by rfl) m_range (pe_op op_add (pv 3) pe_int))) pa_nil)))))
  pss_nil)
  hu5), ?_⟩
      intro H5 r kp
      have tT5 := tT.kp hst kp
      refine ⟨nv r, rfl, rfl, _, rfl, ite2 (fun e => ?_) (fun e => ru5 H5 r kp)⟩
      refine ⟨nv n, rfl, nv most, rfl, (n : Int), (most : Int), rfl, rfl, _, rfl, ite2 (fun e2 => ?_) (fun e2 => ru5 H5 r kp)⟩
      have hlt : n < most := by have := of_decide_eq_true e2; omega
      refine ret_op ?_
      refine rows_rg (n := n) (ix := 6) (rowf := fun x => T.getD x [] ++ [x]) (by omega) (fun H' R h => ⟨_, rfl, h⟩) (fun x H' R hx sm h => ?_) (fun p H' np sm tp => ?_)
      · obtain ⟨row, er, _⟩ := sg.at hx hx
        obtain ⟨ps, q', e1, e2', e3⟩ : ∃ (ps : List Addr) (q' : Addr), H' t = some (.lst (ps.map V.ref)) ∧ (ps.map V.ref)[x]? = some (.ref q') ∧ H' q' = some (.tup (row.map nv)) := by
          obtain ⟨ps, e, rw_⟩ := tT5.same sm
          obtain ⟨q', h1, h2⟩ := rw_.get er
          exact ⟨ps, q', e, by rw [List.getElem?_map, h1]; rfl, h2⟩
        have eg : T.getD x [] = row := by rw [List.getD_eq_getElem?_getD, er]; rfl
        have hrow : row.length = n := sg.row row (List.mem_of_getElem? er)
        refine ⟨.ref t, rfl, nv x, rfl, t, _, (x : Int), .ref q', rfl, rfl, SqL.of e1, atI_nat e2', nv x, rfl, by show 1 ≤ sizeLine; decide, fun z nz => ?_⟩
        have nzq := ne_of_none e3 nz
        refine ⟨q', z, row.map nv, [nv x], rfl, rfl, SqT.of (by rw [upd_ne nzq]; exact e3), SqT.of upd_same, ?_, fun e => ?_, fun _ e => (nomatch e), fun _ _ y ny => ?_⟩
        · rw [nv_len, hrow]; exact Nat.succ_le_of_lt (small1000 (by omega))
        · have := congrArg List.length e
          rw [nv_len, hrow] at this
          simp at this; omega
        · refine h y _ (fun b o e => ?_) (by rw [upd_same, eg, List.map_append]; rfl)
          rw [upd_ne (ne_of_none (by rw [upd_ne (ne_of_none e nz)]; exact e) ny), upd_ne (ne_of_none e nz)]
          exact e
      · refine ⟨nv n, rfl, _, 1, rfl, rfl, (((n : Nat) : Int) + 1), rfl, RgOk.of_le (by omega) (by omega) (by omega) (by omega), fun z nz => ?_⟩
        refine fin kp (sNew sm (sFree sm nz)) (tp.beside nz) (by simp) (row := List.range (n + 1)) ?_ (sg_unit sg) hlt
        rw [upd_same]
        exact congrArg (fun x => some (HO.tup x)) (rgV_nat (n + 1))
    refine ⟨_, (pss_cons (ps_set (i := 3) scExtd.nd rfl (.inr rfl) (pe_callB (cLen K) (by rfl) m_len PySem.boot_len (pa_cons (pv 1) pa_nil)))
  (pss_cons (ps_set (i := 4) scExtd.nd rfl (.inl rfl) (pe_call GT hr (by rfl) gT kT bT .nil pass0 (pa_cons (pv 0) (pa_cons pe_int pa_nil))))
  (pss_cons (ps_if (pt_cmpR op_eq (pv 4) pe_int (nomark _))
  (pss_one (ps_ret (pe_lc (own := [("_law_x", 6)]) (g := gName 6) (tt := tYes) rfl scExtd.nd (pi_range1 (by rfl) m_range (pa_cons (pv 3) pa_nil)) (blkOk_by (N := nExtd) (sc := defScope sExtd) (by decide +kernel)) (fun _ _ _ _ _ => pg_name (i := 6) scExtd.nd rfl (by first | exact .inl rfl | exact .inr rfl)) (fun _ _ _ _ _ => pts_nil) (fun _ _ _ _ _ => (pe_callTy (cTup K) (by rfl) m_tuple PyProof.Rows.boot_tuple (pa_cons (pe_lc (own := [("_law_y", 7)]) (g := gName 7) (tt := tYes) rfl scExtd.nd (pi_range1 (by rfl) m_range (pa_cons (pv 3) pa_nil)) (blkOk_by (N := nExtd) (sc := relS (lcS (stE (ifB ((defBody sExtd).getD 2 (.Pass ⟨0, 0, 0, 0⟩)) 0))) (defScope sExtd)) (by decide +kernel)) (fun _ _ _ _ _ => pg_name (i := 7) scExtd.nd rfl (by first | exact .inl rfl | exact .inr rfl)) (fun _ _ _ _ _ => pts_nil) (fun _ _ _ _ _ => (pe_ix (ixT K) (pe_ix (ixL K) (pv 1) (pv 7) (fun _ _ => rfl)) (pv 6) (fun _ _ => rfl)))) pa_nil))))))
  pss_nil)
  (pss_cons (ps_if (PW.pt (pw_and (pt_cmpR op_eq (pv 4) pe_int (nomark _)) (pw_and1 (pt_cmpR op_lt (pv 3) (pv 2) (nomark _)))))
  (pss_one (ps_ret (pe_op op_cat (pe_lc (own := [("_law_row", 8)]) (g := gName 8) (tt := tYes) rfl scExtd.nd (piL K (pv 1)) (blkOk_by (N := nExtd) (sc := defScope sExtd) (by decide +kernel)) (fun _ _ _ _ _ => pg_name (i := 8) scExtd.nd rfl (by first | exact .inl rfl | exact .inr rfl)) (fun _ _ _ _ _ => pts_nil) (fun _ _ _ _ _ => (pe_op (oCatA K) (pv 8) (pe_tup (pa_cons (pv 3) pa_nil))))) (pe_lst (pa_cons (pe_callTy (cTup K) (by rfl) m_tuple PyProof.Rows.boot_tuple (pa_cons (pe_lc (own := [("_law_y", 7)]) (g := gName 7) (tt := tYes) rfl scExtd.nd (pi_range1 (by rfl) m_range (pa_cons (pe_op op_add (pv 3) pe_int) pa_nil)) (blkOk_by (N := nExtd) (sc := defScope sExtd) (by decide +kernel)) (fun _ _ _ _ _ => pg_name (i := 7) scExtd.nd rfl (by first | exact .inl rfl | exact .inr rfl)) (fun _ _ _ _ _ => pts_nil) (fun _ _ _ _ _ => (pv 3))) pa_nil)) pa_nil)))))
  pss_nil)
  hu4)))), ?_⟩
    obtain ⟨qs, et, rT⟩ := id tT
    have lT : (qs.map V.ref).length = n := by rw [TabL.len et rT, sg.len]
    refine ⟨.ref t, rfl, t, _, rfl, .inl (SqL.of et), ?_⟩
    rw [lT]
    refine ⟨.ref aa, rfl, aa, 6, rfl, by decide, by decide, hst, fun r S Z hr2 hS => ?_⟩
    have kp1 := (Kp.refl hst).upd_st (T := Z) hS
    have tT1 := tT.kp hst kp1
    refine ⟨nv r, rfl, rfl, _, rfl, ite2 (fun e => ?_) (fun e => ?_)⟩
    · refine tab_lc (n := n) (ix := 6) (iy := 7) (F := fun x y => el T y x) (by omega) (fun H' R h => ⟨_, rfl, h⟩) (fun x H' R hx h => ⟨_, rfl, h⟩) (fun x y H' R hx hy sm h => ?_) (fun p H' np sm tp => ?_)
      · have tT2 := tT1.same sm
        obtain ⟨rw_, er, ev⟩ := sg.at hy hx
        obtain ⟨qs', q', e1, e2, e3, e4⟩ := tT2.at er ev
        exact ⟨.ref t, rfl, nv y, rfl, t, _, (y : Int), .ref q', rfl, rfl, SqL.of e1, atI_nat e2, nv x, rfl, q', _, (x : Int), _, rfl, rfl, SqT.of e3, atI_nat e4, h⟩
      · have pa := kp1.ne np
        exact q n _ p H' (sg_opp sg) hn (kp1.trans (sKp sm kp1.st)) tp
    refine ⟨nv r, rfl, rfl, _, rfl, ite2 (fun e => ?_) (fun e => ru4 _ r kp1)⟩
    refine ⟨nv n, rfl, nv most, rfl, (n : Int), (most : Int), rfl, rfl, _, rfl, ite2 (fun e2 => ?_) (fun e2 => ru4 _ r kp1)⟩
    have hlt : n < most := by have := of_decide_eq_true e2; omega
    refine ret_op ?_
    refine rows_tab (ix := 8) (T := T) (t := t) (rowf := fun row => row ++ [n]) (by rw [sg.len]; omega) tT1 (fun H' R h => ⟨_, rfl, h⟩) (fun a row H' R hrow sm ea h => ?_) (fun p H' np sm tp => ?_)
    · have hl : row.length = n := sg.row row hrow
      refine ⟨.ref a, rfl, nv n, rfl, by show 1 ≤ sizeLine; decide, fun z nz => ?_⟩
      have nzq := ne_of_none ea nz
      refine ⟨a, z, row.map nv, [nv n], rfl, rfl, SqT.of (by rw [upd_ne nzq]; exact ea), SqT.of upd_same, ?_, fun e => ?_, fun _ e => (nomatch e), fun _ _ y ny => ?_⟩
      · rw [nv_len, hl]; exact Nat.succ_le_of_lt (small1000 (by omega))
      · have := congrArg List.length e
        rw [nv_len, hl] at this
        simp at this; omega
      · refine h y _ (fun b o e => ?_) (by rw [upd_same, List.map_append]; rfl)
        rw [upd_ne (ne_of_none (by rw [upd_ne (ne_of_none e nz)]; exact e) ny), upd_ne (ne_of_none e nz)]
        exact e
    · refine lst_tup ?_
      refine ints_rg (n := n + 1) (ix := 7) (F := fun _ => n) (by omega) (fun R h => ⟨_, rfl, _, 1, rfl, rfl, h⟩) (fun x H' R hx sm h => ⟨_, rfl, h⟩) (fun p2 H2 np2 sm2 e2 => ?_)
      refine ⟨p2, _, rfl, .inl ⟨SqL.of e2, fun z nz => ?_⟩⟩
      have sm3 := sm.trans sm2
      exact fin kp1 (sNew sm3 (sFree sm3 nz)) ((tp.same sm2).beside nz) (by rw [List.length_map, sg.len]) upd_same (sg_zero sg) hlt
end
end K35
set_option Elab.async false
set_option linter.all false
set_option maxRecDepth 100000
set_option maxHeartbeats 4000000
namespace K35
open PySem PySem.Spec PyProof.Rows L2
abbrev nSemi : List Str := ["_law_state_here", "_law_most", "_law_table"]
section
variable {P : Program} {w : World} {K : PySem.W.Frag} {mg : Str → Option Value} {base : Heap}
theorem ok_semi {f fP fE fR fO : Addr} {fd fdP fdE fdR fdO : FuncData} {k : Nat} (F : Fun K "_law_semigroup" "_law_semigroup" sSemi f fd)
    (GP : FnOk P w K mg base CX0 k fP fdP ["_law_state_here", "_law_most"] spBuild) (bP : Binds K fdP ["_law_state_here", "_law_most"] []) (kP : PySem.W.keepIn K (.ref fP) = true) (gP : mg "_law_plain" = some (.ref fP))
    (GE : FnOk P w K mg base CX0 k fE fdE ["_law_state_here", "_law_table", "_law_most"] spExtd) (bE : Binds K fdE ["_law_state_here", "_law_table", "_law_most"] []) (kE : PySem.W.keepIn K (.ref fE) = true) (gE : mg "_law_extended" = some (.ref fE))
    (GR : FnOk P w K mg base CX0 k fR fdR ["_law_table", "_law_order"] spRen) (bR : Binds K fdR ["_law_table", "_law_order"] []) (kR : PySem.W.keepIn K (.ref fR) = true) (gR : mg "_law_renamed" = some (.ref fR))
    (GO : FnOk P w K mg base CX0 k fO fdO ["_law_state_here", "_law_n"] spOrder) (bO : Binds K fdO ["_law_state_here", "_law_n"] []) (kO : PySem.W.keepIn K (.ref fO) = true) (gO : mg "_law_order_of" = some (.ref fO))
    (m_len : mg "len" = none) : FnOk P w K mg base CX0 (k + 1) f fd ["_law_state_here", "_law_most"] spBuild := by
  refine F.ok scSemi (fun vs H Q E h => ?_) (fun cdv A outer s H vs Q E hr h => ?_)
  · obtain ⟨a, m, rfl, _⟩ := h
    rfl
  · obtain ⟨aa, most, rfl, hmost, hst, q⟩ := h
    refine ⟨_, pss_cons (ps_set (i := 2) scSemi.nd rfl (.inl rfl) (pe_call GE hr (by rfl) gE kE bE .nil pass0 (pa_cons (pv 0) (pa_cons (pe_call GP hr (by rfl) gP kP bP .nil pass0 (pa_cons (pv 0) (pa_cons (pv 1) pa_nil))) (pa_cons (pv 1) pa_nil)))))
      (pss_one (ps_ret (pe_call GR hr (by rfl) gR kR bR .nil pass0 (pa_cons (pv 2) (pa_cons (pe_call GO hr (by rfl) gO kO bO .nil pass0 (pa_cons (pv 0) (pa_cons (pe_callB (cLen K) (by rfl) m_len PySem.boot_len (pa_cons (pv 2) pa_nil)) pa_nil))) pa_nil))))), ?_⟩
    refine ⟨.ref aa, rfl, .ref aa, rfl, nv most, rfl, aa, most, rfl, hmost, hst, fun n T p H1 sg hn np kp tp => ?_⟩
    refine ⟨nv most, rfl, aa, p, n, most, T, rfl, hmost, kp.st, tp, sg, hn, fun n2 T2 p2 H2 sg2 hn2 kp2 tp2 => ?_⟩
    have k2 := kp.trans kp2
    obtain ⟨qs, et, rT⟩ := id tp2
    refine ⟨.ref p2, rfl, .ref aa, rfl, .ref p2, rfl, p2, _, rfl, .inl (SqL.of et), aa, n2, ?_, by omega, k2.st, fun o po H3 od npo kp3 eo => ?_⟩
    · rw [TabL.len et rT, sg2.len]; rfl
    · refine ⟨p2, po, n2, T2, o, rfl, by omega, sg2, tp2.kp k2.st kp3, od, eo, fun p4 H4 R np4 sm tp4 ren => ?_⟩
      have k3 := k2.trans kp3
      exact q n2 R p4 H4 (sg_ren sg2 od ren) hn2 (k3.free (k3.ne np4) np4) (k3.trans (sKp sm k3.st)) tp4
end
end K35
set_option Elab.async false
set_option linter.all false
set_option maxRecDepth 100000
set_option maxHeartbeats 4000000
namespace K35
open PySem PySem.Spec PyProof.Rows L2
abbrev nRows : List Str := ["_law_n", "_law_count", "_law_found", "_law_k", "_law_longer", "_law_row", "_law_x"]
theorem small2000 {n : Nat} (h : n ≤ 2000) : n < sizeLine := Nat.lt_of_le_of_lt h (by show 2000 < 2 ^ 24; decide)
/-- two tables joined -/
theorem Rows.append {H : Hp} {qs ps : List Addr} {T S : List (List Nat)} (h : Rows H qs T) (g : Rows H ps S) : Rows H (qs ++ ps) (T ++ S) := by
  have hl := h.len
  refine ⟨by rw [List.length_append, List.length_append, h.len, g.len], fun i q r e1 e2 => ?_⟩
  by_cases hi : i < qs.length
  · rw [List.getElem?_append_left hi] at e1
    rw [List.getElem?_append_left (by omega)] at e2
    exact h.at_ i q r e1 e2
  · rw [List.getElem?_append_right (by omega)] at e1
    rw [List.getElem?_append_right (by omega), ← hl] at e2
    exact g.at_ _ q r e1 e2
/-- the longer rows of the first i rows -/
def grown (m : Nat) (L : List (List Nat)) : List (List Nat) := L.flatMap fun row => (List.range m).map fun x => row ++ [x]
theorem grown_snoc (m : Nat) (L : List (List Nat)) (r : List Nat) : grown m (L ++ [r]) = grown m L ++ (List.range m).map fun x => r ++ [x] := by
  unfold grown
  rw [List.flatMap_append]
  simp
theorem grown_len (m : Nat) (L : List (List Nat)) : (grown m L).length = L.length * m := by
  unfold grown
  rw [List.length_flatMap]
  have e : (List.map (fun row => ((List.range m).map fun x => row ++ [x]).length) L) = List.map (fun _ => m) L := by
    apply List.map_congr_left
    intro a _
    simp
  rw [e, List.map_const', List.sum_replicate_nat]
section
variable {P : Program} {w : World} {K : PySem.W.Frag} {mg : Str → Option Value} {base : Heap}
def spRows : Sp := fun vs H Q _ => ∃ (m c : Nat), vs = [nv m, nv c] ∧ 1 ≤ m ∧ m ≤ 4 ∧ c ≤ 5 ∧ ∀ (p : Addr) (H' : Hp), H p = none → Same H H' → TabL H' p (rowsF m c) → Q (.ref p) H'
theorem ok_rows {f : Addr} {fd : FuncData} {k : Nat} (F : Fun K "_law_rows_of" "_law_rows_of" sRows f fd) (m_range : mg "range" = none) (m_list : mg "list" = none) : FnOk P w K mg base CX0 (k + 1) f fd ["_law_n", "_law_count"] spRows := by
  refine F.ok scRows (fun vs H Q E h => ?_) (fun cdv A outer s H vs Q E hr h => ?_)
  · obtain ⟨m, c, rfl, _⟩ := h
    rfl
  · obtain ⟨m, c, rfl, hm1, hm, hc, q⟩ := h
    refine ⟨_, (pss_cons (ps_set (i := 2) scRows.nd rfl (.inl rfl) (pe_lst (pa_cons (pe_tup pa_nil) pa_nil)))
  (pss_cons (ps_for PassesOwn.never rfl (pi_range1 (by rfl) m_range (pa_cons (pv 1) pa_nil)) (pg_name (i := 3) scRows.nd rfl (.inl rfl))
  (pss_cons (ps_set (i := 4) scRows.nd rfl (.inl rfl) (pe_lst pa_nil))
  (pss_cons (ps_for PassesOwn.never rfl (piL K (pv 2)) (pg_name (i := 5) scRows.nd rfl (.inr rfl))
  (pss_one (ps_set (i := 4) scRows.nd rfl (.inl rfl) (pe_op op_cat (pv 4) (pe_lc (own := [("_law_x", 6)]) (g := gName 6) (tt := tYes) rfl scRows.nd (pi_range1 (by rfl) m_range (pa_cons (pv 0) pa_nil)) (blkOk_by (N := nRows) (sc := defScope sRows) (by decide +kernel)) (fun _ _ _ _ _ => pg_name (i := 6) scRows.nd rfl (by first | exact .inl rfl | exact .inr rfl)) (fun _ _ _ _ _ => pts_nil) (fun _ _ _ _ _ => (pe_op (oCatA K) (pv 5) (pe_tup (pa_cons (pv 6) pa_nil)))))))))
  (pss_one (ps_set (i := 2) scRows.nd rfl (.inl rfl) (pe_callTy (cList K) (by rfl) m_list PyProof.Rows.boot_list (pa_cons (pv 4) pa_nil)))))))
  (pss_one (ps_ret (pv 2))))), ?_⟩
    have pw : ∀ k, k ≤ 5 → (rowsF m k).length ≤ 1024 := fun k hk => by
      rw [rowsF_len]
      calc m ^ k ≤ 4 ^ k := Nat.pow_le_pow_left hm k
        _ ≤ 4 ^ 5 := Nat.pow_le_pow_right (by decide) hk
        _ = 1024 := rfl
    have hz : ∀ (L : List (List Nat)), L.length ≤ 256 → (grown m L).length ≤ 1024 := fun L hL => by
      rw [grown_len]
      calc L.length * m ≤ 256 * 4 := Nat.mul_le_mul hL hm
        _ = 1024 := rfl
    refine ⟨Nat.zero_le _, fun z0 nz0 => ⟨by show 1 ≤ sizeLine; decide, fun F nF => ?_⟩⟩
    refine ⟨nv c, rfl, (c : Int), rfl, by omega, by omega, ?_⟩
    refine for_rg (n := c) (fun i σ H3 => Same H H3 ∧ ∃ (Fa : Addr) (y3 y4 y5 : Option V), H Fa = none ∧ TabL H3 Fa (rowsF m i) ∧ σ = [some (nv m), some (nv c), some (.ref Fa), y3, y4, y5, none]) ?_ (fun i σ H3 hi h => ?_) (fun σ H3 h => ?_)
    · have s1_ := sNew (o := .tup []) (Same.refl H) nz0
      have nF' := sFree s1_ nF
      exact ⟨sNew s1_ nF', F, none, none, none, nF', ⟨[z0], upd_same, (Rows.nil.snoc (r := []) upd_same).mono (KT.new nF)⟩, rfl⟩
    · obtain ⟨sm, Fa, y3, y4, y5, nFa, tF, rfl⟩ := h
      refine ⟨Nat.zero_le _, fun L0 nL0 => ?_⟩
      obtain ⟨fs, eF, rF⟩ := id tF
      have nL0H := sFree sm nL0
      have hFL : Fa ≠ L0 := ne_of_none eF nL0
      refine ⟨.ref Fa, rfl, Fa, rfl, ⟨_, SqL.of (by rw [upd_ne hFL]; exact eF)⟩, ?_⟩
      refine for_list (xs := fs.map V.ref) (fun j σ H4 => Same H H4 ∧ (H4 Fa = some (.lst (fs.map V.ref)) ∧ Rows H4 fs (rowsF m i)) ∧ ∃ (La : Addr) (y5 : Option V), H La = none ∧ TabL H4 La (grown m ((rowsF m i).take j)) ∧ σ = [some (nv m), some (nv c), some (.ref Fa), some (nv i), some (.ref La), y5, none]) ?_ (fun j σ H4 _ h => ?_) (fun j x σ H4 hx h => ?_) (fun σ H4 h => ?_)
      · exact ⟨sNew sm nL0H, ⟨by rw [upd_ne hFL]; exact eF, rF.mono (KT.new nL0)⟩, L0, y5, nL0H, ⟨[], upd_same, Rows.nil⟩, rfl⟩
      · exact SqL.of h.2.1.1
      · obtain ⟨sm4, ⟨eF4, rF4⟩, La, z5, nLa, tL, rfl⟩ := h
        obtain ⟨qf, eqf, rfl⟩ := refs_at hx
        obtain ⟨row, er, hrow⟩ := rF4.to eqf
        have hk := mem_rowsF.mp (List.mem_of_getElem? er)
        have hle : ((rowsF m i).take (j + 1)).length ≤ 256 := by
          have h1 : (rowsF m i).length ≤ 256 := by
            rw [rowsF_len]
            calc m ^ i ≤ 4 ^ i := Nat.pow_le_pow_left hm i
              _ ≤ 4 ^ 4 := Nat.pow_le_pow_right (by decide) (by omega)
              _ = 256 := rfl
          rw [List.length_take]
          omega
        have etake : (rowsF m i).take (j + 1) = (rowsF m i).take j ++ [row] := by rw [List.take_add_one, er]; rfl
        refine ⟨.ref La, rfl, ?_⟩
        refine rows_rg (n := m) (ix := 6) (rowf := fun x => row ++ [x]) (by omega) (fun H' R h => ⟨_, rfl, h⟩) (fun x H' R hx sm5 h => ?_) (fun p H' np sm5 tp => ?_)
        · have hrow5 := sm5 _ _ hrow
          refine ⟨.ref qf, rfl, nv x, rfl, by show 1 ≤ sizeLine; decide, fun z nz => ?_⟩
          have nzq := ne_of_none hrow5 nz
          refine ⟨qf, z, row.map nv, [nv x], rfl, rfl, SqT.of (by rw [upd_ne nzq]; exact hrow5), SqT.of upd_same, ?_, fun e => ?_, fun _ e => (nomatch e), fun _ _ y ny => ?_⟩
          · rw [nv_len, hk.1]; exact Nat.succ_le_of_lt (small1000 (by omega))
          · refine h z _ (sNew (Same.refl H') nz) ?_
            rw [upd_same, List.map_append, e]; rfl
          · refine h y _ (fun b o e => ?_) (by rw [upd_same, List.map_append]; rfl)
            rw [upd_ne (ne_of_none (by rw [upd_ne (ne_of_none e nz)]; exact e) ny), upd_ne (ne_of_none e nz)]
            exact e
        · have sm6 := sm4.trans sm5
          obtain ⟨ls, eL, rL⟩ := tL.same sm5
          obtain ⟨ps, eP, rP⟩ := tp
          refine ⟨La, p, _, _, rfl, rfl, eL, eP, ?_, fun z nz => ?_⟩
          · have g1 := hz _ hle
            rw [etake, grown_snoc, List.length_append] at g1
            rw [TabL.len eL rL, TabL.len eP rP]
            exact Nat.le_of_lt (small2000 (Nat.le_trans g1 (by decide)))
          · refine ⟨sNew sm6 (sFree sm6 nz), ⟨by rw [upd_ne (ne_of_none (sm5 _ _ eF4) nz)]; exact sm5 _ _ eF4, (rF4.mono (sKt sm5)).mono (KT.new nz)⟩, z, _, sFree sm6 nz, ?_, rfl⟩
            rw [etake, grown_snoc]
            exact ⟨ls ++ ps, by rw [upd_same, List.map_append], (rL.append rP).mono (KT.new nz)⟩
      · obtain ⟨sm4, ⟨eF4, rF4⟩, La, z5, nLa, tL, rfl⟩ := h
        rw [take_all (by rw [TabL.len eF rF])] at tL
        obtain ⟨ls, eL, rL⟩ := tL
        refine ⟨.ref La, rfl, La, _, rfl, .inl (SqL.of eL), fun z nz => ?_⟩
        have nzH := sFree sm4 nz
        exact ⟨sNew sm4 nzH, z, _, _, _, nzH, ⟨ls, upd_same, rL.mono (KT.new nz)⟩, rfl⟩
    · obtain ⟨sm, Fa, y3, y4, y5, nFa, tF, rfl⟩ := h
      exact ⟨.ref Fa, rfl, q Fa H3 nFa sm tF⟩
end
end K35
set_option Elab.async false
set_option linter.all false
set_option maxRecDepth 100000
set_option maxHeartbeats 4000000
namespace K35
open PySem PySem.Spec PyProof.Rows L2
abbrev nKeeps : List Str := ["_law_one", "_law_two", "_law_images", "_law_n", "_law_x", "_law_y"]
/-- all pairs (x, y) up to (i, j) keep -/
def KeepTo (T Tb : List (List Nat)) (L : List Nat) (n i j : Nat) : Prop := ∀ x y, x < n → y < n → (x < i ∨ (x = i ∧ y < j)) → L.getD (el T x y) 0 = el Tb (L.getD x 0) (L.getD y 0)
theorem KeepTo.zero {T Tb : List (List Nat)} {L : List Nat} {n : Nat} : KeepTo T Tb L n 0 0 := fun x y _ _ h => by omega
theorem KeepTo.next {T Tb : List (List Nat)} {L : List Nat} {n i j : Nat} (h : KeepTo T Tb L n i j) (e : L.getD (el T i j) 0 = el Tb (L.getD i 0) (L.getD j 0)) : KeepTo T Tb L n i (j + 1) := fun x y hx hy hxy => by
  by_cases hh : x < i ∨ (x = i ∧ y < j)
  · exact h x y hx hy hh
  · obtain ⟨rfl, rfl⟩ : x = i ∧ y = j := by omega
    exact e
theorem KeepTo.row {T Tb : List (List Nat)} {L : List Nat} {n i : Nat} (h : KeepTo T Tb L n i n) : KeepTo T Tb L n (i + 1) 0 := fun x y hx hy hxy => h x y hx hy (by omega)
theorem KeepTo.all {T Tb : List (List Nat)} {L : List Nat} {n : Nat} (h : KeepTo T Tb L n n 0) : keepsB n T Tb L = true := keepsB_iff.mpr fun x y hx hy => h x y hx hy (.inl hx)
theorem keeps_not {T Tb : List (List Nat)} {L : List Nat} {n x y : Nat} (hx : x < n) (hy : y < n) (e : ¬ L.getD (el T x y) 0 = el Tb (L.getD x 0) (L.getD y 0)) : keepsB n T Tb L = false := by
  cases h : keepsB n T Tb L with
  | false => rfl
  | true => exact absurd (keepsB_iff.mp h x y hx hy) e
theorem ne_nv {a b : Nat} : (!decide (nv a = nv b)) = !decide (a = b) := by
  have h : (nv a = nv b) ↔ a = b := ⟨fun e => Int.ofNat.inj (V.int.inj e), fun e => by rw [e]⟩
  by_cases e : a = b
  · rw [decide_eq_true e, decide_eq_true (h.mpr e)]
  · rw [decide_eq_false e, decide_eq_false fun z => e (h.mp z)]
theorem row_get {L : List Nat} {n m i : Nat} (hl : L.length = n) (hv : ∀ v ∈ L, v < m) (hi : i < n) : (L.map nv)[i]? = some (nv (L.getD i 0)) ∧ L.getD i 0 < m := by
  have h : i < L.length := by omega
  refine ⟨by rw [List.getElem?_map, getD_get (d := 0) h]; rfl, hv _ ?_⟩
  exact List.mem_of_getElem? (getD_get (d := 0) h)
section
variable {P : Program} {w : World} {K : PySem.W.Frag} {mg : Str → Option Value} {base : Heap}
def spKeeps : Sp := fun vs H Q _ => ∃ (t1 t2 q : Addr) (n m : Nat) (T Tb : List (List Nat)) (L : List Nat), vs = [.ref t1, .ref t2, .ref q] ∧ n ≤ 5 ∧ m ≤ 5 ∧ Sg n T ∧ Sg m Tb ∧ TabL H t1 T ∧ TabL H t2 Tb ∧ H q = some (.tup (L.map nv)) ∧ L.length = n ∧ (∀ v ∈ L, v < m) ∧ Q (.bl (keepsB n T Tb L)) H
theorem ok_keeps {f : Addr} {fd : FuncData} {k : Nat} (F : Fun K "_law_keeps" "_law_keeps" sKeeps f fd) (m_range : mg "range" = none) (m_len : mg "len" = none) : FnOk P w K mg base CX0 (k + 1) f fd ["_law_one", "_law_two", "_law_images"] spKeeps := by
  refine F.ok scKeeps (fun vs H Q E h => ?_) (fun cdv A outer s H vs Q E hr h => ?_)
  · obtain ⟨t1, t2, q, n, m, T, Tb, L, rfl, _⟩ := h
    rfl
  · obtain ⟨t1, t2, qi, n, m, T, Tb, L, rfl, hn, hm, sg, sgb, h1, h2, ei, hl, hv, q⟩ := h
    refine ⟨_, (pss_cons (ps_set (i := 3) scKeeps.nd rfl (.inl rfl) (pe_callB (cLen K) (by rfl) m_len PySem.boot_len (pa_cons (pv 0) pa_nil)))
  (pss_cons (ps_for PassesOwn.never rfl (pi_range1 (by rfl) m_range (pa_cons (pv 3) pa_nil)) (pg_name (i := 4) scKeeps.nd rfl (.inl rfl))
  (pss_one (ps_for PassesOwn.never rfl (pi_range1 (by rfl) m_range (pa_cons (pv 3) pa_nil)) (pg_name (i := 5) scKeeps.nd rfl (.inl rfl))
  (pss_one (ps_if (pt_cmpR op_ne (pe_ix (ixT K) (pv 2) (pe_ix (ixT K) (pe_ix (ixL K) (pv 0) (pv 4) (fun _ _ => rfl)) (pv 5) (fun _ _ => rfl)) (fun _ _ => rfl)) (pe_ix (ixT K) (pe_ix (ixL K) (pv 1) (pe_ix (ixT K) (pv 2) (pv 4) (fun _ _ => rfl)) (fun _ _ => rfl)) (pe_ix (ixT K) (pv 2) (pv 5) (fun _ _ => rfl)) (fun _ _ => rfl)) (nomark _))
  (pss_one (ps_ret pe_bl))
  pss_nil)))))
  (pss_one (ps_ret pe_bl)))), ?_⟩
    obtain ⟨qs, et, rT⟩ := id h1
    have lT : (qs.map V.ref).length = n := by rw [TabL.len et rT, sg.len]
    refine ⟨.ref t1, rfl, t1, _, rfl, .inl (SqL.of et), ?_⟩
    rw [lT]
    refine ⟨nv n, rfl, (n : Int), rfl, by omega, by omega, ?_⟩
    refine for_rg (n := n) (fun i σ H3 => H3 = H ∧ KeepTo T Tb L n i 0 ∧ ∃ y4 y5, σ = [some (.ref t1), some (.ref t2), some (.ref qi), some (nv n), y4, y5]) ⟨rfl, KeepTo.zero, none, none, rfl⟩ (fun i σ H3 hi h => ?_) (fun σ H3 h => ?_)
    · obtain ⟨rfl, kt, y4, y5, rfl⟩ := h
      refine ⟨nv n, rfl, (n : Int), rfl, by omega, by omega, ?_⟩
      refine for_rg (n := n) (fun j σ H4 => H4 = H3 ∧ KeepTo T Tb L n i j ∧ ∃ y5, σ = [some (.ref t1), some (.ref t2), some (.ref qi), some (nv n), some (nv i), y5]) ⟨rfl, kt, y5, rfl⟩ (fun j σ H4 hj h => ?_) (fun σ H4 h => ?_)
      · obtain ⟨rfl, kj, z5, rfl⟩ := h
        obtain ⟨r1, er, ev⟩ := sg.at hi hj
        obtain ⟨q1, p1, e1, e2, e3, e4⟩ := h1.at er ev
        have hv1 := sg.lt i j hi hj
        obtain ⟨b1, b1'⟩ := row_get hl hv hi
        obtain ⟨b2, b2'⟩ := row_get hl hv hj
        obtain ⟨b3, b3'⟩ := row_get hl hv hv1
        obtain ⟨r2, er2, ev2⟩ := sgb.at b1' b2'
        obtain ⟨q2, p2, f1, f2, f3, f4⟩ := h2.at er2 ev2
        refine ⟨.ref qi, rfl, .ref t1, rfl, nv i, rfl, t1, _, (i : Int), .ref p1, rfl, rfl, SqL.of e1, atI_nat e2, nv j, rfl, p1, _, (j : Int), _, rfl, rfl, SqT.of e3, atI_nat e4, qi, _, ((el T i j : Nat) : Int), _, rfl, rfl, SqT.of ei, atI_nat b3, ?_⟩
        refine ⟨.ref t2, rfl, .ref qi, rfl, nv i, rfl, qi, _, (i : Int), _, rfl, rfl, SqT.of ei, atI_nat b1, t2, _, ((L.getD i 0 : Nat) : Int), .ref p2, rfl, rfl, SqL.of f1, atI_nat f2, .ref qi, rfl, nv j, rfl, qi, _, (j : Int), _, rfl, rfl, SqT.of ei, atI_nat b2, p2, _, ((L.getD j 0 : Nat) : Int), _, rfl, rfl, SqT.of f3, atI_nat f4, ?_⟩
        refine ⟨rfl, _, rfl, ite2 (fun e => ?_) (fun e => ?_)⟩
        · have e' : (!decide (L.getD (el T i j) 0 = el Tb (L.getD i 0) (L.getD j 0))) = true := ne_nv.symm.trans e
          have hne : ¬ L.getD (el T i j) 0 = el Tb (L.getD i 0) (L.getD j 0) := by simpa using e'
          rw [keeps_not hi hj hne] at q
          exact q
        · have e' : ¬ (!decide (L.getD (el T i j) 0 = el Tb (L.getD i 0) (L.getD j 0))) = true := fun z => e (ne_nv.trans z)
          have heq : L.getD (el T i j) 0 = el Tb (L.getD i 0) (L.getD j 0) := by simpa using e'
          exact ⟨rfl, kj.next heq, _, rfl⟩
      · obtain ⟨rfl, kj, z5, rfl⟩ := h
        exact ⟨rfl, kj.row, _, _, rfl⟩
    · obtain ⟨rfl, kt, y4, y5, rfl⟩ := h
      rw [kt.all] at q
      exact q
end
end K35
set_option Elab.async false
set_option linter.all false
set_option maxRecDepth 100000
set_option maxHeartbeats 4000000
namespace K35
open PySem PySem.Spec PyProof.Rows L2
section
variable {X : Cx} (K : PySem.W.Frag)
theorem cIsi (h : X.K = K := by rfl) : CallR X (.builtin "isinstance") (rIsi K) := by subst h; exact call_isi
theorem cIsiT (h : X.K = K := by rfl) : CallR X (.builtin "isinstance") (rIsiT K) := by subst h; exact call_isiT
theorem oNeD (hu : X.A.units + 64 < cLine) (h : X.K = K := by rfl) : OpR X (compareOp .NotEq) (rNeD K) := by subst h; exact op_neD hu
theorem oEqD (hu : X.A.units + 64 < cLine) (h : X.K = K := by rfl) : OpR X (compareOp .Eq) (rEqD K) := by subst h; exact op_eqD hu
theorem pFld {e : Expr} {f : Str} {pos : Pos} {ta : TE} (he : PE X e ta) (h : X.K = K := by rfl) (hb : attributeBase e f X.env (eval e X.env) = eval e X.env := by rfl) : PE X (.Attribute e f pos) (tFld K ta f) := by
  subst h; exact pe_fld he hb
end
section
variable {P : Program} {w : World} {K : PySem.W.Frag} {mg : Str → Option Value} {base : Heap}
def spInt : Sp := fun vs H Q _ => (∃ i : Int, vs = [.int i] ∧ Q (.bl true) H) ∨ (vs = [.non] ∧ Q (.bl false) H) ∨ (∃ b : Bool, vs = [.bl b] ∧ Q (.bl false) H)
theorem ok_int {f : Addr} {fd : FuncData} {k : Nat} (F : Fun K "is_integer" "is_integer" sInt f fd) (m_isi : mg "isinstance" = none) (m_int : mg "int" = none) (m_bool : mg "bool" = none) : FnOk P w K mg base CX0 (k + 1) f fd ["value"] spInt := by
  refine F.ok scInt (fun vs H Q E h => ?_) (fun cdv A outer s H vs Q E hr h => ?_)
  · rcases h with ⟨i, rfl, _⟩ | ⟨rfl, _⟩ | ⟨b, rfl, _⟩ <;> rfl
  · refine ⟨_, pss_one (ps_ret (pe_and (pe_callB (cIsi K) (by rfl) m_isi PyProof.Rows.boot_isinstance (pa_cons (pv 0) (pa_cons (pe_bltn (v := .ty "int") (by rfl) m_int PyProof.Rows.boot_int rfl) pa_nil)))
      (pe_one (pe_not (pe_callB (cIsi K) (by rfl) m_isi PyProof.Rows.boot_isinstance (pa_cons (pv 0) (pa_cons (pe_bltn (v := .ty "bool") (by rfl) m_bool PyProof.Rows.boot_bool rfl) pa_nil))))))), ?_⟩
    rcases h with ⟨i, rfl, q⟩ | ⟨rfl, q⟩ | ⟨b, rfl, q⟩
    · refine ⟨.int i, rfl, .int i, .ty "int", .type "int", .type "int", true, rfl, .ty _, .base (.int i), kit_ty (by decide +kernel), ?_⟩
      refine ⟨true, rfl, ?_⟩
      refine ⟨.int i, rfl, .int i, .ty "bool", .type "int", .type "bool", false, rfl, .ty _, .base (.int i), kit_ty (by decide +kernel), ?_⟩
      exact ⟨false, rfl, q⟩
    · refine ⟨.non, rfl, .non, .ty "int", .type "NoneType", .type "int", false, rfl, .ty _, .base .non, kit_ty (by decide +kernel), ?_⟩
      exact ⟨false, rfl, q⟩
    · refine ⟨.bl b, rfl, .bl b, .ty "int", .type "bool", .type "int", true, rfl, .ty _, .base (.bl b), kit_ty (by decide +kernel), ?_⟩
      refine ⟨true, rfl, ?_⟩
      refine ⟨.bl b, rfl, .bl b, .ty "bool", .type "bool", .type "bool", true, rfl, .ty _, .base (.bl b), kit_ty (by decide +kernel), ?_⟩
      exact ⟨true, rfl, q⟩
def spItem : Sp := fun vs H Q _ => ∃ (x n : Nat), vs = [nv x, nv n] ∧ x < n ∧ Q (.bl true) H
theorem ok_item {f fI : Addr} {fd fdI : FuncData} {k : Nat} (F : Fun K "is_item" "is_item" sItem f fd) (GI : FnOk P w K mg base CX0 k fI fdI ["value"] spInt) (bI : Binds K fdI ["value"] []) (kI : PySem.W.keepIn K (.ref fI) = true) (gI : mg "is_integer" = some (.ref fI)) :
    FnOk P w K mg base CX0 (k + 1) f fd ["value", "n"] spItem := by
  refine F.ok scItem (fun vs H Q E h => ?_) (fun cdv A outer s H vs Q E hr h => ?_)
  · obtain ⟨x, n, rfl, _⟩ := h
    rfl
  · obtain ⟨x, n, rfl, hx, q⟩ := h
    refine ⟨_, pss_one (ps_ret (pe_and (pe_call GI hr (by rfl) gI kI bI .nil pass0 (pa_cons (pv 0) pa_nil)) (pe_one (pe_chain op_le op_lt pe_int (pv 0) (pv 1))))), ?_⟩
    refine ⟨nv x, rfl, .inl ⟨(x : Int), rfl, true, rfl, ?_⟩⟩
    refine ⟨nv x, rfl, 0, (x : Int), rfl, rfl, _, rfl, ?_⟩
    refine ite2 (fun _ => ?_) (fun e => absurd (decide_eq_true (by omega)) e)
    refine ⟨nv n, rfl, _, _, rfl, rfl, ?_⟩
    have e : V.bl true = V.bl (decide ((x : Int) < (n : Int))) := by rw [decide_eq_true (by omega : (x : Int) < (n : Int))]
    rw [e] at q
    exact q
end
end K35
set_option Elab.async false
set_option linter.all false
set_option maxRecDepth 100000
set_option maxHeartbeats 4000000
namespace K35
open PySem PySem.Spec PyProof.Rows L2
abbrev nTaken : List Str := ["table", "found", "row", "item"]
abbrev nAssoc : List Str := ["table", "row", "y", "z", "item"]
abbrev li_ (r : List Nat) : PyData := .list (r.map pi_)
theorem eqv_li (r r' : List Nat) : PyData.eqv (li_ r) (li_ r') = decide (r = r') := by
  show PyData.eqvAll _ _ = _
  exact eqvAll_ints r r'
theorem shaped_li (r : List Nat) : SeqAt.shaped (li_ r) = true := by
  unfold SeqAt.shaped
  have h : (li_ r).canLay0 = true := lay_ints r
  have h2 := depth_ints r
  rw [h]
  have h3 : (li_ r).depth = PyData.depthAll (r.map pi_) + 1 := by simp only [PyData.depth]
  rw [h3, Bool.true_and]
  exact decide_eq_true (by omega)
theorem dp_li {K : PySem.W.Frag} {H : Hp} {q : Addr} {r : List Nat} (e : H q = some (.lst (r.map nv))) : Dp K H (.ref q) (li_ r) := .lst (SqL.of e) (dp_ints r)
theorem if_cmp {r : R2} {ta tb : TE} {x y : TS} {D : Ends} {σ : L2.St} {H : Hp} (h : ta σ H fun v H1 => tb σ H1 fun u H2 => r v u H2 fun c H3 => ∃ k : Bool, c = .bl k ∧ if k = true then x D σ H3 else y D σ H3) : tIfS (tTest (tOp r ta tb)) x y D σ H := h
/-- [te for x in t], t a tuple of numbers, each item a number -/
theorem ints_tup {K : PySem.W.Frag} {ix : Nat} {t : Addr} {L : List Nat} {F : Nat → Nat} {tn te : TE} {σ : L2.St} {H : Hp} {Q : VK} (hn : L.length ≤ 1000) (ht : H t = some (.tup (L.map nv)))
    (h1 : ∀ (R : VK), R (.ref t) H → tn σ H R)
    (h3 : ∀ (v : Nat) (H' : Hp) (R : VK), v ∈ L → Same H H' → R (nv (F v)) H' → te ((wipe σ [ix]).set ix (some (nv v))) H' R)
    (q : ∀ (p : Addr) (H' : Hp), H p = none → Same H H' → H' p = some (.lst ((L.map F).map nv)) → Q (.ref p) H') :
    tLc (iTup K tn) (gName ix) tYes te [ix] σ H Q := by
  refine h1 _ ⟨t, rfl, ⟨_, SqT.of ht⟩, fun D nD => ?_⟩
  refine lc_tup (xs := L.map nv) (fun i H6 => Same H H6 ∧ H6 D = some (.lst (((L.map F).take i).map nv))) ⟨sNew (Same.refl H) nD, upd_same⟩ (fun i H6 _ h => SqT.of (h.1 _ _ ht)) (fun i x H6 hx h => ?_) (fun H6 h => ?_)
  · obtain ⟨sm6, eD⟩ := h
    rw [List.getElem?_map] at hx
    cases ev : L[i]? with
    | none => rw [ev] at hx; cases hx
    | some v =>
      rw [ev] at hx
      cases Option.some.inj hx
      refine ⟨?_, ?_⟩
      · show ((σ.set ix none).set ix (some (nv v))).set ix none = σ.set ix none
        rw [List.set_set, List.set_set]
      · refine h3 v H6 _ (List.mem_of_getElem? ev) sm6 ⟨_, eD, ?_, sNew sm6 nD, ?_⟩
        · rw [nv_len, List.length_take, List.length_map]; exact small1000 (by omega)
        · rw [upd_same, List.take_add_one, List.getElem?_map, ev, List.map_append]; rfl
  · obtain ⟨sm, eD⟩ := h
    rw [take_all (by rw [List.length_map, List.length_map])] at eD
    exact q D H6 nD sm eD
theorem Sg.mem {n : Nat} {T : List (List Nat)} (s : Sg n T) {r : List Nat} {v : Nat} (hr : r ∈ T) (hv : v ∈ r) : v < n := by
  obtain ⟨x, hx, rfl⟩ := List.mem_iff_getElem.mp hr
  obtain ⟨y, hy, rfl⟩ := List.mem_iff_getElem.mp hv
  have h1 : x < n := by rw [← s.len]; exact hx
  have h2 : y < n := by rw [← s.row _ (List.getElem_mem hx)]; exact hy
  have := s.lt x y h1 h2
  rwa [el_get (List.getElem?_eq_getElem hx) (List.getElem?_eq_getElem hy)] at this
/-- a tuple of such tuples -/
def TabT (H : Hp) (p : Addr) (T : List (List Nat)) : Prop := ∃ qs : List Addr, H p = some (.tup (qs.map V.ref)) ∧ Rows H qs T
theorem TabT.mono {H H' : Hp} {p : Addr} {T : List (List Nat)} (h : TabT H p T) (k : KT H H') : TabT H' p T := by
  obtain ⟨qs, e1, r⟩ := h
  exact ⟨qs, k _ _ e1, r.mono k⟩
theorem TabT.at {H : Hp} {p : Addr} {T : List (List Nat)} (h : TabT H p T) {x y v : Nat} {r : List Nat} (e1 : T[x]? = some r) (e2 : r[y]? = some v) :
    ∃ (qs : List Addr) (q : Addr), H p = some (.tup (qs.map V.ref)) ∧ (qs.map V.ref)[x]? = some (.ref q) ∧ H q = some (.tup (r.map nv)) ∧ (r.map nv)[y]? = some (nv v) := by
  obtain ⟨qs, e, rw_⟩ := h
  obtain ⟨q, h1, h2⟩ := rw_.get e1
  exact ⟨qs, q, e, by rw [List.getElem?_map, h1]; rfl, h2, nv_at e2⟩
section
variable {P : Program} {w : World} {K : PySem.W.Frag} {mg : Str → Option Value} {base : Heap}
def spTaken : Sp := fun vs H Q _ => ∃ (t : Addr) (n : Nat) (T : List (List Nat)), vs = [.ref t] ∧ n ≤ 24 ∧ TabL H t T ∧ Sg n T ∧ ∀ (p : Addr) (H' : Hp), H p = none → Same H H' → TabT H' p T → Q (.ref p) H'
theorem ok_taken {f fI : Addr} {fd fdI : FuncData} {k : Nat} (F : Fun K "taken_table" "taken_table" sTaken f fd)
    (GI : FnOk P w K mg base CX0 k fI fdI ["value", "n"] spItem) (bI : Binds K fdI ["value", "n"] []) (kI : PySem.W.keepIn K (.ref fI) = true) (gI : mg "is_item" = some (.ref fI))
    (m_isinstance : mg "isinstance" = none) (m_list : mg "list" = none) (m_tuple : mg "tuple" = none) (m_len : mg "len" = none) : FnOk P w K mg base CX0 (k + 1) f fd ["table"] spTaken := by
  refine F.ok scTaken (fun vs H Q E h => ?_) (fun cdv A outer s H vs Q E hr h => ?_)
  · obtain ⟨t, n, T, rfl, _⟩ := h
    rfl
  · obtain ⟨t, n, T, rfl, hn, tT, sg, q⟩ := h
    refine ⟨_, (pss_cons (ps_if (PW.pt (pw_or (pt_not (pt_val (pe_callB (cIsiT K) (by rfl) m_isinstance PyProof.Rows.boot_isinstance (pa_cons (pv 0) (pa_cons (pe_tup (pa_cons (pe_bltn (v := .ty "list") (by rfl) m_list PyProof.Rows.boot_list rfl) (pa_cons (pe_bltn (v := .ty "tuple") (by rfl) m_tuple PyProof.Rows.boot_tuple rfl) pa_nil))) pa_nil))))) (pw_or1 (pt_cmpR op_eq (pe_callB (cLen K) (by rfl) m_len PySem.boot_len (pa_cons (pv 0) pa_nil)) pe_int (nomark _)))))
  (pss_one ps_never)
  pss_nil)
  (pss_cons (ps_set (i := 1) scTaken.nd rfl (.inl rfl) (pe_lst pa_nil))
  (pss_cons (ps_for PassesOwn.never rfl (piL K (pv 0)) (pg_name (i := 2) scTaken.nd rfl (.inl rfl))
  (pss_cons (ps_if (PW.pt (pw_or (pt_not (pt_val (pe_callB (cIsiT K) (by rfl) m_isinstance PyProof.Rows.boot_isinstance (pa_cons (pv 2) (pa_cons (pe_tup (pa_cons (pe_bltn (v := .ty "list") (by rfl) m_list PyProof.Rows.boot_list rfl) (pa_cons (pe_bltn (v := .ty "tuple") (by rfl) m_tuple PyProof.Rows.boot_tuple rfl) pa_nil))) pa_nil))))) (pw_or1 (pt_cmpR op_ne (pe_callB (cLen K) (by rfl) m_len PySem.boot_len (pa_cons (pv 2) pa_nil)) (pe_callB (cLen K) (by rfl) m_len PySem.boot_len (pa_cons (pv 0) pa_nil)) (nomark _)))))
  (pss_one ps_never)
  pss_nil)
  (pss_cons (ps_for PassesOwn.never rfl (piT K (pv 2)) (pg_name (i := 3) scTaken.nd rfl (.inl rfl))
  (pss_one (ps_if (pt_not (pt_val (pe_call GI hr (by rfl) gI kI bI .nil pass0 (pa_cons (pv 3) (pa_cons (pe_callB (cLen K) (by rfl) m_len PySem.boot_len (pa_cons (pv 0) pa_nil)) pa_nil)))))
  (pss_one ps_never)
  pss_nil)))
  (pss_one (ps_expr (pBm K PySem.F.plainAttrs_list PySem.F.slot_list_append PySem.F.type_list_append mt_append (pv 1) (pa_cons (pe_callTy (cTup K) (by rfl) m_tuple PyProof.Rows.boot_tuple (pa_cons (pv 2) pa_nil)) pa_nil)))))))
  (pss_one (ps_ret (pe_callTy (cTup K) (by rfl) m_tuple PyProof.Rows.boot_tuple (pa_cons (pv 1) pa_nil))))))), ?_⟩
    obtain ⟨qs, et, rT⟩ := id tT
    have lT : (qs.map V.ref).length = n := by rw [TabL.len et rT, sg.len]
    have hn0 := sg.pos
    refine ⟨.ref t, rfl, by show 2 ≤ sizeLine; decide, fun z nz => ?_⟩
    have sz := sNew (o := .tup [.ty "list", .ty "tuple"]) (Same.refl H) nz
    refine ⟨.ref t, z, [.ty "list", .ty "tuple"], .type "list", [.type "list", .type "tuple"], true, rfl, upd_same, .cons (.ty _) (.cons (.ty _) .nil), .base (.lst (sz _ _ et)), kitAny_cons (b := true) (kit_ty (by decide +kernel)) (fun h => nomatch h) (fun _ => rfl), ?_⟩
    refine ⟨true, rfl, ?_⟩
    refine ite2 (fun e => absurd e (by decide)) (fun _ => ?_)
    refine ⟨.ref t, rfl, t, _, rfl, .inl (SqL.of (sz _ _ et)), rfl, _, rfl, ite2 (fun e => ?_) (fun _ => ?_)⟩
    · exfalso
      rw [lT] at e
      have e2 : V.int ((n : Nat) : Int) = V.int 0 := of_decide_eq_true e
      have := V.int.inj e2
      omega
    refine ⟨Nat.zero_le _, fun F nF => ?_⟩
    have s2 := sNew (o := .lst []) sz (sFree sz nF)
    have nFH := sFree sz nF
    refine ⟨.ref t, rfl, t, rfl, ⟨_, SqL.of (s2 _ _ et)⟩, ?_⟩
    refine for_list (xs := qs.map V.ref) (fun i σ H3 => Same H H3 ∧ H3 F = some (.lst ((qs.map V.ref).take i)) ∧ ∃ y2 y3, σ = [some (.ref t), some (.ref F), y2, y3]) ⟨s2, upd_same, none, none, rfl⟩ (fun i σ H3 _ h => SqL.of (h.1 _ _ et)) (fun i x σ H3 hx h => ?_) (fun σ H3 h => ?_)
    · obtain ⟨s3, eF, y2, y3, rfl⟩ := h
      have hi := (List.getElem?_eq_some_iff.mp hx).1
      obtain ⟨qf, eqf, rfl⟩ := refs_at hx
      obtain ⟨row, er, hrow⟩ := rT.to eqf
      have hl : row.length = n := sg.row row (List.mem_of_getElem? er)
      refine ⟨.ref qf, rfl, by show 2 ≤ sizeLine; decide, fun z2 nz2 => ?_⟩
      have s4 := sNew (o := .tup [.ty "list", .ty "tuple"]) (Same.refl H3) nz2
      have hrow4 := s4 _ _ (s3 _ _ hrow)
      refine ⟨.ref qf, z2, [.ty "list", .ty "tuple"], .type "tuple", [.type "list", .type "tuple"], true, rfl, upd_same, .cons (.ty _) (.cons (.ty _) .nil), .base (.tup hrow4),
        kitAny_cons (b := false) (kit_ty (by decide +kernel)) (fun _ => kitAny_cons (b := true) (kit_ty (by decide +kernel)) (fun h => nomatch h) (fun _ => rfl)) (fun h => nomatch h), ?_⟩
      refine ⟨true, rfl, ?_⟩
      refine ite2 (fun e => absurd e (by decide)) (fun _ => ?_)
      refine ⟨.ref qf, rfl, qf, _, rfl, .inr (SqT.of hrow4), .ref t, rfl, t, _, rfl, .inl (SqL.of (s4 _ _ (s3 _ _ et))), rfl, _, rfl, ite2 (fun e => ?_) (fun _ => ?_)⟩
      · exfalso
        rw [lT, nv_len, hl] at e
        simp at e
      refine ⟨.ref qf, rfl, qf, rfl, ⟨_, SqT.of hrow4⟩, ?_⟩
      refine for_tup (xs := row.map nv) (fun j σ H5 => H5 = upd H3 z2 (.tup [.ty "list", .ty "tuple"]) ∧ ∃ y3, σ = [some (.ref t), some (.ref F), some (.ref qf), y3]) ⟨rfl, y3, rfl⟩ (fun j σ H5 _ h => SqT.of (by rw [h.1]; exact hrow4)) (fun j x σ H5 hx2 h => ?_) (fun σ H5 h => ?_)
      · obtain ⟨rfl, w3, rfl⟩ := h
        obtain ⟨v, hv, rfl⟩ : ∃ v, v < n ∧ x = nv v := by
          rw [List.getElem?_map] at hx2
          cases ev : row[j]? with
          | none => rw [ev] at hx2; cases hx2
          | some v =>
            rw [ev] at hx2
            refine ⟨v, ?_, (Option.some.inj hx2).symm⟩
            have hi2 : i < n := by rw [lT] at hi; exact hi
            have hj2 : j < n := by have := (List.getElem?_eq_some_iff.mp ev).1; omega
            have := sg.lt i j hi2 hj2
            rw [el_get er ev] at this
            exact this
        refine ⟨nv v, rfl, .ref t, rfl, t, _, rfl, .inl (SqL.of (s4 _ _ (s3 _ _ et))), v, n, by rw [lT]; rfl, hv, true, rfl, ?_⟩
        refine ite2 (fun e => absurd e (by decide)) (fun _ => ?_)
        exact ⟨rfl, _, rfl⟩
      · obtain ⟨rfl, w3, rfl⟩ := h
        have eF4 := s4 _ _ eF
        refine ⟨.ref F, rfl, .inl ⟨rfl, _, SqL.of eF4⟩, .ref qf, rfl, qf, _, rfl, .inr ⟨SqT.of hrow4, ?_⟩⟩
        refine ⟨F, _, _, rfl, rfl, eF4, ?_, sNew (s3.trans s4) nFH, ?_, _, _, rfl⟩
        · rw [List.length_take, lT]; exact small1000 (by omega)
        · rw [upd_same, List.take_add_one, List.getElem?_map, eqf]; rfl
    · obtain ⟨s3, eF, y2, y3, rfl⟩ := h
      rw [List.take_length] at eF
      refine ⟨.ref F, rfl, F, _, rfl, .inl ⟨SqL.of eF, fun p np => ?_⟩⟩
      exact q p _ (sFree s3 np) (sNew s3 (sFree s3 np)) ⟨qs, upd_same, (rT.mono (sKt s3)).mono (KT.new np)⟩
def spAssoc : Sp := fun vs H Q _ => ∃ (t : Addr) (n : Nat) (T : List (List Nat)), vs = [.ref t] ∧ n ≤ 24 ∧ TabT H t T ∧ Sg n T ∧ ∀ (H' : Hp), Same H H' → Q (.bl true) H'
theorem ok_assoc {f : Addr} {fd : FuncData} {k : Nat} (F : Fun K "is_associative" "is_associative" sAssoc f fd) (m_len : mg "len" = none) (m_range : mg "range" = none) : FnOk P w K mg base CX0 (k + 1) f fd ["table"] spAssoc := by
  refine F.ok scAssoc (fun vs H Q E h => ?_) (fun cdv A outer s H vs Q E hr h => ?_)
  · obtain ⟨t, n, T, rfl, _⟩ := h
    rfl
  · obtain ⟨t, n, T, rfl, hn, tT, sg, q⟩ := h
    refine ⟨_, (pss_cons (ps_for PassesOwn.never rfl (piT K (pv 0)) (pg_name (i := 1) scAssoc.nd rfl (.inr rfl))
  (pss_one (ps_for PassesOwn.never rfl (pi_range1 (by rfl) m_range (pa_cons (pe_callB (cLen K) (by rfl) m_len PySem.boot_len (pa_cons (pv 0) pa_nil)) pa_nil)) (pg_name (i := 2) scAssoc.nd rfl (.inr rfl))
  (pss_one (ps_if (pt_cmpR (oNeD K (hu64 hr)) (pe_lc (own := [("z", 3)]) (g := gName 3) (tt := tYes) rfl scAssoc.nd (pi_range1 (by rfl) m_range (pa_cons (pe_callB (cLen K) (by rfl) m_len PySem.boot_len (pa_cons (pv 0) pa_nil)) pa_nil)) (blkOk_by (N := nAssoc) (sc := defScope sAssoc) (by decide +kernel)) (fun _ _ _ _ _ => pg_name (i := 3) scAssoc.nd rfl (by first | exact .inl rfl | exact .inr rfl)) (fun _ _ _ _ _ => pts_nil) (fun _ _ _ _ _ => (pe_ix (ixT K) (pe_ix (ixT K) (pv 0) (pe_ix (ixT K) (pv 1) (pv 2) (fun _ _ => rfl)) (fun _ _ => rfl)) (pv 3) (fun _ _ => rfl)))) (pe_lc (own := [("item", 4)]) (g := gName 4) (tt := tYes) rfl scAssoc.nd (piT K (pe_ix (ixT K) (pv 0) (pv 2) (fun _ _ => rfl))) (blkOk_by (N := nAssoc) (sc := defScope sAssoc) (by decide +kernel)) (fun _ _ _ _ _ => pg_name (i := 4) scAssoc.nd rfl (by first | exact .inl rfl | exact .inr rfl)) (fun _ _ _ _ _ => pts_nil) (fun _ _ _ _ _ => (pe_ix (ixT K) (pv 1) (pv 4) (fun _ _ => rfl)))) (nomark _))
  (pss_one (ps_ret pe_bl))
  pss_nil)))))
  (pss_one (ps_ret pe_bl))), ?_⟩
    obtain ⟨qs, et, rT⟩ := id tT
    have lT : (qs.map V.ref).length = n := by rw [List.length_map, rT.len, sg.len]
    have hn0 := sg.pos
    refine ⟨.ref t, rfl, t, rfl, ⟨_, SqT.of et⟩, ?_⟩
    refine for_tup (xs := qs.map V.ref) (fun i σ H3 => Same H H3 ∧ ∃ y1 y2, σ = [some (.ref t), y1, y2, none, none]) ⟨Same.refl H, none, none, rfl⟩ (fun i σ H3 _ h => SqT.of (h.1 _ _ et)) (fun i x σ H3 hx h => ?_) (fun σ H3 h => ?_)
    · obtain ⟨s3, y1, y2, rfl⟩ := h
      have hi := (List.getElem?_eq_some_iff.mp hx).1
      rw [lT] at hi
      obtain ⟨qf, eqf, rfl⟩ := refs_at hx
      obtain ⟨row, er, hrow⟩ := rT.to eqf
      have hl : row.length = n := sg.row row (List.mem_of_getElem? er)
      refine ⟨.ref t, rfl, t, _, rfl, .inr (SqT.of (s3 _ _ et)), ((qs.map V.ref).length : Int), rfl, by omega, by omega, ?_⟩
      rw [lT]
      refine for_rg (n := n) (fun j σ H4 => Same H H4 ∧ ∃ y2, σ = [some (.ref t), some (.ref qf), y2, none, none]) ⟨s3, y2, rfl⟩ (fun j σ H4 hj h => ?_) (fun σ H4 h => ?_)
      · obtain ⟨s4, z2, rfl⟩ := h
        refine if_cmp ?_
        obtain ⟨r1, e1, ev1⟩ := sg.at hi hj
        cases (Option.some.inj (e1.symm.trans er))
        have hv1 := sg.lt i j hi hj
        refine ints_rg (n := n) (ix := 3) (F := fun z => el T (el T i j) z) (by omega) (fun R h => ?_) (fun z H' R hz sm h => ?_) (fun p1 H5 np1 sm5 e5 => ?_)
        · refine ⟨.ref t, rfl, t, _, rfl, .inr (SqT.of (s4 _ _ et)), ?_⟩
          rw [lT]; exact h
        · obtain ⟨r2, e2, ev2⟩ := sg.at hv1 hz
          obtain ⟨q2, p2, f1, f2, f3, f4⟩ := (tT.mono (sKt (s4.trans sm))).at e2 ev2
          exact ⟨.ref t, rfl, .ref qf, rfl, nv j, rfl, qf, _, (j : Int), _, rfl, rfl, SqT.of (sm _ _ (s4 _ _ hrow)), atI_nat (nv_at ev1), t, _, ((el T i j : Nat) : Int), .ref p2, rfl, rfl, SqT.of f1, atI_nat f2, nv z, rfl, p2, _, (z : Int), _, rfl, rfl, SqT.of f3, atI_nat f4, h⟩
        · have s5 := s4.trans sm5
          obtain ⟨r3, e3, _⟩ := sg.at hj hn0
          obtain ⟨q3, f1, f2⟩ := rT.get e3
          have hl3 : r3.length = n := sg.row r3 (List.mem_of_getElem? e3)
          refine ints_tup (t := q3) (L := r3) (ix := 4) (F := fun z => el T i z) (by omega) (s5 _ _ f2) (fun R h => ?_) (fun v H' R hv sm h => ?_) (fun p6 H6 np6 sm6 e6 => ?_)
          · exact ⟨.ref t, rfl, nv j, rfl, t, _, (j : Int), .ref q3, rfl, rfl, SqT.of (s5 _ _ et), atI_nat (by rw [List.getElem?_map, f1]; rfl), h⟩
          · have hv2 := sg.mem (List.mem_of_getElem? e3) hv
            obtain ⟨r4, e4, ev4⟩ := sg.at hi hv2
            cases (Option.some.inj (e4.symm.trans er))
            exact ⟨.ref qf, rfl, nv v, rfl, qf, _, (v : Int), _, rfl, rfl, SqT.of (sm _ _ (s5 _ _ hrow)), atI_nat (nv_at ev4), h⟩
          · have heq : (List.range n).map (fun z => el T (el T i j) z) = r3.map (fun z => el T i z) := by
              apply List.ext_getElem
              · simp [hl3]
              · intro z h1 h2
                have hz : z < n := by simpa using h1
                have hz3 : z < r3.length := by omega
                have e7 : r3[z] = el T j z := (el_get e3 (List.getElem?_eq_getElem hz3)).symm
                simp only [List.getElem_map, List.getElem_range, e7]
                exact sg.assoc i j z hi hj hz
            refine ⟨_, _, dp_li (sm6 _ _ e5), dp_li e6, shaped_li _, shaped_li _, ?_⟩
            rw [eqv_li, heq, decide_eq_true rfl]
            refine ⟨_, rfl, ite2 (fun e => absurd e (by decide)) (fun _ => ?_)⟩
            exact ⟨s5.trans sm6, _, rfl⟩
      · obtain ⟨s4, z2, rfl⟩ := h
        exact ⟨s4, _, _, rfl⟩
    · obtain ⟨s3, y1, y2, rfl⟩ := h
      exact q _ s3
abbrev nInit : List Str := ["self", "table", "own"]
theorem tn_ : ¬ (("n" : Str) = "table") := by decide +kernel
theorem nt_ : ¬ (("table" : Str) = "n") := by decide +kernel
def sgf (n : Nat) (q : Addr) : List (Str × V) := putF "table" (.ref q) (putF "n" (nv n) [])
theorem sgf_n (n : Nat) (q : Addr) : (sgf n q).lookup ("n" : Str) = some (nv n) := by
  unfold sgf
  rw [lookup_putF, if_neg tn_, lookup_putF, if_pos rfl]
theorem sgf_t (n : Nat) (q : Addr) : (sgf n q).lookup ("table" : Str) = some (.ref q) := by
  unfold sgf
  rw [lookup_putF, if_pos rfl]
structure Txt (K : PySem.W.Frag) (C : Addr) : Prop where
  cl : Cls K C
  nN : NoAttr K C "n"
  nT : NoAttr K C "table"
/-- a semigroup stands at p -/
def SgAt (C : Addr) (H : Hp) (p : Addr) (n : Nat) (T : List (List Nat)) : Prop := ∃ dx q, H p = some (.ins C dx (sgf n q)) ∧ TabT H q T
theorem SgAt.same {C : Addr} {H H' : Hp} {p : Addr} {n : Nat} {T : List (List Nat)} (h : SgAt C H p n T) (s : Same H H') : SgAt C H' p n T := by
  obtain ⟨dx, q, e, t⟩ := h
  exact ⟨dx, q, s _ _ e, t.mono (sKt s)⟩
def spInit (C : Addr) : Sp := fun vs H Q _ => ∃ (p t dx : Addr) (n : Nat) (T : List (List Nat)), vs = [.ref p, .ref t] ∧ H p = some (.ins C dx []) ∧ n ≤ 24 ∧ TabL H t T ∧ Sg n T ∧
  ∀ (H' : Hp), (∀ b o, b ≠ p → H b = some o → H' b = some o) → SgAt C H' p n T → Q .non H'
theorem ok_init {f fK fA C : Addr} {fd fdK fdA : FuncData} {k : Nat} (F : Fun K "__init__" "Semigroup.__init__" sInit f fd) (X : Txt K C)
    (GK : FnOk P w K mg base CX0 k fK fdK ["table"] spTaken) (bK : Binds K fdK ["table"] []) (kK : PySem.W.keepIn K (.ref fK) = true) (gK : mg "taken_table" = some (.ref fK))
    (GA : FnOk P w K mg base CX0 k fA fdA ["table"] spAssoc) (bA : Binds K fdA ["table"] []) (kA : PySem.W.keepIn K (.ref fA) = true) (gA : mg "is_associative" = some (.ref fA))
    (m_len : mg "len" = none) (m_MOST : ∃ t, mg "MOST_semigroup" = some (.int 24 t)) : FnOk P w K mg base CX0 (k + 1) f fd ["self", "table"] (spInit C) := by
  refine F.ok scInit (fun vs H Q E h => ?_) (fun cdv A outer s H vs Q E hr h => ?_)
  · obtain ⟨p, t, dx, n, T, rfl, _⟩ := h
    rfl
  · obtain ⟨p, t, dx, n, T, rfl, ep, hn, tT, sg, q⟩ := h
    obtain ⟨tk, m_MOST⟩ := m_MOST
    refine ⟨_, (pss_cons (ps_set (i := 2) scInit.nd rfl (.inl rfl) (pe_call GK hr (by rfl) gK kK bK .nil pass0 (pa_cons (pv 1) pa_nil)))
  (pss_cons (ps_if (pt_cmpR op_gt (pe_callB (cLen K) (by rfl) m_len PySem.boot_len (pa_cons (pv 2) pa_nil)) (pe_glob (v := .int 24) (by rfl) m_MOST ⟨_, rfl⟩) (nomark _))
  (pss_one ps_never)
  pss_nil)
  (pss_cons (ps_if (pt_not (pt_val (pe_call GA hr (by rfl) gA kA bA .nil pass0 (pa_cons (pv 2) pa_nil))))
  (pss_one ps_never)
  pss_nil)
  (pss_cons (ps_fld (pv 0) (pe_callB (cLen K) (by rfl) m_len PySem.boot_len (pa_cons (pv 2) pa_nil)) rfl)
  (pss_one (ps_fld (pv 0) (pv 2) rfl)))))), ?_⟩
    refine ⟨.ref t, rfl, t, n, T, rfl, hn, tT, sg, fun o H1 no s1 t1 => ?_⟩
    have ep1 := s1 _ _ ep
    obtain ⟨qs, eo, ro⟩ := id t1
    have lo : (qs.map V.ref).length = n := by rw [List.length_map, ro.len, sg.len]
    refine ⟨.ref o, rfl, o, _, rfl, .inr (SqT.of eo), _, 24, rfl, rfl, _, rfl, ite2 (fun e => ?_) (fun _ => ?_)⟩
    · have := of_decide_eq_true e
      rw [lo] at this
      omega
    refine ⟨.ref o, rfl, o, n, T, rfl, hn, t1, sg, fun H2 s2 => ?_⟩
    refine ⟨true, rfl, ite2 (fun e => absurd e (by decide)) (fun _ => ?_)⟩
    have ep2 := s2 _ _ ep1
    refine ⟨.ref o, rfl, o, _, rfl, .inr (SqT.of (s2 _ _ eo)), .ref p, rfl, p, C, dx, [], rfl, ep2, X.cl, X.nN, (by show 0 < 1000; decide), ?_⟩
    refine ⟨.ref o, rfl, .ref p, rfl, p, C, dx, _, rfl, upd_same, X.cl, X.nT, (by show 1 < 1000; decide), ?_⟩
    rw [lo]
    have po : o ≠ p := ne_of (s2 _ _ eo) ep2 (fun z => nomatch z)
    refine q _ (fun b u hb e => by rw [upd_ne hb, upd_ne hb]; exact s2 _ _ (s1 _ _ e)) ⟨dx, o, upd_same, ?_⟩
    exact t1.mono fun b xs e => by
      have hb : b ≠ p := ne_of (s2 _ _ e) ep2 (fun z => nomatch z)
      rw [upd_ne hb, upd_ne hb]
      exact s2 _ _ e
end
end K35
set_option Elab.async false
set_option linter.all false
set_option maxRecDepth 100000
set_option maxHeartbeats 4000000
namespace K35
open PySem PySem.Spec PyProof.Rows L2
abbrev nIsHom : List Str := ["a", "b", "images", "y", "x"]
def BadV (m : Nat) (x : V) : Prop := x = .non ∨ (∃ b, x = .bl b) ∨ ∃ i : Int, x = .int i ∧ (i < 0 ∨ (m : Int) ≤ i)
/-- no map of n places into m -/
def NoMap (H : Hp) (n m : Nat) (v : V) : Prop := v = .non ∨ (∃ q ys, v = .ref q ∧ H q = some (.lst ys)) ∨ (∃ q xs, v = .ref q ∧ H q = some (.tup xs) ∧ (xs.length ≠ n ∨ ∃ x r, xs = x :: r ∧ BadV m x))
section
variable {P : Program} {w : World} {K : PySem.W.Frag} {mg : Str → Option Value} {base : Heap}
def spIsHom (C : Addr) : Sp := fun vs H Q _ => ∃ (pa pb : Addr) (n m : Nat) (T Tb : List (List Nat)) (v : V), vs = [.ref pa, .ref pb, v] ∧ n ≤ 24 ∧ m ≤ 24 ∧ Sg n T ∧ Sg m Tb ∧ SgAt C H pa n T ∧ SgAt C H pb m Tb ∧
  ((∃ (q : Addr) (L : List Nat), v = .ref q ∧ H q = some (.tup (L.map nv)) ∧ L.length = n ∧ (∀ x ∈ L, x < m) ∧ Q (.bl (keepsB n T Tb L)) H) ∨ (NoMap H n m v ∧ Q (.bl false) H))
theorem ok_isHom {f fI C : Addr} {fd fdI : FuncData} {k : Nat} (F : Fun K "is_homomorphism" "is_homomorphism" sIsHom f fd) (X : Txt K C)
    (GI : FnOk P w K mg base CX0 k fI fdI ["value"] spInt) (bI : Binds K fdI ["value"] []) (kI : PySem.W.keepIn K (.ref fI) = true) (gI : mg "is_integer" = some (.ref fI))
    (m_isinstance : mg "isinstance" = none) (m_tuple : mg "tuple" = none) (m_len : mg "len" = none) (m_range : mg "range" = none) : FnOk P w K mg base CX0 (k + 1) f fd ["a", "b", "images"] (spIsHom C) := by
  refine F.ok scIsHom (fun vs H Q E h => ?_) (fun cdv A outer s H vs Q E hr h => ?_)
  · obtain ⟨pa, pb, n, m, T, Tb, v, rfl, _⟩ := h
    rfl
  · obtain ⟨pa, pb, n, m, T, Tb, v, rfl, hn, hm, sg, sgb, ha, hb, h⟩ := h
    obtain ⟨dxa, ta, ea, tT⟩ := ha
    obtain ⟨dxb, tb, eb, tB⟩ := hb
    have hn0 := sg.pos
    obtain ⟨u, hu, ru⟩ : ∃ u, PSs (cxOf CX0 P w K mg base nIsHom "is_homomorphism" (defScope sIsHom) f cdv A outer s H E).nox ((defBody sIsHom).drop 2) u ∧
        ∀ (qi : Addr) (L : List Nat) (y3 : Option V), H qi = some (.tup (L.map nv)) → L.length = n → (∀ x ∈ L, x < m) → Q (.bl (keepsB n T Tb L)) H →
          u { nx := fun _ H' => Q .non H', rt := Q } [some (.ref pa), some (.ref pb), some (.ref qi), y3, none] H := by
      refine ⟨_, (pss_cons (ps_for PassesOwn.never rfl (pi_range1 (by rfl) m_range (pa_cons (pe_fld (pv 0) rfl) pa_nil)) (pg_name (i := 4) scIsHom.nd rfl (.inl rfl))
  (pss_one (ps_for PassesOwn.never rfl (pi_range1 (by rfl) m_range (pa_cons (pe_fld (pv 0) rfl) pa_nil)) (pg_name (i := 3) scIsHom.nd rfl (.inl rfl))
  (pss_one (ps_if (pt_cmpR op_ne (pe_ix (ixT K) (pv 2) (pe_ix (ixT K) (pe_ix (ixT K) (pe_fld (pv 0) rfl) (pv 4) (fun _ _ => rfl)) (pv 3) (fun _ _ => rfl)) (fun _ _ => rfl)) (pe_ix (ixT K) (pe_ix (ixT K) (pe_fld (pv 1) rfl) (pe_ix (ixT K) (pv 2) (pv 4) (fun _ _ => rfl)) (fun _ _ => rfl)) (pe_ix (ixT K) (pv 2) (pv 3) (fun _ _ => rfl)) (fun _ _ => rfl)) (nomark _))
  (pss_one (ps_ret pe_bl))
  pss_nil)))))
  (pss_one (ps_ret pe_bl))), ?_⟩
      intro qi L y3 ei hl hv q
      refine ⟨.ref pa, rfl, pa, C, dxa, _, _, rfl, ea, X.cl, X.nN, sgf_n n ta, (n : Int), rfl, by omega, by omega, ?_⟩
      refine for_rg (n := n) (fun i σ H3 => H3 = H ∧ KeepTo T Tb L n i 0 ∧ ∃ y3 y4, σ = [some (.ref pa), some (.ref pb), some (.ref qi), y3, y4]) ⟨rfl, KeepTo.zero, y3, none, rfl⟩ (fun i σ H3 hi h => ?_) (fun σ H3 h => ?_)
      · obtain ⟨rfl, kt, y3, y4, rfl⟩ := h
        refine ⟨.ref pa, rfl, pa, C, dxa, _, _, rfl, ea, X.cl, X.nN, sgf_n n ta, (n : Int), rfl, by omega, by omega, ?_⟩
        refine for_rg (n := n) (fun j σ H4 => H4 = H3 ∧ KeepTo T Tb L n i j ∧ ∃ y3, σ = [some (.ref pa), some (.ref pb), some (.ref qi), y3, some (nv i)]) ⟨rfl, kt, y3, rfl⟩ (fun j σ H4 hj h => ?_) (fun σ H4 h => ?_)
        · obtain ⟨rfl, kj, z3, rfl⟩ := h
          obtain ⟨r1, er, ev⟩ := sg.at hi hj
          obtain ⟨q1, p1, e1, e2, e3, e4⟩ := tT.at er ev
          have hv1 := sg.lt i j hi hj
          obtain ⟨b1, b1'⟩ := row_get hl hv hi
          obtain ⟨b2, b2'⟩ := row_get hl hv hj
          obtain ⟨b3, b3'⟩ := row_get hl hv hv1
          obtain ⟨r2, er2, ev2⟩ := sgb.at b1' b2'
          obtain ⟨q2, p2, f1, f2, f3, f4⟩ := tB.at er2 ev2
          refine ⟨.ref qi, rfl, .ref pa, rfl, pa, C, dxa, _, _, rfl, ea, X.cl, X.nT, sgf_t n ta, nv i, rfl, ta, _, (i : Int), .ref p1, rfl, rfl, SqT.of e1, atI_nat e2, nv j, rfl, p1, _, (j : Int), _, rfl, rfl, SqT.of e3, atI_nat e4, qi, _, ((el T i j : Nat) : Int), _, rfl, rfl, SqT.of ei, atI_nat b3, ?_⟩
          refine ⟨.ref pb, rfl, pb, C, dxb, _, _, rfl, eb, X.cl, X.nT, sgf_t m tb, .ref qi, rfl, nv i, rfl, qi, _, (i : Int), _, rfl, rfl, SqT.of ei, atI_nat b1, tb, _, ((L.getD i 0 : Nat) : Int), .ref p2, rfl, rfl, SqT.of f1, atI_nat f2, .ref qi, rfl, nv j, rfl, qi, _, (j : Int), _, rfl, rfl, SqT.of ei, atI_nat b2, p2, _, ((L.getD j 0 : Nat) : Int), _, rfl, rfl, SqT.of f3, atI_nat f4, ?_⟩
          refine ⟨rfl, _, rfl, ite2 (fun e => ?_) (fun e => ?_)⟩
          · have e' : (!decide (L.getD (el T i j) 0 = el Tb (L.getD i 0) (L.getD j 0))) = true := ne_nv.symm.trans e
            have hne : ¬ L.getD (el T i j) 0 = el Tb (L.getD i 0) (L.getD j 0) := by simpa using e'
            rw [keeps_not hi hj hne] at q
            exact q
          · have e' : ¬ (!decide (L.getD (el T i j) 0 = el Tb (L.getD i 0) (L.getD j 0))) = true := fun z => e (ne_nv.trans z)
            have heq : L.getD (el T i j) 0 = el Tb (L.getD i 0) (L.getD j 0) := by simpa using e'
            exact ⟨rfl, kj.next heq, _, rfl⟩
        · obtain ⟨rfl, kj, z5, rfl⟩ := h
          exact ⟨rfl, kj.row, _, _, rfl⟩
      · obtain ⟨rfl, kt, y4, y5, rfl⟩ := h
        rw [kt.all] at q
        exact q
    refine ⟨_, (pss_cons (ps_if (PW.pt (pw_or (pt_not (pt_val (pe_callB (cIsi K) (by rfl) m_isinstance PyProof.Rows.boot_isinstance (pa_cons (pv 2) (pa_cons (pe_bltn (v := .ty "tuple") (by rfl) m_tuple PyProof.Rows.boot_tuple rfl) pa_nil))))) (pw_or1 (pt_cmpR op_ne (pe_callB (cLen K) (by rfl) m_len PySem.boot_len (pa_cons (pv 2) pa_nil)) (pe_fld (pv 0) rfl) (nomark _)))))
  (pss_one (ps_ret pe_bl))
  pss_nil)
  (pss_cons (ps_for PassesOwn.never rfl (piT K (pv 2)) (pg_name (i := 3) scIsHom.nd rfl (.inl rfl))
  (pss_one (ps_if (PW.pt (pw_or (pt_not (pt_val (pe_call GI hr (by rfl) gI kI bI .nil pass0 (pa_cons (pv 3) pa_nil)))) (pw_or (pt_cmpR op_lt (pv 3) pe_int (nomark _)) (pw_or1 (pt_cmpR op_ge (pv 3) (pe_fld (pv 1) rfl) (nomark _))))))
  (pss_one (ps_ret pe_bl))
  pss_nil)))
  hu)), ?_⟩
    rcases h with ⟨qi, L, rfl, ei, hl, hv, q⟩ | ⟨nm, q⟩
    · refine ⟨.ref qi, rfl, .ref qi, .ty "tuple", .type "tuple", .type "tuple", true, rfl, .ty _, .base (.tup ei), kit_ty (by decide +kernel), ?_⟩
      refine ⟨true, rfl, ite2 (fun e => absurd e (by decide)) (fun _ => ?_)⟩
      refine ⟨.ref qi, rfl, qi, _, rfl, .inr (SqT.of ei), .ref pa, rfl, pa, C, dxa, _, _, rfl, ea, X.cl, X.nN, sgf_n n ta, rfl, _, rfl, ite2 (fun e => ?_) (fun _ => ?_)⟩
      · exfalso
        rw [nv_len, hl] at e
        simp at e
      refine ⟨.ref qi, rfl, qi, rfl, ⟨_, SqT.of ei⟩, ?_⟩
      refine for_tup (xs := L.map nv) (fun j σ H5 => H5 = H ∧ ∃ y3, σ = [some (.ref pa), some (.ref pb), some (.ref qi), y3, none]) ⟨rfl, none, rfl⟩ (fun j σ H5 _ h => SqT.of (by rw [h.1]; exact ei)) (fun j x σ H5 hx2 h => ?_) (fun σ H5 h => ?_)
      · obtain ⟨rfl, w3, rfl⟩ := h
        obtain ⟨v, hv2, rfl⟩ : ∃ v, v < m ∧ x = nv v := by
          rw [List.getElem?_map] at hx2
          cases ev : L[j]? with
          | none => rw [ev] at hx2; cases hx2
          | some v =>
            rw [ev] at hx2
            exact ⟨v, hv v (List.mem_of_getElem? ev), (Option.some.inj hx2).symm⟩
        refine ⟨nv v, rfl, .inl ⟨(v : Int), rfl, true, rfl, ite2 (fun e => absurd e (by decide)) (fun _ => ?_)⟩⟩
        refine ⟨nv v, rfl, (v : Int), 0, rfl, rfl, _, rfl, ite2 (fun e => ?_) (fun _ => ?_)⟩
        · have := of_decide_eq_true e; omega
        refine ⟨nv v, rfl, .ref pb, rfl, pb, C, dxb, _, _, rfl, eb, X.cl, X.nN, sgf_n m tb, (v : Int), (m : Int), rfl, rfl, _, rfl, ite2 (fun e => ?_) (fun _ => ?_)⟩
        · have := of_decide_eq_true e; omega
        exact ⟨rfl, _, rfl⟩
      · obtain ⟨rfl, w3, rfl⟩ := h
        exact ru qi L w3 ei hl hv q
    · rcases nm with rfl | ⟨q0, ys, rfl, e0⟩ | ⟨q0, xs, rfl, e0, hbad⟩
      · refine ⟨.non, rfl, .non, .ty "tuple", .type "NoneType", .type "tuple", false, rfl, .ty _, .base .non, kit_ty (by decide +kernel), ?_⟩
        exact ⟨false, rfl, ite2 (fun _ => q) (fun e => absurd rfl e)⟩
      · refine ⟨.ref q0, rfl, .ref q0, .ty "tuple", .type "list", .type "tuple", false, rfl, .ty _, .base (.lst e0), kit_ty (by decide +kernel), ?_⟩
        exact ⟨false, rfl, ite2 (fun _ => q) (fun e => absurd rfl e)⟩
      · refine ⟨.ref q0, rfl, .ref q0, .ty "tuple", .type "tuple", .type "tuple", true, rfl, .ty _, .base (.tup e0), kit_ty (by decide +kernel), ?_⟩
        refine ⟨true, rfl, ite2 (fun e => absurd e (by decide)) (fun _ => ?_)⟩
        refine ⟨.ref q0, rfl, q0, _, rfl, .inr (SqT.of e0), .ref pa, rfl, pa, C, dxa, _, _, rfl, ea, X.cl, X.nN, sgf_n n ta, rfl, _, rfl, ite2 (fun e => q) (fun e => ?_)⟩
        have hlen : xs.length = n := by
          have e' : ¬ (!decide (nv xs.length = nv n)) = true := e
          rw [ne_nv] at e'
          simpa using e'
        rcases hbad with hb | ⟨x, r, rfl, bad⟩
        · exact absurd hlen hb
        refine ⟨.ref q0, rfl, q0, rfl, ⟨_, SqT.of e0⟩, ?_⟩
        refine for_tup (xs := x :: r) (fun j σ H5 => j = 0 ∧ H5 = H ∧ σ = [some (.ref pa), some (.ref pb), some (.ref q0), none, none]) ⟨rfl, rfl, rfl⟩ (fun j σ H5 _ h => SqT.of (by rw [h.2.1]; exact e0)) (fun j y σ H5 hx2 h => ?_) (fun σ H5 h => ?_)
        · obtain ⟨rfl, rfl, rfl⟩ := h
          cases (Option.some.inj hx2)
          rcases bad with rfl | ⟨b, rfl⟩ | ⟨i, rfl, hi⟩
          · exact ⟨.non, rfl, .inr (.inl ⟨rfl, false, rfl, ite2 (fun _ => q) (fun e => absurd rfl e)⟩)⟩
          · exact ⟨.bl b, rfl, .inr (.inr ⟨b, rfl, false, rfl, ite2 (fun _ => q) (fun e => absurd rfl e)⟩)⟩
          · refine ⟨.int i, rfl, .inl ⟨i, rfl, true, rfl, ite2 (fun e => absurd e (by decide)) (fun _ => ?_)⟩⟩
            refine ⟨.int i, rfl, i, 0, rfl, rfl, _, rfl, ite2 (fun e => q) (fun e => ?_)⟩
            refine ⟨.int i, rfl, .ref pb, rfl, pb, C, dxb, _, _, rfl, eb, X.cl, X.nN, sgf_n m tb, i, (m : Int), rfl, rfl, _, rfl, ite2 (fun e => q) (fun e2 => ?_)⟩
            exfalso
            have h1 := of_decide_eq_false (Bool.eq_false_iff.mpr e)
            have h2 := of_decide_eq_false (Bool.eq_false_iff.mpr e2)
            omega
        · exact absurd h.1 (Nat.succ_ne_zero _)
end
end K35
set_option Elab.async false
set_option linter.all false
set_option maxRecDepth 100000
set_option maxHeartbeats 4000000
namespace K35
open PySem PySem.Spec PyProof.Rows L2
abbrev nClose : List Str := ["s", "known", "made", "at", "y", "left", "right", "product"]
abbrev t3 (t : Trip) : List Nat := [t.1, t.2.1, t.2.2]
/-- all stays but what stands at p -/
def But (p : Addr) (H H' : Hp) : Prop := ∀ b o, b ≠ p → H b = some o → H' b = some o
theorem But.refl {p : Addr} {H : Hp} : But p H H := fun _ _ _ e => e
theorem But.trans {p : Addr} {H H1 H2 : Hp} (x : But p H H1) (y : But p H1 H2) : But p H H2 := fun b o hb e => y b o hb (x b o hb e)
theorem But.set {p : Addr} {H H1 : Hp} {o : HO} (x : But p H H1) : But p H (upd H1 p o) := fun b u hb e => by rw [upd_ne hb]; exact x b u hb e
theorem But.new {p q : Addr} {H H1 : Hp} {o : HO} (x : But p H H1) (hq : H q = none) : But p H (upd H1 q o) := fun b u hb e => by rw [upd_ne (ne_of_none e hq)]; exact x b u hb e
theorem But.free {p q : Addr} {H H1 : Hp} (x : But p H H1) (hp : q ≠ p) (hn : H1 q = none) : H q = none := by
  cases z : H q with
  | none => rfl
  | some o => rw [x q o hp z] at hn; cases hn
theorem But.lay {p q : Addr} {H H1 : Hp} {o : HO} (x : But p H H1) (hp : q ≠ p) (hn : H1 q = none) : But p H (upd H1 q o) := x.new (x.free hp hn)
theorem But.kt {p : Addr} {H H1 : Hp} {ys : List V} (x : But p H H1) (e : H p = some (.lst ys)) : KT H H1 := fun b xs eb => x b _ (ne_of eb e (fun z => nomatch z)) eb
theorem Made.leng {T : List (List Nat)} {k0 : List Nat} {md : List Trip} {kn : List Nat} (h : Made T k0 md kn) : kn.length = k0.length + md.length := by
  induction h with
  | nil => simp
  | snoc _ _ _ _ ih => rw [List.length_append, List.length_append, ih]; simp; omega
theorem sBut {p : Addr} {H H1 : Hp} (x : Same H H1) : But p H H1 := fun b o _ e => x b o e
theorem inV_nv (a : Nat) : ∀ l : List Nat, inV (nv a) (l.map nv) = decide (a ∈ l)
  | [] => rfl
  | b :: r => by
    have h : inV (nv a) ((b :: r).map nv) = (eqV (nv b) (nv a) || inV (nv a) (r.map nv)) := rfl
    rw [h, inV_nv a r]
    have e : eqV (nv b) (nv a) = decide (b = a) := by
      show ((b : Int) == (a : Int)) = decide (b = a)
      by_cases hh : b = a
      · subst hh; simp
      · rw [decide_eq_false hh]; simp; omega
    rw [e]
    by_cases hh : b = a
    · subst hh; simp
    · have hh' : ¬ a = b := fun z => hh z.symm
      simp [hh, hh']
theorem flat_nv : ∀ l : List Nat, (l.map nv).all flatV = true
  | [] => rfl
  | _ :: r => by
    show (true && (r.map nv).all flatV) = true
    rw [flat_nv r]; rfl
theorem cut_take (xs : List V) (k : Nat) : cutV xs none (some (k : Int)) = xs.take k := by
  unfold cutV
  rw [HT.sIx_none, HT.sIx_nat, List.drop_zero, Nat.sub_zero]
  by_cases h : k ≤ xs.length
  · rw [Nat.min_eq_left h]
  · rw [Nat.min_eq_right (by omega), List.take_length, List.take_of_length_le (by omega)]
section
variable {P : Program} {w : World} {K : PySem.W.Frag} {mg : Str → Option Value} {base : Heap}
def spClose (C : Addr) : Sp := fun vs H Q _ => ∃ (ps pk : Addr) (n : Nat) (T : List (List Nat)) (k0 : List Nat), vs = [.ref ps, .ref pk] ∧ n ≤ 24 ∧ Sg n T ∧ SgAt C H ps n T ∧ H pk = some (.lst (k0.map nv)) ∧ k0.Nodup ∧ (∀ z ∈ k0, z < n) ∧
  ∀ (p : Addr) (H' : Hp) (md : List Trip) (kn : List Nat), H p = none → But pk H H' → H' pk = some (.lst (kn.map nv)) → TabL H' p (md.map t3) → Made T k0 md kn → (∀ l ∈ kn, ∀ r ∈ kn, el T l r ∈ kn) → Q (.ref p) H'
theorem ok_close {f C : Addr} {fd : FuncData} {k : Nat} (F : Fun K "close" "close" sClose f fd) (X : Txt K C) (m_len : mg "len" = none) (m_list : mg "list" = none) : FnOk P w K mg base CX0 (k + 1) f fd ["s", "known"] (spClose C) := by
  refine F.ok scClose (fun vs H Q E h => ?_) (fun cdv A outer s H vs Q E hr h => ?_)
  · obtain ⟨ps, pk, n, T, k0, rfl, _⟩ := h
    rfl
  · obtain ⟨ps, pk, n, T, k0, rfl, hn, sg, ha, ek, nd, hk, q⟩ := h
    obtain ⟨dxa, ta, ea, tT⟩ := ha
    refine ⟨_, (pss_cons (ps_set (i := 2) scClose.nd rfl (.inl rfl) (pe_lst pa_nil))
  (pss_cons (ps_set (i := 3) scClose.nd rfl (.inl rfl) pe_int)
  (pss_cons (ps_while PassesOwn.never (pt_cmpR op_lt (pv 3) (pe_callB (cLen K) (by rfl) m_len PySem.boot_len (pa_cons (pv 1) pa_nil)) (nomark _))
  (pss_cons (ps_for PassesOwn.never rfl (piL K (pe_callTy (cList K) (by rfl) m_list PyProof.Rows.boot_list (pa_cons (pe_slice (slL K) (pv 1) po_none (po_some (pe_op op_add (pv 3) pe_int))) pa_nil))) (pg_name (i := 4) scClose.nd rfl (.inl rfl))
  (pss_one (ps_for PassesOwn.never rfl (piT K (pe_tup (pa_cons (pe_tup (pa_cons (pe_ix (ixL K) (pv 1) (pv 3) (fun _ _ => rfl)) (pa_cons (pv 4) pa_nil))) (pa_cons (pe_tup (pa_cons (pv 4) (pa_cons (pe_ix (ixL K) (pv 1) (pv 3) (fun _ _ => rfl)) pa_nil))) pa_nil)))) (pg_tup rfl (pgs_cons (pg_name (i := 5) scClose.nd rfl (.inl rfl)) (pgs_cons (pg_name (i := 6) scClose.nd rfl (.inl rfl)) pgs_nil)))
  (pss_cons (ps_set (i := 7) scClose.nd rfl (.inl rfl) (pe_ix (ixT K) (pe_ix (ixT K) (pe_fld (pv 0) rfl) (pv 5) (fun _ _ => rfl)) (pv 6) (fun _ _ => rfl)))
  (pss_one (ps_if (pt_cmpR (oNotInS K) (pv 7) (pv 1) rfl)
  (pss_cons (ps_expr (pBm K PySem.F.plainAttrs_list PySem.F.slot_list_append PySem.F.type_list_append mt_append (pv 1) (pa_cons (pv 7) pa_nil)))
  (pss_one (ps_expr (pBm K PySem.F.plainAttrs_list PySem.F.slot_list_append PySem.F.type_list_append mt_append (pv 2) (pa_cons (pe_tup (pa_cons (pv 7) (pa_cons (pv 5) (pa_cons (pv 6) pa_nil)))) pa_nil)))))
  pss_nil))))))
  (pss_one (ps_aug (i := 3) scClose.nd rfl (.inl rfl) pe_int ip_add))))
  (pss_one (ps_ret (pv 2)))))), ?_⟩
    refine ⟨Nat.zero_le _, fun pm nM => ?_⟩
    have pmk : pm ≠ pk := (ne_of_none ek nM).symm
    have hs0 : ∀ {st : KM} {at_ : Nat}, CloseW T k0 at_ st → (∀ z ∈ st.1, z < n) ∧ st.1.length ≤ n := fun {st at_} w => by
      have h1 := w.made.lt sg hk
      exact ⟨h1, nodup_bound n st.1 (w.made.nodup nd) h1⟩
    refine ⟨fun mm σ H3 => ∃ (at_ : Nat) (st : KM) (y4 y5 y6 y7 : Option V), σ = [some (.ref ps), some (.ref pk), some (.ref pm), some (nv at_), y4, y5, y6, y7] ∧ mm = n - at_ ∧ But pk H H3 ∧ H3 pk = some (.lst (st.1.map nv)) ∧ TabL H3 pm (st.2.map t3) ∧ CloseW T k0 at_ st,
      ⟨_, 0, (k0, []), none, none, none, none, rfl, rfl, But.refl.new nM, by rw [upd_ne pmk.symm]; exact ek, ⟨[], upd_same, Rows.nil⟩, .nil, Nat.zero_le _, fun i j hi => absurd hi (Nat.not_lt_zero _)⟩, ?_⟩
    rintro mm σ H3 ⟨at_, st, y4, y5, y6, y7, rfl, rfl, bt, ek3, tM, cw⟩
    obtain ⟨hlt, hlen⟩ := hs0 cw
    refine ⟨nv at_, rfl, .ref pk, rfl, pk, _, rfl, .inl (SqL.of ek3), (at_ : Int), _, rfl, rfl, _, rfl, ite2 (fun e => ?_) (fun e => ?_)⟩
    · have hat : at_ < st.1.length := by have := of_decide_eq_true e; rw [nv_len] at this; omega
      refine ⟨fun σ' H' => ∃ (st : KM) (y4 y5 y6 y7 : Option V), σ' = [some (.ref ps), some (.ref pk), some (.ref pm), some (nv (at_ + 1)), y4, y5, y6, y7] ∧ But pk H H' ∧ H' pk = some (.lst (st.1.map nv)) ∧ TabL H' pm (st.2.map t3) ∧ CloseW T k0 (at_ + 1) st,
        fun σ' H' h => ⟨n - (at_ + 1), by omega, at_ + 1, h.choose, h.choose_spec.choose, h.choose_spec.choose_spec.choose, h.choose_spec.choose_spec.choose_spec.choose, h.choose_spec.choose_spec.choose_spec.choose_spec.choose, h.choose_spec.choose_spec.choose_spec.choose_spec.choose_spec.1, rfl, h.choose_spec.choose_spec.choose_spec.choose_spec.choose_spec.2⟩, ?_⟩
      have esl := cut_take (st.1.map nv) (at_ + 1)
      refine ⟨.ref pk, rfl, nv at_, rfl, _, _, rfl, rfl, (at_ : Int) + 1, rfl, pk, _, rfl, SqL.of ek3, fun c nc => ?_⟩
      have cpk : c ≠ pk := (ne_of_none ek3 nc).symm
      have cpm : c ≠ pm := by
        obtain ⟨qs, e, _⟩ := tM
        exact (ne_of_none e nc).symm
      have bt1 := bt.lay (o := .lst (cutV (st.1.map nv) none (some ((at_ : Int) + 1)))) cpk nc
      refine ⟨c, _, rfl, .inl (SqL.of upd_same), fun d ndd => ?_⟩
      have ek4 : (upd H3 c (.lst (cutV (st.1.map nv) none (some ((at_ : Int) + 1))))) pk = some (.lst (st.1.map nv)) := by rw [upd_ne cpk.symm]; exact ek3
      have dpk : d ≠ pk := (ne_of_none ek4 ndd).symm
      have tM4 := tM.beside (o := .lst (cutV (st.1.map nv) none (some ((at_ : Int) + 1)))) nc
      have dpm : d ≠ pm := by
        obtain ⟨qs, e, _⟩ := tM4
        exact (ne_of_none e ndd).symm
      have bt2 := bt1.lay (o := .lst (cutV (st.1.map nv) none (some ((at_ : Int) + 1)))) dpk ndd
      have tM5 := tM4.beside (o := .lst (cutV (st.1.map nv) none (some ((at_ : Int) + 1)))) ndd
      obtain ⟨ys, hys⟩ : ∃ ys, ys = st.1.take (at_ + 1) := ⟨_, rfl⟩
      have ecut : cutV (st.1.map nv) none (some ((at_ : Int) + 1)) = ys.map nv := by rw [hys, List.map_take]; exact esl
      have ndH : H d = none := bt1.free dpk ndd
      refine ⟨d, rfl, ⟨_, SqL.of upd_same⟩, ?_⟩
      have hkm : st.1.getD at_ 0 ∈ st.1 := getD_mem hat
      refine for_list (xs := ys.map nv) (fun j σ H4 => ∃ (y4 y5 y6 y7 : Option V), σ = [some (.ref ps), some (.ref pk), some (.ref pm), some (nv at_), y4, y5, y6, y7] ∧ But pk H H4 ∧ H4 d = some (.lst (ys.map nv)) ∧
          H4 pk = some (.lst (((ys.take j).foldl (inn T (st.1.getD at_ 0)) st).1.map nv)) ∧ TabL H4 pm (((ys.take j).foldl (inn T (st.1.getD at_ 0)) st).2.map t3)) ?_ (fun j σ H4 _ h => ?_) (fun j x σ H4 hx h => ?_) (fun σ H4 h => ?_)
      · refine ⟨y4, y5, y6, y7, rfl, bt2, by rw [upd_same, ecut], ?_, tM5⟩
        rw [upd_ne dpk.symm]; exact ek4
      · obtain ⟨_, _, _, _, _, _, ed, _⟩ := h
        exact SqL.of ed
      · obtain ⟨z4, z5, z6, z7, rfl, bt4, ed4, ek5, tM6⟩ := h
        obtain ⟨y, ey, rfl⟩ : ∃ y, ys[j]? = some y ∧ x = nv y := by
          rw [List.getElem?_map] at hx
          cases ev : ys[j]? with
          | none => rw [ev] at hx; cases hx
          | some v => rw [ev] at hx; exact ⟨v, rfl, (Option.some.inj hx).symm⟩
        have hys' : ∀ y ∈ ys, y ∈ st.1 := fun y hy => by rw [hys] at hy; exact List.mem_of_mem_take hy
        have hyn : y < n := hlt y (hys' y (List.mem_of_getElem? ey))
        have hkn : st.1.getD at_ 0 < n := hlt _ hkm
        obtain ⟨kk, hkk⟩ : ∃ kk, kk = st.1.getD at_ 0 := ⟨_, rfl⟩
        rw [← hkk] at hkn hkm
        obtain ⟨stj, hstj⟩ : ∃ stj, stj = (ys.take j).foldl (inn T kk) st := ⟨_, rfl⟩
        obtain ⟨made_j, _, more, emore⟩ := innf_made (k := kk) (ys.take j) st cw.made hkm (fun z hz => hys' z (List.mem_of_mem_take hz))
        rw [← hstj] at made_j emore
        rw [← hkk, ← hstj] at ek5 tM6
        have eat : stj.1[at_]? = some kk := by
          rw [emore, List.getElem?_append_left hat, getD_get (d := 0) hat, hkk]
        refine ⟨.ref pk, rfl, nv at_, rfl, pk, _, (at_ : Int), nv kk, rfl, rfl, SqL.of ek5, atI_nat (nv_at eat), nv y, rfl, by show 2 ≤ sizeLine; decide, fun z1 nz1 => ?_⟩
        have z1k : z1 ≠ pk := (ne_of_none ek5 nz1).symm
        have b1 := bt4.lay (o := .tup [nv kk, nv y]) z1k nz1
        have f1 : (upd H4 z1 (.tup [nv kk, nv y])) pk = some (.lst (stj.1.map nv)) := by rw [upd_ne z1k.symm]; exact ek5
        have g1 := tM6.beside (o := .tup [nv kk, nv y]) nz1
        have d1 : (upd H4 z1 (.tup [nv kk, nv y])) d = some (.lst (ys.map nv)) := by rw [upd_ne (ne_of_none ed4 nz1)]; exact ed4
        refine ⟨nv y, rfl, .ref pk, rfl, nv at_, rfl, pk, _, (at_ : Int), nv kk, rfl, rfl, SqL.of f1, atI_nat (nv_at eat), by show 2 ≤ sizeLine; decide, fun z2 nz2 => ?_⟩
        have z2k : z2 ≠ pk := (ne_of_none f1 nz2).symm
        have b2 := b1.lay (o := .tup [nv y, nv kk]) z2k nz2
        have f2 : (upd (upd H4 z1 (.tup [nv kk, nv y])) z2 (.tup [nv y, nv kk])) pk = some (.lst (stj.1.map nv)) := by rw [upd_ne z2k.symm]; exact f1
        have g2 := g1.beside (o := .tup [nv y, nv kk]) nz2
        have d2 : (upd (upd H4 z1 (.tup [nv kk, nv y])) z2 (.tup [nv y, nv kk])) d = some (.lst (ys.map nv)) := by rw [upd_ne (ne_of_none d1 nz2)]; exact d1
        have h21 : (upd (upd H4 z1 (.tup [nv kk, nv y])) z2 (.tup [nv y, nv kk])) z1 = some (.tup [nv kk, nv y]) := by rw [upd_ne (ne_of_none upd_same nz2)]; exact upd_same
        refine ⟨by show 2 ≤ sizeLine; decide, fun zt nzt => ?_⟩
        have ztk : zt ≠ pk := (ne_of_none f2 nzt).symm
        have b3 := b2.lay (o := .tup [.ref z1, .ref z2]) ztk nzt
        have f3 : (upd (upd (upd H4 z1 (.tup [nv kk, nv y])) z2 (.tup [nv y, nv kk])) zt (.tup [.ref z1, .ref z2])) pk = some (.lst (stj.1.map nv)) := by rw [upd_ne ztk.symm]; exact f2
        have g3 := g2.beside (o := .tup [.ref z1, .ref z2]) nzt
        have d3 : (upd (upd (upd H4 z1 (.tup [nv kk, nv y])) z2 (.tup [nv y, nv kk])) zt (.tup [.ref z1, .ref z2])) d = some (.lst (ys.map nv)) := by rw [upd_ne (ne_of_none d2 nzt)]; exact d2
        have h31 : (upd (upd (upd H4 z1 (.tup [nv kk, nv y])) z2 (.tup [nv y, nv kk])) zt (.tup [.ref z1, .ref z2])) z1 = some (.tup [nv kk, nv y]) := by rw [upd_ne (ne_of_none h21 nzt)]; exact h21
        have h32 : (upd (upd (upd H4 z1 (.tup [nv kk, nv y])) z2 (.tup [nv y, nv kk])) zt (.tup [.ref z1, .ref z2])) z2 = some (.tup [nv y, nv kk]) := by rw [upd_ne (ne_of_none upd_same nzt)]; exact upd_same
        refine ⟨zt, rfl, ⟨_, SqT.of upd_same⟩, ?_⟩
        obtain ⟨prs, hprs⟩ : ∃ prs : List (Nat × Nat), prs = [(kk, y), (y, kk)] := ⟨_, rfl⟩
        let ad : KM → Nat × Nat → KM := fun s p => addP T s p.1 p.2
        have einn : (prs.take 2).foldl ad stj = inn T kk stj y := by rw [hprs]; rfl
        refine for_tup (xs := [.ref z1, .ref z2]) (fun i σ H5 => (Made T k0 ((prs.take i).foldl ad stj).2 ((prs.take i).foldl ad stj).1 ∧ kk ∈ ((prs.take i).foldl ad stj).1 ∧ y ∈ ((prs.take i).foldl ad stj).1) ∧ ∃ (y5 y6 y7 : Option V), σ = [some (.ref ps), some (.ref pk), some (.ref pm), some (nv at_), some (nv y), y5, y6, y7] ∧ But pk H H5 ∧ H5 d = some (.lst (ys.map nv)) ∧ H5 zt = some (.tup [.ref z1, .ref z2]) ∧
            H5 z1 = some (.tup [nv kk, nv y]) ∧ H5 z2 = some (.tup [nv y, nv kk]) ∧ H5 pk = some (.lst (((prs.take i).foldl ad stj).1.map nv)) ∧ TabL H5 pm (((prs.take i).foldl ad stj).2.map t3)) ?_ (fun i σ H5 _ h => ?_) (fun i x σ H5 hx h => ?_) (fun σ H5 h => ?_)
        · exact ⟨⟨made_j, by rw [show ((prs.take 0).foldl ad stj) = stj from rfl, emore]; exact List.mem_append_left _ hkm, by rw [show ((prs.take 0).foldl ad stj) = stj from rfl, emore]; exact List.mem_append_left _ (hys' y (List.mem_of_getElem? ey))⟩, _, _, _, rfl, b3, d3, upd_same, h31, h32, f3, g3⟩
        · obtain ⟨_, _, _, _, _, _, _, et, _⟩ := h
          exact SqT.of et
        · obtain ⟨⟨hM1, hM2, hM3⟩, w5, w6, w7, rfl, bt5, ed5, ezt, ez1, ez2, ek6, tM7⟩ := h
          obtain ⟨l, r, z', epr, rfl, ez', hln, hrn, hlm, hrm⟩ : ∃ l r z', prs[i]? = some (l, r) ∧ x = .ref z' ∧ H5 z' = some (.tup [nv l, nv r]) ∧ l < n ∧ r < n ∧ l ∈ ((prs.take i).foldl ad stj).1 ∧ r ∈ ((prs.take i).foldl ad stj).1 := by
            have hpr0 : prs[0]? = some (kk, y) := by rw [hprs]; rfl
            have hpr1 : prs[1]? = some (y, kk) := by rw [hprs]; rfl
            match i, hx, hM2, hM3 with
            | 0, hx, hM2, hM3 => exact ⟨kk, y, z1, hpr0, (Option.some.inj hx).symm, ez1, hkn, hyn, hM2, hM3⟩
            | 1, hx, hM2, hM3 => exact ⟨y, kk, z2, hpr1, (Option.some.inj hx).symm, ez2, hyn, hkn, hM3, hM2⟩
            | i + 2, hx, _, _ => simp at hx
          obtain ⟨sti, hsti⟩ : ∃ sti, sti = (prs.take i).foldl ad stj := ⟨_, rfl⟩
          have enext : (prs.take (i + 1)).foldl ad stj = addP T sti l r := by rw [foldl_take ad stj epr, ← hsti]
          rw [← hsti] at ek6 tM7 hM1 hM2 hM3 hlm hrm
          refine ⟨z', [nv l, nv r], rfl, SqT.of ez', rfl, nv l, [nv r], rfl, nv r, [], rfl, rfl, ?_⟩
          obtain ⟨r1, er, ev⟩ := sg.at hln hrn
          obtain ⟨q1, p1, e1, e2, e3, e4⟩ := (tT.mono (bt5.kt ek)).at er ev
          have psk : ps ≠ pk := ne_of ea ek (fun z => nomatch z)
          refine ⟨.ref ps, rfl, ps, C, dxa, _, _, rfl, bt5 _ _ psk ea, X.cl, X.nT, sgf_t n ta, nv l, rfl, ta, _, (l : Int), .ref p1, rfl, rfl, SqT.of e1, atI_nat e2, nv r, rfl, p1, _, (r : Int), _, rfl, rfl, SqT.of e3, atI_nat e4, ?_⟩
          obtain ⟨nM1, _, more2, nM3⟩ := addP_made hM1 hlm hrm
          have sub : ∀ z ∈ sti.1, z ∈ (addP T sti l r).1 := fun z hz => by rw [nM3]; exact List.mem_append_left _ hz
          have nMs : Made T k0 (addP T sti l r).2 (addP T sti l r).1 ∧ kk ∈ (addP T sti l r).1 ∧ y ∈ (addP T sti l r).1 := ⟨nM1, sub _ hM2, sub _ hM3⟩
          have hl1 : sti.1.length ≤ n := nodup_bound n sti.1 (hM1.nodup nd) (hM1.lt sg hk)
          have hl2 := hM1.leng
          refine ⟨nv (el T l r), rfl, .ref pk, rfl, pk, _, rfl, .inl (SqL.of ek6), rfl, flat_nv _, _, rfl, ?_⟩
          rw [inV_nv]
          by_cases hin : el T l r ∈ sti.1
          · rw [decide_eq_true hin]
            have eadd : addP T sti l r = sti := if_pos hin
            rw [eadd] at enext nMs
            refine ⟨by rw [enext]; exact nMs, _, _, _, rfl, bt5, ed5, ezt, ez1, ez2, ?_, ?_⟩
            · rw [enext]; exact ek6
            · rw [enext]; exact tM7
          · rw [decide_eq_false hin]
            have eadd : addP T sti l r = (sti.1 ++ [el T l r], sti.2 ++ [(el T l r, l, r)]) := if_neg hin
            rw [eadd] at enext nMs
            obtain ⟨ms, eM, rM⟩ := id tM7
            refine ⟨.ref pk, rfl, .inl ⟨rfl, _, SqL.of ek6⟩, nv (el T l r), rfl, pk, _, _, rfl, rfl, ek6, by rw [nv_len]; exact small1000 (by omega), ?_⟩
            have eM' : (upd H5 pk (.lst (sti.1.map nv ++ [nv (el T l r)]))) pm = some (.lst (ms.map V.ref)) := by rw [upd_ne pmk]; exact eM
            have rM' : Rows (upd H5 pk (.lst (sti.1.map nv ++ [nv (el T l r)]))) ms (sti.2.map t3) := rM.mono (KT.lst ek6)
            refine ⟨.ref pm, rfl, .inl ⟨rfl, _, SqL.of eM'⟩, nv (el T l r), rfl, nv l, rfl, nv r, rfl, by show 3 ≤ sizeLine; decide, fun zz nzz => ?_⟩
            have zzm : pm ≠ zz := ne_of_none eM' nzz
            have zzk : zz ≠ pk := (ne_of_none upd_same nzz).symm
            refine ⟨pm, ms.map V.ref, .ref zz, rfl, rfl, by rw [upd_ne zzm]; exact eM', ?_, ?_⟩
            · rw [TabL.len eM' rM', List.length_map]; exact small1000 (by omega)
            have keep : ∀ {b : Addr} {o : HO}, b ≠ pk → b ≠ pm → H5 b = some o → (upd (upd (upd H5 pk (.lst (sti.1.map nv ++ [nv (el T l r)]))) zz (.tup [nv (el T l r), nv l, nv r])) pm (.lst (ms.map V.ref ++ [.ref zz]))) b = some o := fun {b o} h1 h2 e => by
              rw [upd_ne h2, upd_ne (ne_of_none (by rw [upd_ne h1]; exact e) nzz), upd_ne h1]; exact e
            have nt : ∀ {b : Addr} {xs : List V}, H5 b = some (.tup xs) → b ≠ pk ∧ b ≠ pm := fun e => ⟨ne_of e ek6 (fun z => nomatch z), ne_of e eM (fun z => nomatch z)⟩
            have bt6 := ((bt5.set (o := .lst (sti.1.map nv ++ [nv (el T l r)]))).lay (o := .tup [nv (el T l r), nv l, nv r]) zzk nzz).new (o := .lst (ms.map V.ref ++ [.ref zz])) nM
            refine ⟨by rw [enext]; exact nMs, _, _, _, rfl, bt6, keep dpk dpm ed5, keep (nt ezt).1 (nt ezt).2 ezt, keep (nt ez1).1 (nt ez1).2 ez1, keep (nt ez2).1 (nt ez2).2 ez2, ?_, ?_⟩
            · rw [enext, upd_ne pmk.symm, upd_ne zzk.symm, upd_same, List.map_append]; rfl
            · rw [enext]
              have rM2 := (rM'.mono (KT.new (o := .tup [nv (el T l r), nv l, nv r]) nzz)).snoc (q := zz) (r := t3 (el T l r, l, r)) upd_same
              refine ⟨ms ++ [zz], by rw [upd_same, List.map_append]; rfl, ?_⟩
              rw [List.map_append]
              exact rM2.mono (KT.lst (by rw [upd_ne zzm]; exact eM'))
        · obtain ⟨⟨hM1, hM2, hM3⟩, w5, w6, w7, rfl, bt5, ed5, ezt, ez1, ez2, ek6, tM7⟩ := h
          have einn' : (prs.take [V.ref z1, V.ref z2].length).foldl ad stj = inn T kk stj y := einn
          rw [einn'] at ek6 tM7
          have efold : (ys.take (j + 1)).foldl (inn T kk) st = inn T kk stj y := by rw [foldl_take (inn T kk) st ey, ← hstj]
          rw [← efold, hkk] at ek6 tM7
          exact ⟨_, _, _, _, rfl, bt5, ed5, ek6, tM7⟩
      · obtain ⟨z4, z5, z6, z7, rfl, bt4, ed4, ek5, tM6⟩ := h
        rw [take_all (nv_len ys).symm] at ek5 tM6
        subst hys
        exact ⟨nv at_, rfl, (at_ : Int), 1, rfl, rfl, roundC T at_ st, _, _, _, _, rfl, bt4, ek5, tM6, cw.next hat⟩
    · have hat : ¬ at_ < st.1.length := by have := of_decide_eq_false (Bool.eq_false_iff.mpr e); rw [nv_len] at this; omega
      exact ⟨.ref pm, rfl, q pm H3 st.2 st.1 nM bt ek3 tM cw.made (cw.done hat)⟩
end
end K35
set_option Elab.async false
set_option linter.all false
set_option maxRecDepth 100000
set_option maxHeartbeats 4000000
namespace K35
open PySem PySem.Spec PyProof.Rows L2
abbrev nClosing : List Str := ["s", "known", "found", "x", "made"]
def StepAt (H : Hp) (a : Addr) (st : Step) : Prop := ∃ tk tm : Addr, H a = some (.tup [nv st.x, .ref tk, .ref tm]) ∧ H tk = some (.tup (st.kn.map nv)) ∧ TabT H tm (st.md.map t3)
theorem StepAt.mono {H H' : Hp} {a : Addr} {st : Step} (h : StepAt H a st) (k : KT H H') : StepAt H' a st := by
  obtain ⟨tk, tm, e1, e2, e3⟩ := h
  exact ⟨tk, tm, k _ _ e1, k _ _ e2, e3.mono k⟩
structure SRows (H : Hp) (qs : List Addr) (sts : List Step) : Prop where
  len : qs.length = sts.length
  at_ : ∀ (i : Nat) (q : Addr) (st : Step), qs[i]? = some q → sts[i]? = some st → StepAt H q st
theorem SRows.nil {H : Hp} : SRows H [] [] := ⟨rfl, fun i q r h => by simp at h⟩
theorem SRows.mono {H H' : Hp} {qs : List Addr} {sts : List Step} (h : SRows H qs sts) (k : KT H H') : SRows H' qs sts := ⟨h.len, fun i q st e1 e2 => (h.at_ i q st e1 e2).mono k⟩
theorem SRows.snoc {H : Hp} {qs : List Addr} {T : List Step} {q : Addr} {r : Step} (h : SRows H qs T) (e : StepAt H q r) : SRows H (qs ++ [q]) (T ++ [r]) := by
  refine ⟨by rw [List.length_append, List.length_append, h.len]; rfl, fun i q' r' e1 e2 => ?_⟩
  have hl := h.len
  by_cases hi : i < qs.length
  · rw [List.getElem?_append_left hi] at e1
    rw [List.getElem?_append_left (by omega)] at e2
    exact h.at_ i q' r' e1 e2
  · have hi2 : i = qs.length := by
      have h1 := (List.getElem?_eq_some_iff.mp e1).1
      rw [List.length_append, List.length_singleton] at h1
      omega
    subst hi2
    rw [List.getElem?_append_right (Nat.le_refl _), Nat.sub_self] at e1
    rw [List.getElem?_append_right (by omega), hl, Nat.sub_self] at e2
    cases Option.some.inj e1
    cases Option.some.inj e2
    exact e
def StepsAt (H : Hp) (p : Addr) (sts : List Step) : Prop := ∃ qs : List Addr, H p = some (.lst (qs.map V.ref)) ∧ SRows H qs sts
theorem Pre.count {n : Nat} {T : List (List Nat)} {sts : List Step} {kn : List Nat} (p : Pre n T sts kn) : sts.length ≤ kn.length := by
  induction p with
  | nil => exact Nat.le_refl _
  | @snoc sts kn st _ _ _ _ h4 _ ih =>
    have := h4.leng
    rw [List.length_append] at this
    rw [List.length_append]
    simp at this ⊢
    omega
section
variable {P : Program} {w : World} {K : PySem.W.Frag} {mg : Str → Option Value} {base : Heap}
def spClosing (C : Addr) : Sp := fun vs H Q _ => ∃ (ps : Addr) (n : Nat) (T : List (List Nat)), vs = [.ref ps] ∧ n ≤ 24 ∧ Sg n T ∧ SgAt C H ps n T ∧
  ∀ (p : Addr) (H' : Hp) (sts : List Step), H p = none → Same H H' → StepsAt H' p sts → StepsOk n T [] sts → Q (.ref p) H'
theorem ok_closing {f fL C : Addr} {fd fdL : FuncData} {k : Nat} (F : Fun K "closing" "closing" sClosing f fd) (X : Txt K C)
    (GL : FnOk P w K mg base CX0 k fL fdL ["s", "known"] (spClose C)) (bL : Binds K fdL ["s", "known"] []) (kL : PySem.W.keepIn K (.ref fL) = true) (gL : mg "close" = some (.ref fL))
    (m_range : mg "range" = none) (m_tuple : mg "tuple" = none) : FnOk P w K mg base CX0 (k + 1) f fd ["s"] (spClosing C) := by
  refine F.ok scClosing (fun vs H Q E h => ?_) (fun cdv A outer s H vs Q E hr h => ?_)
  · obtain ⟨ps, n, T, rfl, _⟩ := h
    rfl
  · obtain ⟨ps, n, T, rfl, hn, sg, ha, q⟩ := h
    obtain ⟨dxa, ta, ea, tT⟩ := id ha
    refine ⟨_, (pss_cons (ps_set (i := 1) scClosing.nd rfl (.inl rfl) (pe_lst pa_nil))
  (pss_cons (ps_set (i := 2) scClosing.nd rfl (.inl rfl) (pe_lst pa_nil))
  (pss_cons (ps_for PassesOwn.never rfl (pi_range1 (by rfl) m_range (pa_cons (pe_fld (pv 0) rfl) pa_nil)) (pg_name (i := 3) scClosing.nd rfl (.inl rfl))
  (pss_one (ps_if (pt_cmpR (oNotInS K) (pv 3) (pv 1) rfl)
  (pss_cons (ps_expr (pBm K PySem.F.plainAttrs_list PySem.F.slot_list_append PySem.F.type_list_append mt_append (pv 1) (pa_cons (pv 3) pa_nil)))
  (pss_cons (ps_set (i := 4) scClosing.nd rfl (.inl rfl) (pe_call GL hr (by rfl) gL kL bL .nil pass0 (pa_cons (pv 0) (pa_cons (pv 1) pa_nil))))
  (pss_one (ps_expr (pBm K PySem.F.plainAttrs_list PySem.F.slot_list_append PySem.F.type_list_append mt_append (pv 2) (pa_cons (pe_tup (pa_cons (pv 3) (pa_cons (pe_callTy (cTup K) (by rfl) m_tuple PyProof.Rows.boot_tuple (pa_cons (pv 1) pa_nil)) (pa_cons (pe_callTy (cTup K) (by rfl) m_tuple PyProof.Rows.boot_tuple (pa_cons (pv 4) pa_nil)) pa_nil)))) pa_nil))))))
  pss_nil)))
  (pss_one (ps_ret (pv 2)))))), ?_⟩
    refine ⟨Nat.zero_le _, fun pk nk => ⟨Nat.zero_le _, fun pf nf => ?_⟩⟩
    have pfk : pf ≠ pk := (ne_of_none upd_same nf).symm
    have nfH : H pf = none := by rw [upd_ne pfk] at nf; exact nf
    have s0 := sNew (o := .lst []) (sNew (o := .lst []) (Same.refl H) nk) nfH
    refine ⟨.ref ps, rfl, ps, C, dxa, _, _, rfl, s0 _ _ ea, X.cl, X.nN, sgf_n n ta, (n : Int), rfl, by omega, by omega, ?_⟩
    refine for_rg (n := n) (fun i σ H3 => ∃ (sts : List Step) (kn : List Nat) (y3 y4 : Option V), σ = [some (.ref ps), some (.ref pk), some (.ref pf), y3, y4] ∧ Same H H3 ∧ H3 pk = some (.lst (kn.map nv)) ∧ StepsAt H3 pf sts ∧ Pre n T sts kn ∧ ∀ z, z < i → z ∈ kn) ?_ (fun i σ H3 hi h => ?_) (fun σ H3 h => ?_)
    · exact ⟨[], [], none, none, rfl, s0, by rw [upd_ne pfk.symm]; exact upd_same, ⟨[], upd_same, SRows.nil⟩, .nil, fun z hz => absurd hz (Nat.not_lt_zero _)⟩
    · obtain ⟨sts, kn, y3, y4, rfl, sm, ek, ⟨qs, ef, rf⟩, pre, hall⟩ := h
      have hkn := pre.lt sg
      have hnd := pre.nd
      have hlen := nodup_bound n kn hnd hkn
      have hcnt := pre.count
      refine ⟨nv i, rfl, .ref pk, rfl, pk, _, rfl, .inl (SqL.of ek), rfl, flat_nv _, _, rfl, ?_⟩
      rw [inV_nv]
      by_cases hin : i ∈ kn
      · rw [decide_eq_true hin]
        refine ⟨sts, kn, _, _, rfl, sm, ek, ⟨qs, ef, rf⟩, pre, fun z hz => ?_⟩
        rcases Nat.lt_or_ge z i with h | h
        · exact hall z h
        · rw [show z = i by omega]; exact hin
      · rw [decide_eq_false hin]
        refine ⟨.ref pk, rfl, .inl ⟨rfl, _, SqL.of ek⟩, nv i, rfl, pk, _, _, rfl, rfl, ek, by rw [nv_len]; exact small1000 (by omega), ?_⟩
        have s1 := sNew (o := .lst (kn.map nv ++ [nv i])) sm nk
        have k1 : KT H3 (upd H3 pk (.lst (kn.map nv ++ [nv i]))) := KT.lst ek
        have ef1 : (upd H3 pk (.lst (kn.map nv ++ [nv i]))) pf = some (.lst (qs.map V.ref)) := by rw [upd_ne pfk]; exact ef
        refine ⟨.ref ps, rfl, .ref pk, rfl, ps, pk, n, T, kn ++ [i], rfl, hn, sg, ha.same s1, by rw [upd_same, List.map_append]; rfl, nodup_snoc hnd hin, fun z hz => ?_, fun p H4 md kn' np bt ek4 tp made cl => ?_⟩
        · rcases List.mem_append.mp hz with h | h
          · exact hkn z h
          · rw [List.mem_singleton.mp h]; exact hi
        · have s2 : Same H H4 := fun b o e => bt b o (fun z => by rw [z, nk] at e; cases e) (s1 _ _ e)
          have k2 : KT (upd H3 pk (.lst (kn.map nv ++ [nv i]))) H4 := bt.kt upd_same
          have ef2 := bt pf _ pfk ef1
          have hk1 : ∀ z ∈ kn ++ [i], z < n := fun z hz => by
            rcases List.mem_append.mp hz with h | h
            · exact hkn z h
            · rw [List.mem_singleton.mp h]; exact hi
          obtain ⟨ms, ep, rp⟩ := id tp
          refine ⟨.ref pf, rfl, .inl ⟨rfl, _, SqL.of ef2⟩, nv i, rfl, .ref pk, rfl, pk, _, rfl, .inl ⟨SqL.of ek4, fun tk ntk => ?_⟩⟩
          have e1 : (upd H4 tk (.tup (kn'.map nv))) p = some (.lst (ms.map V.ref)) := by rw [upd_ne (ne_of_none ep ntk)]; exact ep
          refine ⟨.ref p, rfl, p, _, rfl, .inl ⟨SqL.of e1, fun tm ntm => ⟨by show 3 ≤ sizeLine; decide, fun zt nzt => ?_⟩⟩⟩
          have s3 := sNew (o := .tup (kn'.map nv)) s2 (sFree s2 ntk)
          have s4 := sNew (o := .tup (ms.map V.ref)) s3 (sFree s3 ntm)
          have s5 := sNew (o := .tup [nv i, .ref tk, .ref tm]) s4 (sFree s4 nzt)
          have kk : KT H4 (upd (upd (upd H4 tk (.tup (kn'.map nv))) tm (.tup (ms.map V.ref))) zt (.tup [nv i, .ref tk, .ref tm])) := ((KT.new ntk).trans (KT.new ntm)).trans (KT.new nzt)
          have lay : ∀ {b : Addr} {o : HO}, H4 b = some o → (upd (upd (upd H4 tk (.tup (kn'.map nv))) tm (.tup (ms.map V.ref))) zt (.tup [nv i, .ref tk, .ref tm])) b = some o := fun {b o} e => by
            have e2 : (upd H4 tk (.tup (kn'.map nv))) b = some o := by rw [upd_ne (ne_of_none e ntk)]; exact e
            have e3 : (upd (upd H4 tk (.tup (kn'.map nv))) tm (.tup (ms.map V.ref))) b = some o := by rw [upd_ne (ne_of_none e2 ntm)]; exact e2
            rw [upd_ne (ne_of_none e3 nzt)]; exact e3
          have ef3 := lay ef2
          have step : StepAt (upd (upd (upd H4 tk (.tup (kn'.map nv))) tm (.tup (ms.map V.ref))) zt (.tup [nv i, .ref tk, .ref tm])) zt ⟨i, kn', md⟩ := by
            refine ⟨tk, tm, upd_same, ?_, ⟨ms, ?_, rp.mono kk⟩⟩
            · have e2 : (upd (upd H4 tk (.tup (kn'.map nv))) tm (.tup (ms.map V.ref))) tk = some (.tup (kn'.map nv)) := by rw [upd_ne (ne_of_none upd_same ntm)]; exact upd_same
              rw [upd_ne (ne_of_none e2 nzt)]; exact e2
            · rw [upd_ne (ne_of_none upd_same nzt)]; exact upd_same
          have rf3 : SRows (upd (upd (upd H4 tk (.tup (kn'.map nv))) tm (.tup (ms.map V.ref))) zt (.tup [nv i, .ref tk, .ref tm])) qs sts := ((rf.mono k1).mono k2).mono kk
          refine ⟨pf, _, _, rfl, rfl, ef3, by rw [List.length_map, rf.len]; exact small1000 (by omega), sts ++ [⟨i, kn', md⟩], kn', _, _, rfl, sNew s5 nfH, ?_, ?_, .snoc pre hi hin hall made cl, fun z hz => ?_⟩
          · rw [upd_ne pfk.symm]; exact lay ek4
          · exact ⟨qs ++ [zt], by rw [upd_same, List.map_append]; rfl, (rf3.snoc step).mono (KT.lst ef3)⟩
          · refine made.sub z ?_
            rcases Nat.lt_or_ge z i with h | h
            · exact List.mem_append_left _ (hall z h)
            · rw [show z = i by omega]; exact List.mem_append_right _ (List.mem_singleton.mpr rfl)
    · obtain ⟨sts, kn, y3, y4, rfl, sm, ek, tf, pre, hall⟩ := h
      refine ⟨.ref pf, rfl, q pf H3 sts nfH sm tf ?_⟩
      have := pre.ok [] (.nil hall)
      rwa [List.append_nil] at this
end
end K35
set_option Elab.async false
set_option linter.all false
set_option maxRecDepth 100000
set_option maxHeartbeats 4000000
namespace K35
open PySem PySem.Spec PyProof.Rows L2
/-! ### len(set(xs)) of numbers, some of them alike -/
theorem met_len (ns : List Int) : ∀ i, i ≤ ns.length → (firstMet (fun i => ns.getD i 0) i).length ≤ i ∧ ((firstMet (fun i => ns.getD i 0) i).length = i → firstMet (fun i => ns.getD i 0) i = ns.take i ∧ (ns.take i).Nodup)
  | 0, _ => ⟨Nat.le_refl _, fun _ => ⟨rfl, by simp⟩⟩
  | i + 1, h => by
    obtain ⟨ih1, ih2⟩ := met_len ns i (by omega)
    have hi : i < ns.length := by omega
    have e1 : ns.getD i 0 = ns[i] := by rw [List.getD_eq_getElem?_getD, List.getElem?_eq_getElem hi]; rfl
    have e2 : ns.take (i + 1) = ns.take i ++ [ns[i]] := by rw [List.take_add_one, List.getElem?_eq_getElem hi]; rfl
    rw [firstMet_succ]
    unfold step_dedup
    by_cases ha : ((firstMet (fun i => ns.getD i 0) i).any (· == ns.getD i 0)) = true
    · rw [if_pos ha]
      exact ⟨by omega, fun z => by omega⟩
    · rw [if_neg ha]
      refine ⟨by rw [List.length_append, List.length_singleton]; omega, fun z => ?_⟩
      rw [List.length_append, List.length_singleton] at z
      obtain ⟨f1, f2⟩ := ih2 (by omega)
      rw [f1, e1, e2]
      refine ⟨rfl, ?_⟩
      rw [List.nodup_append]
      refine ⟨f2, by simp, fun a hma b hb => ?_⟩
      rw [List.mem_singleton.mp hb]
      intro hab
      apply ha
      rw [f1, e1]
      exact List.any_eq_true.mpr ⟨a, hma, by rw [hab]; simp⟩
theorem met_nodup {ns : List Int} (h : ns.Nodup) : (firstMet (fun i => ns.getD i 0) ns.length).length = ns.length := by
  rw [RZ.firstMet_nodup h ns.length (Nat.le_refl _), List.take_length]
theorem met_iff (ns : List Int) : (firstMet (fun i => ns.getD i 0) ns.length).length = ns.length ↔ ns.Nodup :=
  ⟨fun h => by
    have := ((met_len ns ns.length (Nat.le_refl _)).2 h).2
    rwa [List.take_length] at this, met_nodup⟩
def tLenSet (K : PySem.W.Frag) (ta : TE) : TE := fun σ H Q => ta σ H fun x H1 => ∃ (l : Addr) (ns : List Int), x = .ref l ∧ SqL K H1 l (ns.map V.int) ∧ ns.length ≤ 1000 ∧ ∀ d : Nat, (d = ns.length ↔ ns.Nodup) → Q (.int (d : Int)) H1
theorem pLenSet {X : Cx} {a : Expr} {ta : TE} {p p2 q pos : Pos} (hg : Gl X "len") (hm : X.mg "len" = none) (hg2 : Gl X "set") (hm2 : X.mg "set" = none) (ha : PE X a ta) (hc : X.calm = true := by rfl)
    (na : starEach [a] X.env = (false, eval a X.env) :: starEach [] X.env := by rfl) : PE X (.Call (.Name "len" p) [.Call (.Name "set" p2) [a] [] q] [] pos) (tLenSet X.K ta) := by
  refine ⟨fun pins s σ H Q I h => ?_⟩
  refine Call_ (ld_blt I hg hm boot_len ?_)
  refine PyProof.Rows.callWith_builtin1 (PyProof.Rows.args_cons ?_ rfl) rfl rfl
  refine Call_ (ld_blt I hg2 hm2 boot_set ?_)
  refine PyProof.Rows.callWith_type1 (PyProof.Rows.args_cons (thn (ha.run pins s σ H _ I h) fun v s1 ⟨x, H1, I1, r1, q1⟩ => PyProof.Rows.args_nil ?_) na) na rfl
  obtain ⟨l, ns, rfl, hq, hl, q1⟩ := q1
  cases r1
  obtain ⟨its, r, pl, hz⟩ := I1.list hq
  have hlen : its.toArray.size = ns.length := by rw [List.size_toArray, ← r.length, List.length_map]
  refine call_set_list (I1.ok.hd hc) pl.isList (by simpa using RZ.intsAre_vals r) (by rw [hlen]; unfold scanBound; omega) fun h' tk hS hk => ?_
  refine PyProof.Rows.args_nil ?_
  rw [hlen] at hS
  obtain ⟨o, es, ep, t, ho, hex, hd, _, _, _, hf, hn⟩ := hS
  have I2 : Inv X pins σ H1 { s1 with heap := h', toks := tk } := I1.kept fun b o e => hk b o (Heap.lt_size e) e
  have hle := firstMet_length_le (fun i => ns.getD i 0) ns.length
  exact call_len_set ho hex hd hf (by rw [hn]; omega) ⟨.int (firstMet (fun i => ns.getD i 0) ns.length).length, H1, I2.tok _, ⟨_, by rw [hn]⟩, q1 _ (met_iff ns)⟩
end K35
set_option Elab.async false
set_option linter.all false
set_option maxRecDepth 100000
set_option maxHeartbeats 4000000
namespace K35
open PySem PySem.Spec PyProof.Rows L2
abbrev nExt : List Str := ["a", "b", "images", "step", "y", "unlike", "x", "known", "made", "found", "product", "left", "right", "z"]
def iv : Option Nat → V
  | none => .int (-1)
  | some x => nv x
theorem iv_len (im : Im) : (im.map iv).length = im.length := List.length_map _
theorem iv_set (im : Im) (i v : Nat) : (im.map iv).set i (nv v) = (im.set i (some v)).map iv := by rw [List.map_set]; rfl
theorem Asg.get {n m : Nat} {kn : List Nat} {im : Im} (h : Asg n m kn im) {z : Nat} (hz : z ∈ kn) (hn : z < n) : (im.map iv)[z]? = some (nv (gt im z)) := by
  have hl : z < im.length := by rw [h.len]; exact hn
  rw [List.getElem?_map, getD_get (d := none) hl, (h.at_ z hz).1]; rfl
/-- the first trips -/
theorem Made.take {T : List (List Nat)} {k0 : List Nat} {md : List Trip} {kn : List Nat} (h : Made T k0 md kn) : ∀ i, ∃ kn', Made T k0 (md.take i) kn' ∧ ∀ t, md[i]? = some t → t.1 = el T t.2.1 t.2.2 ∧ t.2.1 ∈ kn' ∧ t.2.2 ∈ kn' := by
  induction h with
  | nil => exact fun i => ⟨k0, by rw [List.take_nil]; exact .nil, fun t e => by simp at e⟩
  | @snoc md kn l r hm hl hr hp ih =>
    intro i
    rcases Nat.lt_or_ge i md.length with hi | hi
    · obtain ⟨kn', m', f⟩ := ih i
      refine ⟨kn', by rw [List.take_append_of_le_length (by omega)]; exact m', fun t e => f t ?_⟩
      rwa [List.getElem?_append_left hi] at e
    · rcases Nat.eq_or_lt_of_le hi with he | hlt
      · refine ⟨kn, by rw [← he, List.take_left']; exact hm; rfl, fun t e => ?_⟩
        rw [← he, List.getElem?_append_right (Nat.le_refl _), Nat.sub_self] at e
        cases Option.some.inj e
        exact ⟨rfl, hl, hr⟩
      · refine ⟨kn ++ [el T l r], by rw [List.take_of_length_le (by simp; omega)]; exact .snoc hm hl hr hp, fun t e => ?_⟩
        have := (List.getElem?_eq_some_iff.mp e).1
        simp at this
        omega
section
variable {P : Program} {w : World} {K : PySem.W.Frag} {mg : Str → Option Value} {base : Heap}
theorem test_lenset {K : PySem.W.Frag} {ta tb : TE} {r : R2} {σ : L2.St} {H : Hp} {R : Bool → Hp → Prop} (h : ta σ H fun x H1 => ∃ (l : Addr) (ns : List Int), x = .ref l ∧ SqL K H1 l (ns.map V.int) ∧ ns.length ≤ 1000 ∧ ∀ d : Nat, (d = ns.length ↔ ns.Nodup) →
    tb σ H1 fun y H2 => r (.int (d : Int)) y H2 fun c H3 => ∃ k, c = .bl k ∧ R k H3) : tTest (tOp r (tLenSet K ta) tb) σ H R := h
def spExt (C : Addr) : Sp := fun vs H Q _ => ∃ (pa pb pim pst : Addr) (n m : Nat) (T Tb : List (List Nat)) (im : Im) (st : Step) (kn : List Nat) (y : Nat) (u : Bool),
  vs = [.ref pa, .ref pb, .ref pim, .ref pst, nv y, .bl u] ∧ n ≤ 24 ∧ m ≤ 24 ∧ Sg n T ∧ Sg m Tb ∧ SgAt C H pa n T ∧ SgAt C H pb m Tb ∧ H pim = some (.lst (im.map iv)) ∧ StepAt H pst st ∧
  st.x < n ∧ st.x ∉ kn ∧ Made T (kn ++ [st.x]) st.md st.kn ∧ (∀ l ∈ st.kn, ∀ r ∈ st.kn, el T l r ∈ st.kn) ∧ Asg n m kn im ∧ y < m ∧ (∀ z ∈ kn, z < n) ∧ st.kn.Nodup ∧
  (ext T Tb u im st y = none → ∀ H', Same H H' → Q .non H') ∧ (∀ f, ext T Tb u im st y = some f → ∀ (p : Addr) (H' : Hp), H p = none → Same H H' → H' p = some (.lst (f.map iv)) → Q (.ref p) H')
theorem ok_ext {f C : Addr} {fd : FuncData} {k : Nat} (F : Fun K "extended" "extended" sExt f fd) (X : Txt K C) (m_len : mg "len" = none) (m_set : mg "set" = none) (m_list : mg "list" = none) :
    FnOk P w K mg base CX0 (k + 1) f fd ["a", "b", "images", "step", "y", "unlike"] (spExt C) := by
  refine F.ok scExt (fun vs H Q E h => ?_) (fun cdv A outer s H vs Q E hr h => ?_)
  · obtain ⟨pa, pb, pim, pst, n, m, T, Tb, im, st, kn, y, u, rfl, _⟩ := h
    rfl
  · obtain ⟨pa, pb, pim, pst, n, m, T, Tb, im, st, kn, y, uu, rfl, hn, hm, sg, sgb, ha, hb, eim, hst, hx, hxn, made, hcl, asg, hy, hkn, hndk, q1, q2⟩ := h
    obtain ⟨dxa, ta, ea, tA⟩ := ha
    obtain ⟨dxb, tb, eb, tB⟩ := hb
    obtain ⟨tk, tm, est, etk, ⟨ms, etm, rms⟩⟩ := hst
    have hx0 : ∀ z ∈ kn ++ [st.x], z < n := fun z hz => by
      rcases List.mem_append.mp hz with h | h
      · exact hkn z h
      · rw [List.mem_singleton.mp h]; exact hx
    have hlt : ∀ z ∈ st.kn, z < n := made.lt sg hx0
    have hlk : st.kn.length ≤ n := nodup_bound n st.kn hndk hlt
    obtain ⟨im1, him1⟩ : ∃ im1, im1 = im.set st.x (some y) := ⟨_, rfl⟩
    have asg1 : Asg n m (kn ++ [st.x]) im1 := by rw [him1]; exact asg.set hx hxn hy
    obtain ⟨ff, hff⟩ : ∃ ff, ff = fill Tb st.md im1 := ⟨_, rfl⟩
    have asgf : Asg n m st.kn ff := by rw [hff]; exact (fill_asg sg sgb made hx0 asg1).1
    have extd : ext T Tb uu im st y = if okB T Tb st.kn ff = true then (if uu && !injB st.kn ff then none else some ff) else none := by rw [hff, him1]; rfl
    -- the tail
    obtain ⟨u5, hu5, ru5⟩ : ∃ u, PSs (cxOf CX0 P w K mg base nExt "extended" (defScope sExt) f cdv A outer s H E).nox ((defBody sExt).drop 5) u ∧
        ∀ (H5 : Hp) (pf : Addr) (y10 y11 y12 y13 : Option V), H pf = none → Same H H5 → H5 pf = some (.lst (ff.map iv)) → okB T Tb st.kn ff = true →
          u { nx := fun _ H' => Q .non H', rt := Q } [some (.ref pa), some (.ref pb), some (.ref pim), some (.ref pst), some (nv y), some (.bl uu), some (nv st.x), some (.ref tk), some (.ref tm), some (.ref pf), y10, y11, y12, none] H5 := by
      refine ⟨_, (pss_cons (ps_if (PW.pt (pw_and (pt_val (pv 5)) (pw_and1 (pt_cmpR op_ne (pLenSet (by rfl) m_len (by rfl) m_set (pe_lc (own := [("z", 13)]) (g := gName 13) (tt := tYes) rfl scExt.nd (piT K (pv 7)) (blkOk_by (N := nExt) (sc := defScope sExt) (by decide +kernel)) (fun _ _ _ _ _ => pg_name (i := 13) scExt.nd rfl (by first | exact .inl rfl | exact .inr rfl)) (fun _ _ _ _ _ => pts_nil) (fun _ _ _ _ _ => (pe_ix (ixL K) (pv 9) (pv 13) (fun _ _ => rfl))))) (pe_callB (cLen K) (by rfl) m_len PySem.boot_len (pa_cons (pv 7) pa_nil)) (nomark _)))))
  (pss_one (ps_ret pe_non))
  pss_nil)
  (pss_one (ps_ret (pv 9)))), ?_⟩
      intro H5 pf y10 y11 y12 y13 npf sm ef hok
      rw [if_pos hok] at extd
      cases uu with
      | false =>
        refine ⟨_, rfl, false, rfl, ite2 (fun e => absurd e (by decide)) (fun _ => ?_)⟩
        exact ⟨.ref pf, rfl, q2 ff extd pf H5 npf sm ef⟩
      | true =>
        refine ⟨_, rfl, true, rfl, ite2 (fun _ => ?_) (fun e => absurd rfl e)⟩
        refine test_lenset ?_
        refine ints_tup (t := tk) (L := st.kn) (ix := 13) (F := gt ff) (by omega) (sm _ _ etk) (fun R h => ⟨_, rfl, h⟩) (fun z H' R hz sm' h => ?_) (fun p6 H6 np6 sm6 e6 => ?_)
        · exact ⟨.ref pf, rfl, nv z, rfl, pf, _, (z : Int), _, rfl, rfl, SqL.of (sm' _ _ ef), atI_nat (asgf.get hz (hlt _ hz)), h⟩
        · have e6' : H6 p6 = some (.lst (((st.kn.map (gt ff)).map fun z : Nat => (z : Int)).map V.int)) := by rw [e6, List.map_map, List.map_map, List.map_map]; rfl
          refine ⟨p6, _, rfl, SqL.of e6', by simp; omega, fun d hd => ?_⟩
          have sm7 := sm.trans sm6
          have hd' : d = st.kn.length ↔ (st.kn.map (gt ff)).Nodup := by
            have h1 : ((st.kn.map (gt ff)).map fun z : Nat => (z : Int)).length = st.kn.length := by simp
            rw [h1] at hd
            have h2 : ((st.kn.map (gt ff)).map fun z : Nat => (z : Int)).Nodup ↔ (st.kn.map (gt ff)).Nodup := by
              unfold List.Nodup
              rw [List.pairwise_map]
              constructor
              · exact fun h => h.imp fun hab e => hab (by rw [e])
              · exact fun h => h.imp fun hab e => hab (by omega)
            exact hd.trans h2
          refine ⟨.ref tk, rfl, tk, _, rfl, .inr (SqT.of (sm7 _ _ etk)), rfl, _, rfl, ite2 (fun e => ?_) (fun e => ?_)⟩
          · rw [nv_len] at e
            have e' : (!decide (d = st.kn.length)) = true := ne_nv.symm.trans e
            have hne : ¬ d = st.kn.length := by simpa using e'
            have hinj : injB st.kn ff = false := by
              cases hi : injB st.kn ff with
              | false => rfl
              | true => exact absurd (hd'.mpr (injB_iff.mp hi)) hne
            exact q1 (by rw [extd, hinj]; rfl) _ sm7
          · rw [nv_len] at e
            have e' : ¬ (!decide (d = st.kn.length)) = true := fun z => e (ne_nv.trans z)
            have heq : d = st.kn.length := by simpa using e'
            have hinj : injB st.kn ff = true := injB_iff.mpr (hd'.mp heq)
            exact ⟨.ref pf, rfl, q2 ff (by rw [extd, hinj]; rfl) pf H6 npf sm7 (sm6 _ _ ef)⟩
    obtain ⟨u4, hu4, ru4⟩ : ∃ u, PSs (cxOf CX0 P w K mg base nExt "extended" (defScope sExt) f cdv A outer s H E).nox ((defBody sExt).drop 4) u ∧
        ∀ (H5 : Hp) (pf : Addr) (y10 y11 y12 : Option V), H pf = none → Same H H5 → H5 pf = some (.lst (ff.map iv)) →
          u { nx := fun _ H' => Q .non H', rt := Q } [some (.ref pa), some (.ref pb), some (.ref pim), some (.ref pst), some (nv y), some (.bl uu), some (nv st.x), some (.ref tk), some (.ref tm), some (.ref pf), y10, y11, y12, none] H5 := by
      refine ⟨_, (pss_cons (ps_for PassesOwn.never rfl (piT K (pv 7)) (pg_name (i := 11) scExt.nd rfl (.inl rfl))
  (pss_one (ps_for PassesOwn.never rfl (piT K (pv 7)) (pg_name (i := 12) scExt.nd rfl (.inl rfl))
  (pss_one (ps_if (pt_cmpR op_ne (pe_ix (ixL K) (pv 9) (pe_ix (ixT K) (pe_ix (ixT K) (pe_fld (pv 0) rfl) (pv 11) (fun _ _ => rfl)) (pv 12) (fun _ _ => rfl)) (fun _ _ => rfl)) (pe_ix (ixT K) (pe_ix (ixT K) (pe_fld (pv 1) rfl) (pe_ix (ixL K) (pv 9) (pv 11) (fun _ _ => rfl)) (fun _ _ => rfl)) (pe_ix (ixL K) (pv 9) (pv 12) (fun _ _ => rfl)) (fun _ _ => rfl)) (nomark _))
  (pss_one (ps_ret pe_non))
  pss_nil)))))
  hu5), ?_⟩
      intro H5 pf y10 y11 y12 npf sm ef
      have tA5 := tA.mono (sKt sm)
      have tB5 := tB.mono (sKt sm)
      have itm : ∀ {j : Nat} {v : V}, (st.kn.map nv)[j]? = some v → ∃ z, st.kn[j]? = some z ∧ v = nv z ∧ z ∈ st.kn := fun {j v} h => by
        rw [List.getElem?_map] at h
        cases ev : st.kn[j]? with
        | none => rw [ev] at h; cases h
        | some z => rw [ev] at h; exact ⟨z, rfl, (Option.some.inj h).symm, List.mem_of_getElem? ev⟩
      refine ⟨.ref tk, rfl, tk, rfl, ⟨_, SqT.of (sm _ _ etk)⟩, ?_⟩
      refine for_tup (xs := st.kn.map nv) (fun i σ H4 => H4 = H5 ∧ (∀ l ∈ st.kn.take i, ∀ r ∈ st.kn, gt ff (el T l r) = el Tb (gt ff l) (gt ff r)) ∧ ∃ y11 y12, σ = [some (.ref pa), some (.ref pb), some (.ref pim), some (.ref pst), some (nv y), some (.bl uu), some (nv st.x), some (.ref tk), some (.ref tm), some (.ref pf), y10, y11, y12, none])
        ⟨rfl, fun l hl => (nomatch hl), y11, y12, rfl⟩ (fun i σ H4 _ h => SqT.of (by rw [h.1]; exact sm _ _ etk)) (fun i v σ H4 hv h => ?_) (fun σ H4 h => ?_)
      · obtain ⟨rfl, hall, z11, z12, rfl⟩ := h
        obtain ⟨l, el_, rfl, hl⟩ := itm hv
        refine ⟨.ref tk, rfl, tk, rfl, ⟨_, SqT.of (sm _ _ etk)⟩, ?_⟩
        refine for_tup (xs := st.kn.map nv) (fun j σ H6 => H6 = H4 ∧ (∀ r ∈ st.kn.take j, gt ff (el T l r) = el Tb (gt ff l) (gt ff r)) ∧ ∃ y12, σ = [some (.ref pa), some (.ref pb), some (.ref pim), some (.ref pst), some (nv y), some (.bl uu), some (nv st.x), some (.ref tk), some (.ref tm), some (.ref pf), y10, some (nv l), y12, none])
          ⟨rfl, fun l hl => (nomatch hl), z12, rfl⟩ (fun j σ H6 _ h => SqT.of (by rw [h.1]; exact sm _ _ etk)) (fun j v σ H6 hv2 h => ?_) (fun σ H6 h => ?_)
        · obtain ⟨rfl, hj, w12, rfl⟩ := h
          obtain ⟨r, er_, rfl, hr⟩ := itm hv2
          have hp := hcl l hl r hr
          obtain ⟨r1, er, ev⟩ := sg.at (hlt l hl) (hlt r hr)
          obtain ⟨qa, p1, e1, e2, e3, e4⟩ := tA5.at er ev
          obtain ⟨r2, er2, ev2⟩ := sgb.at (asgf.at_ l hl).2 (asgf.at_ r hr).2
          obtain ⟨qb, p2, f1, f2, f3, f4⟩ := tB5.at er2 ev2
          refine ⟨.ref pf, rfl, .ref pa, rfl, pa, C, dxa, _, _, rfl, sm _ _ ea, X.cl, X.nT, sgf_t n ta, nv l, rfl, ta, _, (l : Int), .ref p1, rfl, rfl, SqT.of e1, atI_nat e2, nv r, rfl, p1, _, (r : Int), _, rfl, rfl, SqT.of e3, atI_nat e4, pf, _, ((el T l r : Nat) : Int), _, rfl, rfl, SqL.of ef, atI_nat (asgf.get hp (hlt _ hp)), ?_⟩
          refine ⟨.ref pb, rfl, pb, C, dxb, _, _, rfl, sm _ _ eb, X.cl, X.nT, sgf_t m tb, .ref pf, rfl, nv l, rfl, pf, _, (l : Int), _, rfl, rfl, SqL.of ef, atI_nat (asgf.get hl (hlt _ hl)), tb, _, ((gt ff l : Nat) : Int), .ref p2, rfl, rfl, SqT.of f1, atI_nat f2, .ref pf, rfl, nv r, rfl, pf, _, (r : Int), _, rfl, rfl, SqL.of ef, atI_nat (asgf.get hr (hlt _ hr)), p2, _, ((gt ff r : Nat) : Int), _, rfl, rfl, SqT.of f3, atI_nat f4, ?_⟩
          refine ⟨rfl, _, rfl, ite2 (fun e => ?_) (fun e => ?_)⟩
          · have e' : (!decide (gt ff (el T l r) = el Tb (gt ff l) (gt ff r))) = true := ne_nv.symm.trans e
            have hne : ¬ gt ff (el T l r) = el Tb (gt ff l) (gt ff r) := by simpa using e'
            refine q1 ?_ _ sm
            rw [extd, if_neg (fun h => hne (okB_iff.mp h l hl r hr))]
          · have e' : ¬ (!decide (gt ff (el T l r) = el Tb (gt ff l) (gt ff r))) = true := fun z => e (ne_nv.trans z)
            have heq : gt ff (el T l r) = el Tb (gt ff l) (gt ff r) := by simpa using e'
            refine ⟨rfl, fun z hz => ?_, _, rfl⟩
            rw [List.take_add_one, er_] at hz
            rcases List.mem_append.mp hz with h | h
            · exact hj z h
            · rw [show z = r by simpa using h]; exact heq
        · obtain ⟨rfl, hj, w12, rfl⟩ := h
          rw [take_all (nv_len st.kn).symm] at hj
          refine ⟨rfl, fun z hz => ?_, _, _, rfl⟩
          rw [List.take_add_one, el_] at hz
          rcases List.mem_append.mp hz with h | h
          · exact hall z h
          · rw [show z = l by simpa using h]; exact hj
      · obtain ⟨rfl, hall, z11, z12, rfl⟩ := h
        rw [take_all (nv_len st.kn).symm] at hall
        exact ru5 H4 pf y10 z11 z12 none npf sm ef (okB_iff.mpr hall)
    refine ⟨_, (pss_cons (ps_asg (pv 3) (pg_tup rfl (pgs_cons (pg_name (i := 6) scExt.nd rfl (.inl rfl)) (pgs_cons (pg_name (i := 7) scExt.nd rfl (.inl rfl)) (pgs_cons (pg_name (i := 8) scExt.nd rfl (.inl rfl)) pgs_nil)))))
  (pss_cons (ps_set (i := 9) scExt.nd rfl (.inr rfl) (pe_callTy (cList K) (by rfl) m_list PyProof.Rows.boot_list (pa_cons (pv 2) pa_nil)))
  (pss_cons (ps_asg (pv 4) (pg_sub (pv 9) (pv 6) set_list))
  (pss_cons (ps_for PassesOwn.never rfl (piT K (pv 8)) (pg_tup rfl (pgs_cons (pg_name (i := 10) scExt.nd rfl (.inl rfl)) (pgs_cons (pg_name (i := 11) scExt.nd rfl (.inl rfl)) (pgs_cons (pg_name (i := 12) scExt.nd rfl (.inl rfl)) pgs_nil))))
  (pss_one (ps_asg (pe_ix (ixT K) (pe_ix (ixT K) (pe_fld (pv 1) rfl) (pe_ix (ixL K) (pv 9) (pv 11) (fun _ _ => rfl)) (fun _ _ => rfl)) (pe_ix (ixL K) (pv 9) (pv 12) (fun _ _ => rfl)) (fun _ _ => rfl)) (pg_sub (pv 9) (pv 10) set_list))))
  hu4)))), ?_⟩
    refine ⟨.ref pst, rfl, pst, _, rfl, SqT.of est, rfl, nv st.x, _, rfl, .ref tk, _, rfl, .ref tm, _, rfl, rfl, ?_⟩
    refine ⟨.ref pim, rfl, pim, _, rfl, .inl (SqL.of eim), fun pf npf => ?_⟩
    have hx2 : st.x < (im.map iv).length := by rw [iv_len, asg.len]; exact hx
    refine ⟨nv y, rfl, .ref pf, rfl, nv st.x, rfl, pf, _, (st.x : Int), st.x, rfl, rfl, upd_same, ixN_nat hx2, ?_⟩
    rw [iv_set, ← him1]
    have sm0 := sNew (o := .lst (im1.map iv)) (sNew (o := .lst (im.map iv)) (Same.refl H) npf) npf
    refine ⟨.ref tm, rfl, tm, rfl, ⟨_, SqT.of (sm0 _ _ etm)⟩, ?_⟩
    have lms : (ms.map V.ref).length = st.md.length := by rw [List.length_map, rms.len, List.length_map]
    refine for_tup (xs := ms.map V.ref) (fun i σ H4 => Same H H4 ∧ H4 pf = some (.lst ((fill Tb (st.md.take i) im1).map iv)) ∧ ∃ y10 y11 y12, σ = [some (.ref pa), some (.ref pb), some (.ref pim), some (.ref pst), some (nv y), some (.bl uu), some (nv st.x), some (.ref tk), some (.ref tm), some (.ref pf), y10, y11, y12, none]) ⟨sm0, upd_same, none, none, none, rfl⟩ (fun i σ H4 _ h => SqT.of (h.1 _ _ etm)) (fun i v σ H4 hv h => ?_) (fun σ H4 h => ?_)
    · obtain ⟨sm, ef, y10, y11, y12, rfl⟩ := h
      obtain ⟨qt, eqt, rfl⟩ := refs_at hv
      obtain ⟨row, er, hrow⟩ := rms.to eqt
      rw [List.getElem?_map] at er
      obtain ⟨t, et, rfl⟩ : ∃ t, st.md[i]? = some t ∧ row = t3 t := by
        cases ev : st.md[i]? with
        | none => rw [ev] at er; cases er
        | some t => rw [ev] at er; exact ⟨t, rfl, (Option.some.inj er).symm⟩
      obtain ⟨p, l, r⟩ := t
      obtain ⟨kn', mi, fi⟩ := made.take i
      obtain ⟨f1, f2, f3⟩ := fi _ et
      have f1' : p = el T l r := f1
      have f2' : l ∈ kn' := f2
      have f3' : r ∈ kn' := f3
      have ln := mi.lt sg hx0
      have as_ := (fill_asg sg sgb mi hx0 asg1).1
      obtain ⟨fi, hfi⟩ : ∃ fi, fi = fill Tb (st.md.take i) im1 := ⟨_, rfl⟩
      rw [← hfi] at as_ ef
      have hpn : p < n := by rw [f1']; exact sg.lt l r (ln l f2') (ln r f3')
      have gl := as_.get f2' (ln l f2')
      have gr := as_.get f3' (ln r f3')
      have bl := (as_.at_ l f2').2
      have br := (as_.at_ r f3').2
      obtain ⟨r2, er2, ev2⟩ := sgb.at bl br
      obtain ⟨qb, p2, e1, e2, e3, e4⟩ := (tB.mono (sKt sm)).at er2 ev2
      refine ⟨qt, [nv p, nv l, nv r], rfl, SqT.of (sm _ _ hrow), rfl, nv p, _, rfl, nv l, _, rfl, nv r, _, rfl, rfl, ?_⟩
      refine ⟨.ref pb, rfl, pb, C, dxb, _, _, rfl, sm _ _ eb, X.cl, X.nT, sgf_t m tb, .ref pf, rfl, nv l, rfl, pf, _, (l : Int), _, rfl, rfl, SqL.of ef, atI_nat gl, tb, _, ((gt fi l : Nat) : Int), .ref p2, rfl, rfl, SqT.of e1, atI_nat e2, .ref pf, rfl, nv r, rfl, pf, _, (r : Int), _, rfl, rfl, SqL.of ef, atI_nat gr, p2, _, ((gt fi r : Nat) : Int), _, rfl, rfl, SqT.of e3, atI_nat e4, ?_⟩
      have hp2 : p < (fi.map iv).length := by rw [iv_len, as_.len]; exact hpn
      refine ⟨.ref pf, rfl, nv p, rfl, pf, _, (p : Int), p, rfl, rfl, ef, ixN_nat hp2, ?_⟩
      rw [iv_set]
      refine ⟨sNew sm npf, ?_, _, _, _, rfl⟩
      have etake : st.md.take (i + 1) = st.md.take i ++ [(p, l, r)] := by rw [List.take_add_one, et]; rfl
      rw [upd_same, etake, fill_snoc, ← hfi]; rfl
    · obtain ⟨sm, ef, y10, y11, y12, rfl⟩ := h
      rw [take_all lms.symm, ← hff] at ef
      exact ru4 H4 pf y10 y11 y12 npf sm ef
end
end K35
set_option Elab.async false
set_option linter.all false
set_option maxRecDepth 100000
set_option maxHeartbeats 4000000
namespace K35
open PySem PySem.Spec PyProof.Rows L2
section
variable {X : Cx} (K : PySem.W.Frag)
theorem pBm0 {T id : String} {nm : Str} {r : V → List V → Hp → VK → Prop} {o : Expr} {to : TE} {apos cpos : Pos} (pa : PlainAttrs T) (slot : Slot T nm id) (hty : typeOf (.builtin id) = pure (.type "method_descriptor")) (hm : MtR X id r) (ho : PE X o to) (h : X.K = K := by rfl)
    (hbase : attributeBase o nm X.env (eval o X.env) = eval o X.env := by rfl) (hline : (apos.endLine == cpos.line) = true := by rfl) : PE X (.Call (.Attribute o nm apos) [] [] cpos) (tBM0 K T r to) := by
  subst h; exact pe_bm0 pa slot hty hm ho hbase hline
theorem pgTup {es : List Expr} {k : Nat} {t : TGs} {pos : Pos} (n : Nat) (hc : X.calm = true) (hp : PGs X es t) (h : X.K = K := by rfl)
    (hn : (assignEach es X.env).length = n := by rfl) (hst : (assignEach es X.env).findIdx? (·.1) = none := by rfl) : PG X (.Tuple es k pos) (gTup K n t) := by
  subst h; exact pg_tup hc hp hn hst
end
abbrev nWalk : List Str := ["a", "b", "unlike", "steps", "waiting", "images", "at", "y", "more"]
theorem scWalk : GScope nWalk ["a", "b", "unlike"] (defScope sWalk) := ⟨rfl, rfl, rfl, by decide +kernel, rfl, by decide +kernel, by decide +kernel⟩
/-- the maps that are told -/
def res (m n : Nat) (T Tb : List (List Nat)) (u : Bool) : List (List Nat) := if u then (due m n T Tb).filter (nodB n) else due m n T Tb
theorem found_res {n m : Nat} {T Tb : List (List Nat)} {u : Bool} {steps : List Step} (s : Sg n T) (sb : Sg m Tb) (h : StepsOk n T [] steps) : found m T Tb u n steps = res m n T Tb u := by
  unfold res
  cases u with
  | false => rw [found_due s sb h]; rfl
  | true => rw [found_apart s sb h]; rfl
/-- the values are these tuples -/
def YsAt (H : Hp) (ys : List V) (L : List (List Nat)) : Prop := ∃ qs : List Addr, ys = qs.map V.ref ∧ Rows H qs L
section
variable {n m : Nat} {T Tb : List (List Nat)} {u : Bool} {steps : List Step}
theorem tree_le (hm : m ≤ 4) : ∀ (sts : List Step) (im : Im), tree m T Tb u sts im ≤ 5 ^ sts.length
  | [], im => Nat.le_refl _
  | st :: rest, im => by
    unfold tree
    have h1 : ∀ y, (match ext T Tb u im st y with | none => 0 | some f => tree m T Tb u rest f) ≤ 5 ^ rest.length := fun y => by
      cases ext T Tb u im st y with
      | none => exact Nat.zero_le _
      | some f => exact tree_le hm rest f
    have h2 : ∀ l : List Nat, (l.map fun y => match ext T Tb u im st y with | none => 0 | some f => tree m T Tb u rest f).sum ≤ l.length * 5 ^ rest.length := fun l => by
      induction l with
      | nil => simp
      | cons a r ih =>
        rw [List.map_cons, List.sum_cons, List.length_cons, Nat.succ_mul]
        have := h1 a
        omega
    have h3 := h2 (List.range m)
    rw [List.length_range] at h3
    have h4 : m * 5 ^ rest.length ≤ 4 * 5 ^ rest.length := Nat.mul_le_mul_right _ hm
    have h5 : 1 ≤ 5 ^ rest.length := Nat.one_le_pow _ _ (by decide)
    have h6 : 5 ^ (st :: rest).length = 5 * 5 ^ rest.length := by rw [List.length_cons, Nat.pow_succ, Nat.mul_comm]
    rw [h6]
    exact Nat.le_trans (Nat.add_le_add_left h3 1) (by omega)
theorem len_weight : ∀ st : List Ent, st.length ≤ weight m T Tb u steps st
  | [] => Nat.zero_le _
  | e :: r => by
    have h := len_weight r
    have h2 : 0 < treeAt m T Tb u steps e := tree_pos
    unfold weight at h ⊢
    rw [List.map_cons, List.sum_cons, List.length_cons]
    omega
end
theorem stepsOk_len {n : Nat} {T : List (List Nat)} (s : Sg n T) {kn : List Nat} {sts : List Step} (h : StepsOk n T kn sts) : kn.Nodup → (∀ z ∈ kn, z < n) → sts.length + kn.length ≤ n := by
  induction h with
  | nil _ => intro nd hl; have := nodup_bound n _ nd hl; simp; exact this
  | @cons kn st rest h1 h2 h3 h4 h5 h6 ih =>
    intro nd hl
    have a1 : (kn ++ [st.x]).Nodup := nodup_snoc nd h2
    have a2 : ∀ z ∈ kn ++ [st.x], z < n := fun z hz => by
      rcases List.mem_append.mp hz with h | h
      · exact hl z h
      · rw [List.mem_singleton.mp h]; exact h1
    have a3 := ih (h4.nodup a1) (h4.lt s a2)
    have a4 := h4.leng
    rw [List.length_append, List.length_singleton] at a4
    rw [List.length_cons]
    omega
theorem stepsOk_nd {n : Nat} {T : List (List Nat)} {kn : List Nat} {sts : List Step} (h : StepsOk n T kn sts) : kn.Nodup → ∀ st ∈ sts, st.kn.Nodup := by
  induction h with
  | nil _ => intro _ st hst; cases hst
  | @cons kn st rest h1 h2 h3 h4 h5 h6 ih =>
    intro nd s hs
    have a1 := h4.nodup (nodup_snoc nd h2)
    rcases List.mem_cons.mp hs with e | e
    · rw [e]; exact a1
    · exact ih a1 s e
theorem rep_one (n : Nat) (v : V) : (List.replicate n [v]).flatten = List.replicate n v := by
  induction n with
  | zero => rfl
  | succ n ih => rw [List.replicate_succ, List.flatten_cons, ih, List.replicate_succ]; rfl
/-- an entry of the stack stands at a -/
def EntAt (pw : Addr) (H : Hp) (a : Addr) (e : Ent) : Prop := a ≠ pw ∧ ∃ q, q ≠ pw ∧ H a = some (.tup [.ref q, nv e.2]) ∧ H q = some (.lst (e.1.map iv))
theorem EntAt.but {pw : Addr} {H H' : Hp} {a : Addr} {e : Ent} (h : EntAt pw H a e) (b : But pw H H') : EntAt pw H' a e := by
  obtain ⟨h1, q, h2, h3, h4⟩ := h
  exact ⟨h1, q, h2, b _ _ h1 h3, b _ _ h2 h4⟩
structure ERows (pw : Addr) (H : Hp) (as : List Addr) (st : List Ent) : Prop where
  len : as.length = st.length
  at_ : ∀ (i : Nat) (a : Addr) (e : Ent), as[i]? = some a → st[i]? = some e → EntAt pw H a e
theorem ERows.but {pw : Addr} {H H' : Hp} {as : List Addr} {st : List Ent} (h : ERows pw H as st) (b : But pw H H') : ERows pw H' as st := ⟨h.len, fun i a e e1 e2 => (h.at_ i a e e1 e2).but b⟩
theorem ERows.snoc {pw : Addr} {H : Hp} {qs : List Addr} {T : List Ent} {q : Addr} {r : Ent} (h : ERows pw H qs T) (e : EntAt pw H q r) : ERows pw H (qs ++ [q]) (T ++ [r]) := by
  refine ⟨by rw [List.length_append, List.length_append, h.len]; rfl, fun i q' r' e1 e2 => ?_⟩
  have hl := h.len
  by_cases hi : i < qs.length
  · rw [List.getElem?_append_left hi] at e1
    rw [List.getElem?_append_left (by omega)] at e2
    exact h.at_ i q' r' e1 e2
  · have hi2 : i = qs.length := by
      have h1 := (List.getElem?_eq_some_iff.mp e1).1
      rw [List.length_append, List.length_singleton] at h1
      omega
    subst hi2
    rw [List.getElem?_append_right (Nat.le_refl _), Nat.sub_self] at e1
    rw [List.getElem?_append_right (by omega), hl, Nat.sub_self] at e2
    cases Option.some.inj e1
    cases Option.some.inj e2
    exact e
theorem ERows.front {pw : Addr} {H : Hp} {qs : List Addr} {T : List Ent} {q : Addr} {r : Ent} (h : ERows pw H (qs ++ [q]) (T ++ [r])) : ERows pw H qs T ∧ EntAt pw H q r := by
  have hl : qs.length = T.length := by have := h.len; simp at this; exact this
  refine ⟨⟨hl, fun i a e e1 e2 => h.at_ i a e ?_ ?_⟩, h.at_ qs.length q r (by simp) (by rw [hl]; simp)⟩
  · rw [List.getElem?_append_left (List.getElem?_eq_some_iff.mp e1).1]; exact e1
  · rw [List.getElem?_append_left (List.getElem?_eq_some_iff.mp e2).1]; exact e2
section
variable {P : Program} {w : World} {K : PySem.W.Frag} {mg : Str → Option Value} {base : Heap}
def spWalk (C : Addr) : KG.SpG := fun vs H Yv Qe => ∃ (pa pb : Addr) (n m : Nat) (T Tb : List (List Nat)) (u : Bool), vs = [.ref pa, .ref pb, .bl u] ∧ n ≤ 5 ∧ m ≤ 4 ∧ Sg n T ∧ Sg m Tb ∧ SgAt C H pa n T ∧ SgAt C H pb m Tb ∧
  (∀ ys H', ys.length ≤ 1024 → Yv ys H') ∧ (∀ ys H', Same H H' → YsAt H' ys (res m n T Tb u) → Qe ys H')
theorem ok_walk {f fS fX C : Addr} {fdS fdX : FuncData} {k : Nat} {name qual : Str} {params : Arguments} {dV kV doc pm cdv ct oc : Value} {an od : Option Addr} {osl : Array (Option Value)}
    (lk : K.lookup f = some ⟨oc, od, .func (PySem.W.fnOf name "walk" params (defBody sWalk) (defScope sWalk) dV kV doc pm an cdv ct), osl⟩) (hcd : PySem.W.codeIn K cdv "walk" = true) (Xt : Txt K C)
    (GS : FnOk P w K mg base CX0 k fS fdS ["s"] (spClosing C)) (bS : Binds K fdS ["s"] []) (kS : PySem.W.keepIn K (.ref fS) = true) (gS : mg "closing" = some (.ref fS))
    (GX : FnOk P w K mg base CX0 k fX fdX ["a", "b", "images", "step", "y", "unlike"] (spExt C)) (bX : Binds K fdX ["a", "b", "images", "step", "y", "unlike"] []) (kX : PySem.W.keepIn K (.ref fX) = true) (gX : mg "extended" = some (.ref fX))
    (m_len : mg "len" = none) (m_tuple : mg "tuple" = none) (m_range : mg "range" = none) :
    KG.GFn P w K mg base (k + 1) f (PySem.W.fnOf name "walk" params (defBody sWalk) (defScope sWalk) dV kV doc pm an cdv ct) ["a", "b", "unlike"] (spWalk C) := by
  refine KG.gfn_of lk hcd scWalk (fun n x => rfl) (fun vs H Yv Qe h => ?_) (fun A outer s H vs Yv Qe pn hr h => ?_)
  · obtain ⟨pa, pb, n, m, T, Tb, u, rfl, _⟩ := h
    rfl
  · obtain ⟨pa, pb, n, m, T, Tb, u, rfl, hn, hm, sg, sgb, ha, hb, hY, hQ⟩ := h
    refine ⟨_, (KG.gss_cons (KG.gs_ps (fun s0 H0 => (ps_set (i := 3) scWalk.nd rfl (.inl rfl) (pe_call GS hr (by rfl) gS kS bS .nil pass0 (pa_cons (pv 0) pa_nil)))))
  (KG.gss_cons (KG.gs_ps (fun s0 H0 => (ps_set (i := 4) scWalk.nd rfl (.inl rfl) (pe_lst (pa_cons (pe_tup (pa_cons (pe_op op_rep (pe_lst (pa_cons (pe_un un_neg pe_int) pa_nil)) (pFld K (pv 0))) (pa_cons pe_int pa_nil))) pa_nil)))))
  (KG.gss_cons (KG.gs_while (fun s0 H0 => (pt_cmpR op_gt (pe_callB (cLen K) (by rfl) m_len PySem.boot_len (pa_cons (pv 4) pa_nil)) pe_int (nomark _)))
    (KG.gss_cons (KG.gs_ps (fun s0 H0 => (ps_asg (pBm0 K PySem.F.plainAttrs_list PySem.F.slot_list_pop PySem.F.type_list_pop mt_pop (pv 4)) (pgTup K 2 rfl (pgs_cons (pg_name (i := 5) scWalk.nd rfl (.inl rfl)) (pgs_cons (pg_name (i := 6) scWalk.nd rfl (.inl rfl)) pgs_nil))))))
    (KG.gss_cons (KG.gs_if (fun s0 H0 => (pt_cmpR op_eq (pv 6) (pe_callB (cLen K) (by rfl) m_len PySem.boot_len (pa_cons (pv 3) pa_nil)) (nomark _)))
      (KG.gss_cons (KG.gs_yield (fun s0 H0 => (pe_callTy (cTup K) (by rfl) m_tuple PyProof.Rows.boot_tuple (pa_cons (pv 5) pa_nil)))) KG.gss_nil)
      (KG.gss_cons (KG.gs_ps (fun s0 H0 => (ps_for PassesOwn.never rfl (pi_range3 (by rfl) m_range (pa_cons (pe_op op_sub (pFld K (pv 1)) pe_int) (pa_cons (pe_un un_neg pe_int) (pa_cons (pe_un un_neg pe_int) pa_nil)))) (pg_name (i := 7) scWalk.nd rfl (.inl rfl))
  (pss_cons (ps_set (i := 8) scWalk.nd rfl (.inl rfl) (pe_call GX hr (by rfl) gX kX bX .nil pass0 (pa_cons (pv 0) (pa_cons (pv 1) (pa_cons (pv 5) (pa_cons (pe_ix (ixL K) (pv 3) (pv 6) (fun _ _ => rfl)) (pa_cons (pv 7) (pa_cons (pv 2) pa_nil))))))))
  (pss_one (ps_if (pt_cmpR op_notN (pv 8) pe_non (nomark _))
  (pss_one (ps_expr (pBm K PySem.F.plainAttrs_list PySem.F.slot_list_append PySem.F.type_list_append mt_append (pv 4) (pa_cons (pe_tup (pa_cons (pv 8) (pa_cons (pe_op op_add (pv 6) pe_int) pa_nil))) pa_nil))))
  pss_nil)))))) KG.gss_nil)) KG.gss_nil))) KG.gss_nil))), ?_⟩
    obtain ⟨dxa, ta, ea, tA⟩ := id ha
    obtain ⟨dxb, tb, eb, tB⟩ := id hb
    have hn0 := sg.pos
    refine ⟨.ref pa, rfl, pa, n, T, rfl, by omega, sg, ha, fun ps H1 steps nps s1 hsteps hok => ?_⟩
    obtain ⟨sqs, esteps, srows⟩ := id hsteps
    have hres : found m T Tb u n steps = res m n T Tb u := found_res sg sgb hok
    have hcount : (dfs m T Tb u steps (im0 n)).length ≤ 1024 := found_len sg sgb hok (by omega) hn
    have hsl : steps.length ≤ 5 := by have := stepsOk_len sg hok (by simp) (fun z hz => nomatch hz); simp at this; omega
    refine ⟨1, rfl, by show 1 ≤ sizeLine; decide, fun z1 nz1 => ?_⟩
    have t1 := sNew (o := .lst [.int (-1)]) (Same.refl H1) nz1
    refine ⟨.ref pa, rfl, pa, C, dxa, _, _, rfl, t1 _ _ (s1 _ _ ea), Xt.cl, Xt.nN, sgf_n n ta, z1, (n : Int), [.int (-1)], rfl, rfl, upd_same, by omega, by omega, ?_, fun z2 nz2 => ?_⟩
    · show 1 * (n : Int).toNat ≤ sizeLine
      have : (n : Int).toNat = n := by omega
      rw [this, Nat.one_mul]
      exact Nat.le_of_lt (small1000 (by omega))
    have erep : (List.replicate (n : Int).toNat [V.int (-1)]).flatten = (im0 n).map iv := by
      have : (n : Int).toNat = n := by omega
      rw [this, rep_one]
      show _ = (List.replicate n (none : Option Nat)).map iv
      rw [List.map_replicate]; rfl
    rw [erep]
    have t2 := sNew (o := .lst ((im0 n).map iv)) t1 (sFree t1 nz2)
    refine ⟨by show 2 ≤ sizeLine; decide, fun z3 nz3 => ⟨by show 1 ≤ sizeLine; decide, fun pw npw => ?_⟩⟩
    have t3_ := sNew (o := .tup [.ref z2, nv 0]) t2 (sFree t2 nz3)
    have npw1 : H1 pw = none := sFree t3_ npw
    have t4 := sNew (o := .lst [.ref z3]) t3_ npw1
    have hz2 : (upd (upd (upd H1 z1 (.lst [.int (-1)])) z2 (.lst ((im0 n).map iv))) z3 (.tup [.ref z2, nv 0])) z2 = some (.lst ((im0 n).map iv)) := by rw [upd_ne (ne_of_none upd_same nz3)]; exact upd_same
    have ent0 : EntAt pw (upd (upd (upd (upd H1 z1 (.lst [.int (-1)])) z2 (.lst ((im0 n).map iv))) z3 (.tup [.ref z2, nv 0])) pw (.lst [.ref z3])) z3 (im0 n, 0) := by
      have h3 : z3 ≠ pw := ne_of_none upd_same npw
      have h2 : z2 ≠ pw := ne_of_none hz2 npw
      exact ⟨h3, z2, h2, by rw [upd_ne h3]; exact upd_same, by rw [upd_ne h2]; exact hz2⟩
    let Wv : Nat → List V → L2.St → Hp → Prop := fun mm ys σ H' => ∃ (st : List Ent) (as : List Addr) (fs : List (List Nat)) (y5 y6 y7 y8 : Option V), σ = [some (.ref pa), some (.ref pb), some (.bl u), some (.ref ps), some (.ref pw), y5, y6, y7, y8] ∧ mm = weight m T Tb u steps st ∧ mm ≤ 3125 ∧
      Same H1 H' ∧ H' pw = some (.lst (as.map V.ref)) ∧ ERows pw H' as st ∧ (∀ e ∈ st, EntOk n m T Tb u steps e) ∧ YsAt H' ys fs ∧ fs ++ (pend m T Tb u steps st).map (vals n) = found m T Tb u n steps
    refine ⟨Wv, ⟨_, [(im0 n, 0)], [z3], [], none, none, none, none, rfl, rfl, ?_, t4, upd_same, ?_, ?_, ⟨[], rfl, Rows.nil⟩, ?_⟩, ?_⟩
    · show (List.map (treeAt m T Tb u steps) [(im0 n, 0)]).sum ≤ 3125
      have h1 : tree m T Tb u (steps.drop 0) (im0 n) ≤ 5 ^ (steps.drop 0).length := tree_le hm _ _
      have h2 : 5 ^ (steps.drop 0).length ≤ 5 ^ 5 := Nat.pow_le_pow_right (by decide) (by simp; exact hsl)
      have h3 : tree m T Tb u (steps.drop 0) (im0 n) ≤ 3125 := Nat.le_trans h1 h2
      show tree m T Tb u (steps.drop 0) (im0 n) + 0 ≤ 3125
      omega
    · exact ⟨rfl, fun i a e e1 e2 => by
        cases i with
        | zero => cases Option.some.inj e1; cases Option.some.inj e2; exact ent0
        | succ i => simp at e1⟩
    · intro e he
      rw [List.mem_singleton.mp he]
      exact entOk_0 hok
    · show [] ++ List.map (vals n) (List.flatMap (dfsAt m T Tb u steps) [(im0 n, 0)].reverse) = _
      unfold found
      simp [dfsAt]
    · rintro mm ys σ H' ⟨st, as, fs, y5, y6, y7, y8, rfl, rfl, hw, sm, epw, er, hent, hys, hpend⟩
      refine ⟨.ref pw, rfl, pw, _, rfl, .inl (SqL.of epw), _, 0, rfl, rfl, _, rfl, ite2 (fun e => ?_) (fun e => ?_)⟩
      · have hne : as ≠ [] := fun z => by rw [z] at e; exact absurd (of_decide_eq_true e) (by simp)
        obtain ⟨as', a, rfl⟩ : ∃ as' a, as = as' ++ [a] := ⟨as.dropLast, as.getLast hne, (List.dropLast_concat_getLast hne).symm⟩
        have hne2 : st ≠ [] := fun z => by have := er.len; rw [z] at this; simp at this
        obtain ⟨st', ⟨im, at_⟩, rfl⟩ : ∃ st' e, st = st' ++ [e] := ⟨st.dropLast, st.getLast hne2, (List.dropLast_concat_getLast hne2).symm⟩
        obtain ⟨er', ⟨hapw, q, hqpw, ea_, eq_⟩⟩ := er.front
        have entok := hent _ (List.mem_append_right _ (List.mem_singleton.mpr rfl))
        have hent' : ∀ e ∈ st', EntOk n m T Tb u steps e := fun e he => hent e (List.mem_append_left _ he)
        refine ⟨fun ys' σ' H'' => ∃ m', m' < weight m T Tb u steps (st' ++ [(im, at_)]) ∧ Wv m' ys' σ' H'', fun _ _ _ h => h, ?_⟩
        have elast : ((as' ++ [a]).map V.ref)[((as' ++ [a]).map V.ref).length - 1]? = some (.ref a) := by
          rw [List.map_append, List.length_append, List.length_map]
          show (as'.map V.ref ++ [V.ref a])[as'.length + 1 - 1]? = _
          rw [List.getElem?_append_right (by simp)]
          simp
        have edrop : ((as' ++ [a]).map V.ref).dropLast = as'.map V.ref := by rw [List.map_append]; exact List.dropLast_concat
        refine ⟨.ref pw, rfl, .inl ⟨rfl, _, SqL.of epw⟩, pw, _, .ref a, rfl, rfl, epw, elast, ?_⟩
        rw [edrop]
        have bt : But pw H' (upd H' pw (.lst (as'.map V.ref))) := But.refl.set
        have sm2 : Same H1 (upd H' pw (.lst (as'.map V.ref))) := sNew sm npw1
        have ea2 := bt _ _ hapw ea_
        have eq2 := bt _ _ hqpw eq_
        have kt2 : KT H' (upd H' pw (.lst (as'.map V.ref))) := KT.lst epw
        have ys2 : YsAt (upd H' pw (.lst (as'.map V.ref))) ys fs := by
          obtain ⟨yq, h1, h2⟩ := hys
          exact ⟨yq, h1, h2.mono kt2⟩
        have er2 := er'.but bt
        refine ⟨a, [.ref q, nv at_], rfl, SqT.of ea2, rfl, .ref q, _, rfl, nv at_, _, rfl, rfl, ?_⟩
        have lsq : (sqs.map V.ref).length = steps.length := by rw [List.length_map, srows.len]
        refine ⟨nv at_, rfl, .ref ps, rfl, ps, _, rfl, .inl (SqL.of (sm2 _ _ esteps)), rfl, _, rfl, ite2 (fun e2 => ?_) (fun e2 => ?_)⟩
        · rw [lsq] at e2
          have eat : at_ = steps.length := by
            have := V.int.inj (of_decide_eq_true e2)
            omega
          subst eat
          obtain ⟨hleaf, hval⟩ := entOk_leaf entok
          have eimg : im.map iv = (vals n im).map nv := by
            conv => lhs; rw [hleaf]
            rw [List.map_map]; rfl
          rw [pend_leaf, List.map_cons] at hpend
          have hlen := congrArg List.length hpend
          have hlf : (found m T Tb u n steps).length ≤ 1024 := by unfold found; rw [List.length_map]; exact hcount
          rw [List.length_append, List.length_cons] at hlen
          have hylen : ys.length = fs.length := by
            obtain ⟨yq, h1, h2⟩ := hys
            rw [h1, List.length_map, h2.len]
          refine ⟨small2000 (by omega), .ref q, rfl, q, _, rfl, .inl ⟨SqL.of eq2, fun z nz => ?_⟩⟩
          refine ⟨hY _ _ (by rw [List.length_append, List.length_singleton]; omega), ?_⟩
          have zpw : z ≠ pw := (ne_of_none upd_same nz).symm
          have sm3 := sNew (o := .tup (im.map iv)) sm2 (sFree sm2 nz)
          refine ⟨_, weight_leaf, st', as', fs ++ [vals n im], _, _, _, _, rfl, rfl, ?_, sm3, by rw [upd_ne zpw.symm]; exact upd_same, er2.but (fun b o _ e => by rw [upd_ne (ne_of_none e nz)]; exact e), hent', ?_, ?_⟩
          · exact Nat.le_of_lt (Nat.lt_of_lt_of_le weight_leaf hw)
          · obtain ⟨yq, h1, h2⟩ := ys2
            refine ⟨yq ++ [z], by rw [h1, List.map_append]; rfl, (h2.mono (KT.new nz)).snoc ?_⟩
            rw [upd_same, eimg]
          · rw [← hpend, List.append_assoc]; rfl
        · rw [lsq] at e2
          have hat : at_ < steps.length := by
            have h1 := entok.1
            have h1' : at_ ≤ steps.length := h1
            rcases Nat.eq_or_lt_of_le h1' with h | h
            · subst h; exact absurd (decide_eq_true rfl) e2
            · exact h
          obtain ⟨sp, hsp⟩ : ∃ sp, steps[at_]? = some sp := ⟨steps[at_], List.getElem?_eq_getElem hat⟩
          have hqs : at_ < sqs.length := by rw [srows.len]; exact hat
          have eqst : sqs[at_]? = some sqs[at_] := List.getElem?_eq_getElem hqs
          obtain ⟨qst, hqst⟩ : ∃ qst, qst = sqs[at_] := ⟨_, rfl⟩
          rw [← hqst] at eqst
          have hstep := srows.at_ at_ qst sp eqst hsp
          obtain ⟨_, kn, hkn, hstok, hpart⟩ := id entok
          have hdr : steps.drop at_ = sp :: steps.drop (at_ + 1) := drop_at hsp
          have hstok' : StepsOk n T kn (steps.drop at_) := hstok
          rw [hdr] at hstok'
          have hspnd : sp.kn.Nodup := stepsOk_nd hok (by simp) sp (List.mem_of_getElem? hsp)
          obtain ⟨c1, c2, c4, c5⟩ : sp.x < n ∧ sp.x ∉ kn ∧ Made T (kn ++ [sp.x]) sp.md sp.kn ∧ (∀ l ∈ sp.kn, ∀ r ∈ sp.kn, el T l r ∈ sp.kn) := by
            cases hstok' with
            | cons h1 h2 h3 h4 h5 h6 => exact ⟨h1, h2, h4, h5⟩
          have rgc : RgC ((m : Int) - 1) (-1) (-1) m := by
            have h := RgC.neg (i := (m : Int) - 1) (j := -1) (by omega) (by omega) (by omega) (by omega)
            have h2 : ((m : Int) - 1 - (-1)).toNat = m := by omega
            rwa [h2] at h
          obtain ⟨rv, hrv⟩ : ∃ rv, rv = (List.range m).reverse := ⟨_, rfl⟩
          have rvlen : rv.length = m := by rw [hrv]; simp
          have rvat : ∀ i, i < m → rv[i]? = some (m - 1 - i) := fun i hi => by
            rw [hrv, List.getElem?_reverse (by simp; exact hi), List.length_range, List.getElem?_range (by omega)]
          have hstlen : st'.length ≤ 3125 := by
            have h1 : (st' ++ [(im, at_)]).length ≤ weight m T Tb u steps (st' ++ [(im, at_)]) := len_weight _
            rw [List.length_append] at h1
            omega
          refine ⟨.ref pb, rfl, pb, C, dxb, _, _, rfl, sm2 _ _ (s1 _ _ eb), Xt.cl, Xt.nN, sgf_n m tb, (m : Int), 1, rfl, rfl, 1, rfl, 1, rfl, (m : Int) - 1, -1, -1, m, rfl, rgc, ?_⟩
          refine for_rangeC (n := m) (fun i σ H4 => ∃ (as2 : List Addr) (y7 y8 : Option V), σ = [some (.ref pa), some (.ref pb), some (.bl u), some (.ref ps), some (.ref pw), some (.ref q), some (nv at_), y7, y8] ∧ Same H1 H4 ∧ H4 q = some (.lst (im.map iv)) ∧ H4 pw = some (.lst (as2.map V.ref)) ∧
              ERows pw H4 as2 (st' ++ pushes T Tb u sp im at_ (rv.take i)) ∧ YsAt H4 ys fs) ?_ (fun i σ H4 hi h => ?_) (fun σ H4 h => ?_)
          · refine ⟨as', _, _, rfl, sm2, eq2, upd_same, ?_, ys2⟩
            show ERows _ _ as' (st' ++ [])
            rw [List.append_nil]; exact er2
          · obtain ⟨as2, y7, y8, rfl, sm4, eq4, epw4, er4, ys4⟩ := h
            have ey : V.int (((m : Int) - 1) + (i : Nat) * (-1)) = nv (m - 1 - i) := by
              show V.int _ = V.int _
              congr 1
              omega
            rw [ey]
            have hy : m - 1 - i < m := by omega
            have epush : pushes T Tb u sp im at_ (rv.take (i + 1)) = pushes T Tb u sp im at_ (rv.take i) ++ (match ext T Tb u im sp (m - 1 - i) with | none => [] | some f => [(f, at_ + 1)]) := by
              unfold pushes
              rw [List.take_add_one, rvat i hi, List.filterMap_append]
              congr 1
              simp only [Option.toList, List.filterMap_cons, List.filterMap_nil]
              cases ext T Tb u im sp (m - 1 - i) <;> rfl
            refine ⟨.ref pa, rfl, .ref pb, rfl, .ref q, rfl, .ref ps, rfl, nv at_, rfl, ps, _, (at_ : Int), .ref qst, rfl, rfl, SqL.of (sm4 _ _ esteps), atI_nat (by rw [List.getElem?_map, eqst]; rfl), nv (m - 1 - i), rfl, .bl u, rfl, ?_⟩
            refine ⟨pa, pb, q, qst, n, m, T, Tb, im, sp, kn, m - 1 - i, u, rfl, by omega, by omega, sg, sgb, ha.same (s1.trans sm4), hb.same (s1.trans sm4), eq4, hstep.mono (sKt sm4), c1, c2, c4, c5, hpart.asg, hy, hkn, hspnd, fun hx H6 sm6 => ?_, fun f hx p H6 np sm6 ef => ?_⟩
            · refine ⟨_, rfl, rfl, _, rfl, ite2 (fun e => absurd e (by decide)) (fun _ => ?_)⟩
              refine ⟨as2, _, _, rfl, sm4.trans sm6, sm6 _ _ eq4, sm6 _ _ epw4, ?_, ?_⟩
              · rw [epush, hx]
                show ERows _ _ _ (st' ++ (_ ++ []))
                rw [List.append_nil]
                exact er4.but (sBut sm6)
              · obtain ⟨yq, h1, h2⟩ := ys4
                exact ⟨yq, h1, h2.mono (sKt sm6)⟩
            · refine ⟨_, rfl, rfl, _, rfl, ite2 (fun _ => ?_) (fun e => absurd rfl e)⟩
              have epw6 := sm6 _ _ epw4
              have sm46 := sm4.trans sm6
              refine ⟨.ref pw, rfl, .inl ⟨rfl, _, SqL.of epw6⟩, .ref p, rfl, nv at_, rfl, _, 1, rfl, rfl, by show 2 ≤ sizeLine; decide, fun zt nzt => ?_⟩
              have zpw : zt ≠ pw := (ne_of_none epw6 nzt).symm
              have ppw : p ≠ pw := (ne_of_none epw4 np).symm
              have hel := er4.len
              have hpl : (pushes T Tb u sp im at_ (rv.take i)).length ≤ 4 := by
                unfold pushes
                refine Nat.le_trans (List.length_filterMap_le _ _) ?_
                rw [List.length_take]; omega
              rw [List.length_append] at hel
              refine ⟨pw, _, _, rfl, rfl, by rw [upd_ne zpw.symm]; exact epw6, Nat.lt_of_le_of_lt (show _ ≤ 4000 by rw [List.length_map]; omega) (by show 4000 < 2 ^ 24; decide), ?_⟩
              have sm7 := sNew (o := .tup [.ref p, nv (at_ + 1)]) sm46 (sFree sm46 nzt)
              have sm8 : Same H1 (upd (upd H6 zt (.tup [.ref p, nv (at_ + 1)])) pw (.lst (as2.map V.ref ++ [.ref zt]))) := sNew sm7 npw1
              have btn : But pw H6 (upd (upd H6 zt (.tup [.ref p, nv (at_ + 1)])) pw (.lst (as2.map V.ref ++ [.ref zt]))) := (But.refl.new nzt).set
              have qpw : q ≠ pw := hqpw
              refine ⟨as2 ++ [zt], _, _, rfl, sm8, btn _ _ qpw (sm6 _ _ eq4), by rw [upd_same, List.map_append]; rfl, ?_, ?_⟩
              · rw [epush, hx, ← List.append_assoc]
                refine ((er4.but (sBut sm6)).but btn).snoc ⟨zpw, p, ppw, by rw [upd_ne zpw]; exact upd_same, btn _ _ ppw ef⟩
              · obtain ⟨yq, h1, h2⟩ := ys4
                exact ⟨yq, h1, (h2.mono (sKt sm6)).mono (((KT.new nzt)).trans (KT.lst (by rw [upd_ne zpw.symm]; exact epw6)))⟩
          · obtain ⟨as2, y7, y8, rfl, sm4, eq4, epw4, er4, ys4⟩ := h
            rw [take_all rvlen, hrv] at er4
            have hw2 : weight m T Tb u steps (st' ++ pushes T Tb u sp im at_ (List.range m).reverse) < weight m T Tb u steps (st' ++ [(im, at_)]) := weight_push hsp
            refine ⟨_, hw2, st' ++ pushes T Tb u sp im at_ (List.range m).reverse, as2, fs, _, _, _, _, rfl, rfl, Nat.le_of_lt (Nat.lt_of_lt_of_le hw2 hw), sm4, epw4, er4, fun e he => ?_, ys4, ?_⟩
            · rcases List.mem_append.mp he with h | h
              · exact hent' e h
              · unfold pushes at h
                obtain ⟨y, hy, h2⟩ := List.mem_filterMap.mp h
                cases hx : ext T Tb u im sp y with
                | none => rw [hx] at h2; cases h2
                | some f =>
                  rw [hx] at h2
                  cases Option.some.inj h2
                  exact entOk_push sg sgb hsp entok (by simpa using hy) hx
            · rw [← pend_push hsp]; exact hpend
      · have has : as = [] := by
          cases as with
          | nil => rfl
          | cons x r => exact absurd (decide_eq_true (show (0 : Int) < (((x :: r).map V.ref).length : Int) by simp; try omega)) e
        subst has
        have hst0 : st = [] := List.eq_nil_of_length_eq_zero er.len.symm
        subst hst0
        have hfs : fs = res m n T Tb u := by
          rw [← hres, ← hpend]
          show fs = fs ++ []
          rw [List.append_nil]
        rw [hfs] at hys
        exact hQ ys H' (s1.trans sm) hys
end
end K35
set_option Elab.async false
set_option linter.all false
set_option maxRecDepth 100000
set_option maxHeartbeats 4000000
namespace K35
open PySem PySem.Spec PyProof.Rows L2
theorem SgAt.wo {C : Addr} {H : Hp} {p S : Addr} {n : Nat} {T : List (List Nat)} {xs : List V} (h : SgAt C H p n T) (e : H S = some (.lst xs)) : SgAt C (KG.wo H S) p n T := by
  obtain ⟨dx, q, e1, qs, e2, r⟩ := h
  have nt : ∀ {b : Addr} {ys : List V}, H b = some (.tup ys) → KG.wo H S b = some (.tup ys) := fun eb => by rw [KG.wo_ne (ne_of eb e (fun z => nomatch z))]; exact eb
  exact ⟨dx, q, by rw [KG.wo_ne (ne_of e1 e (fun z => nomatch z))]; exact e1, qs, nt e2, r.len, fun i a row x1 x2 => nt (r.at_ i a row x1 x2)⟩
section
variable {P : Program} {w : World} {K : PySem.W.Frag} {mg : Str → Option Value} {base : Heap}
def spGath (C : Addr) : Sp := fun vs H Q _ => ∃ (pa pb : Addr) (n m : Nat) (T Tb : List (List Nat)) (u : Bool), vs = [.ref pa, .ref pb, .bl u] ∧ n ≤ 5 ∧ m ≤ 4 ∧ Sg n T ∧ Sg m Tb ∧ SgAt C H pa n T ∧ SgAt C H pb m Tb ∧
  ∀ (p : Addr) (H' : Hp), H p = none → Same H H' → TabL H' p (res m n T Tb u) → Q (.ref p) H'
theorem res_len {n m : Nat} {T Tb : List (List Nat)} {u : Bool} (hn : n ≤ 5) (hm : m ≤ 4) : (res m n T Tb u).length ≤ 1024 := by
  unfold res
  cases u with
  | false => exact due_len hm hn
  | true => exact Nat.le_trans (List.length_filter_le _ _) (due_len hm hn)
theorem ok_gath {f fW C : Addr} {fd fdW : FuncData} {k : Nat} {mt : Tok} (F : Fun K "gathered" "gathered" sGath f fd)
    (GW : KG.GFn P w K mg base k fW fdW ["a", "b", "unlike"] (spWalk C)) (bW : Binds K fdW ["a", "b", "unlike"] []) (kW : PySem.W.keepIn K (.ref fW) = true) (gW : mg "walk" = some (.ref fW))
    (m_len : mg "len" = none) (m_MOST : mg "MOST_homs" = some (.int 50000 mt)) : FnOk P w K mg base CX0 (k + 2) f fd ["a", "b", "unlike"] (spGath C) := by
  refine F.ok scGath (fun vs H Q E h => ?_) (fun cdv A outer s H vs Q E hr h => ?_)
  · obtain ⟨pa, pb, n, m, T, Tb, u, rfl, _⟩ := h
    rfl
  · obtain ⟨pa, pb, n, m, T, Tb, u, rfl, hn, hm, sg, sgb, ha, hb, q⟩ := h
    refine ⟨_, pss_cons (ps_set (i := 3) scGath.nd rfl (.inl rfl) (pe_lst pa_nil))
      (pss_cons (KG.ps_forgen (q1 := ⟨0, 0, 0, 0⟩) (iF := 3) (iI := 4) GW hr (by rfl) gW kW bW (pa_cons (pv 0) (pa_cons (pv 1) (pa_cons (pv 2) pa_nil))) PassesOwn.never scGath.nd rfl rfl (fun _ => rfl) rfl rfl rfl rfl (by decide) (by rfl) m_len (by rfl) m_MOST (by show (50000 : Int) + 1 < ((2 ^ 24 : Nat) : Int); decide))
      (pss_one (ps_ret (pv 3)))), ?_⟩
    refine ⟨Nat.zero_le _, fun Sa nS => ?_⟩
    have s1 := sNew (o := .lst []) (Same.refl H) nS
    refine ⟨.ref pa, rfl, .ref pb, rfl, .bl u, rfl, Sa, fun ys H' => ys.length ≤ 1024, fun ys H' => Same (KG.wo (upd H Sa (.lst [])) Sa) H' ∧ YsAt H' ys (res m n T Tb u), rfl, upd_same, ?_, fun ys H' h => by omega, fun ys H' h => ?_, fun ys H' σ' hσ hS h => ?_⟩
    · exact ⟨pa, pb, n, m, T, Tb, u, rfl, hn, hm, sg, sgb, (ha.same s1).wo upd_same, (hb.same s1).wo upd_same, fun ys H' h => h, fun ys H' sm h => ⟨sm, h⟩⟩
    · obtain ⟨qs, h1, h2⟩ := h.2
      rw [h1, List.length_map, h2.len]
      exact Nat.le_of_lt (small2000 (Nat.le_trans (res_len hn hm) (by decide)))
    · obtain ⟨sm, qs, rfl, h2⟩ := h
      have keep : Same H (upd H' Sa (.lst (qs.map V.ref))) := fun b o e => by
        have hb : b ≠ Sa := ne_of_none e nS
        rw [upd_ne hb]
        refine sm b o ?_
        rw [KG.wo_ne hb, upd_ne hb]; exact e
      have rr : TabL (upd H' Sa (.lst (qs.map V.ref))) Sa (res m n T Tb u) := ⟨qs, upd_same, h2.mono (KT.new hS)⟩
      rcases hσ with rfl | ⟨x, rfl⟩
      · exact ⟨.ref Sa, rfl, q Sa _ nS keep rr⟩
      · exact ⟨.ref Sa, rfl, q Sa _ nS keep rr⟩
def spMaps (C : Addr) (u : Bool) : Sp := fun vs H Q _ => ∃ (pa pb : Addr) (n m : Nat) (T Tb : List (List Nat)), vs = [.ref pa, .ref pb] ∧ n ≤ 5 ∧ m ≤ 4 ∧ Sg n T ∧ Sg m Tb ∧ SgAt C H pa n T ∧ SgAt C H pb m Tb ∧
  ∀ (p : Addr) (H' : Hp), H p = none → Same H H' → TabT H' p (res m n T Tb u) → Q (.ref p) H'
def spCount (C : Addr) : Sp := fun vs H Q _ => ∃ (pa pb : Addr) (n m : Nat) (T Tb : List (List Nat)), vs = [.ref pa, .ref pb] ∧ n ≤ 5 ∧ m ≤ 4 ∧ Sg n T ∧ Sg m Tb ∧ SgAt C H pa n T ∧ SgAt C H pb m Tb ∧
  ∀ (H' : Hp), Same H H' → Q (nv (due m n T Tb).length) H'
section
variable {f fG C : Addr} {fd fdG : FuncData} {k : Nat}
theorem ok_homs (F : Fun K "homomorphisms" "homomorphisms" sHoms f fd) (GG : FnOk P w K mg base CX0 k fG fdG ["a", "b", "unlike"] (spGath C)) (bG : Binds K fdG ["a", "b", "unlike"] []) (kG : PySem.W.keepIn K (.ref fG) = true) (gG : mg "gathered" = some (.ref fG))
    (m_tuple : mg "tuple" = none) : FnOk P w K mg base CX0 (k + 1) f fd ["a", "b"] (spMaps C false) := by
  refine F.ok scHoms (fun vs H Q E h => ?_) (fun cdv A outer s H vs Q E hr h => ?_)
  · obtain ⟨pa, pb, n, m, T, Tb, rfl, _⟩ := h
    rfl
  · obtain ⟨pa, pb, n, m, T, Tb, rfl, hn, hm, sg, sgb, ha, hb, q⟩ := h
    refine ⟨_, pss_one (ps_ret (pe_callTy (cTup K) (by rfl) m_tuple PyProof.Rows.boot_tuple (pa_cons (pe_call GG hr (by rfl) gG kG bG .nil pass0 (pa_cons (pv 0) (pa_cons (pv 1) (pa_cons pe_bl pa_nil)))) pa_nil))), ?_⟩
    refine ⟨.ref pa, rfl, .ref pb, rfl, pa, pb, n, m, T, Tb, false, rfl, hn, hm, sg, sgb, ha, hb, fun p H' np sm tp => ?_⟩
    obtain ⟨qs, e, r⟩ := tp
    refine ⟨p, _, rfl, .inl ⟨SqL.of e, fun l nl => ?_⟩⟩
    exact q l _ (sFree sm nl) (sNew sm (sFree sm nl)) ⟨qs, upd_same, r.mono (KT.new nl)⟩
theorem ok_ones (F : Fun K "one_to_one" "one_to_one" sOnes f fd) (GG : FnOk P w K mg base CX0 k fG fdG ["a", "b", "unlike"] (spGath C)) (bG : Binds K fdG ["a", "b", "unlike"] []) (kG : PySem.W.keepIn K (.ref fG) = true) (gG : mg "gathered" = some (.ref fG))
    (m_tuple : mg "tuple" = none) : FnOk P w K mg base CX0 (k + 1) f fd ["a", "b"] (spMaps C true) := by
  refine F.ok scOnes (fun vs H Q E h => ?_) (fun cdv A outer s H vs Q E hr h => ?_)
  · obtain ⟨pa, pb, n, m, T, Tb, rfl, _⟩ := h
    rfl
  · obtain ⟨pa, pb, n, m, T, Tb, rfl, hn, hm, sg, sgb, ha, hb, q⟩ := h
    refine ⟨_, pss_one (ps_ret (pe_callTy (cTup K) (by rfl) m_tuple PyProof.Rows.boot_tuple (pa_cons (pe_call GG hr (by rfl) gG kG bG .nil pass0 (pa_cons (pv 0) (pa_cons (pv 1) (pa_cons pe_bl pa_nil)))) pa_nil))), ?_⟩
    refine ⟨.ref pa, rfl, .ref pb, rfl, pa, pb, n, m, T, Tb, true, rfl, hn, hm, sg, sgb, ha, hb, fun p H' np sm tp => ?_⟩
    obtain ⟨qs, e, r⟩ := tp
    refine ⟨p, _, rfl, .inl ⟨SqL.of e, fun l nl => ?_⟩⟩
    exact q l _ (sFree sm nl) (sNew sm (sFree sm nl)) ⟨qs, upd_same, r.mono (KT.new nl)⟩
theorem ok_count (F : Fun K "count_homomorphisms" "count_homomorphisms" sCount f fd) (GG : FnOk P w K mg base CX0 k fG fdG ["a", "b", "unlike"] (spGath C)) (bG : Binds K fdG ["a", "b", "unlike"] []) (kG : PySem.W.keepIn K (.ref fG) = true) (gG : mg "gathered" = some (.ref fG))
    (m_len : mg "len" = none) : FnOk P w K mg base CX0 (k + 1) f fd ["a", "b"] (spCount C) := by
  refine F.ok scCount (fun vs H Q E h => ?_) (fun cdv A outer s H vs Q E hr h => ?_)
  · obtain ⟨pa, pb, n, m, T, Tb, rfl, _⟩ := h
    rfl
  · obtain ⟨pa, pb, n, m, T, Tb, rfl, hn, hm, sg, sgb, ha, hb, q⟩ := h
    refine ⟨_, pss_one (ps_ret (pe_callB (cLen K) (by rfl) m_len PySem.boot_len (pa_cons (pe_call GG hr (by rfl) gG kG bG .nil pass0 (pa_cons (pv 0) (pa_cons (pv 1) (pa_cons pe_bl pa_nil)))) pa_nil))), ?_⟩
    refine ⟨.ref pa, rfl, .ref pb, rfl, pa, pb, n, m, T, Tb, false, rfl, hn, hm, sg, sgb, ha, hb, fun p H' np sm tp => ?_⟩
    obtain ⟨qs, e, r⟩ := tp
    refine ⟨p, _, rfl, .inl (SqL.of e), ?_⟩
    rw [TabL.len e r]
    exact q H' sm
end
end
end K35
set_option Elab.async false
set_option linter.all false
set_option maxRecDepth 100000
set_option maxHeartbeats 4000000
namespace K35
open PySem PySem.Spec PyProof.Rows L2
/-! ### sorted(xs): a list that stands in order is told as it stands -/
abbrev zi (r : List Nat) : List Int := r.map fun z : Nat => (z : Int)
theorem zi_pi (r : List Nat) : r.map pi_ = (zi r).map PyData.int := by unfold zi; rw [List.map_map]; rfl
theorem lt_of_LtL : ∀ {a b : List Nat}, a.length = b.length → LtL a b → zi a < zi b
  | [], [], _, h => absurd h LtL.irrefl
  | [], _ :: _, h, _ => by cases h
  | _ :: _, [], h, _ => by cases h
  | x :: a, y :: b, hl, ⟨k, h1, h2⟩ => by
    unfold zi
    rw [List.map_cons, List.map_cons, List.cons_lt_cons_iff]
    cases k with
    | zero => exact .inl (by have : x < y := h2; omega)
    | succ k =>
      have e : x = y := h1 0 (Nat.succ_pos _)
      refine .inr ⟨by rw [e], lt_of_LtL (by simpa using hl) ⟨k, fun j hj => h1 (j + 1) (Nat.succ_lt_succ hj), h2⟩⟩
theorem le_data {p q : Addr × List Nat} (hl : p.2.length = q.2.length) (h : LtL p.2 q.2) : PySem.W.dataLe false (fun b : Addr × List Nat => pt_ b.2) p q = true := by
  rw [PySem.W.dataLe_eq]
  show (!PySem.W.dataLt (pt_ q.2) (pt_ p.2)) = true
  rw [PySem.W.dataLt_tuple]
  have e : PySem.W.rowLt ((zi q.2).map PyData.int) ((zi p.2).map PyData.int) = false := by
    rw [PySem.W.dataLt_ints]
    exact decide_eq_false (fun z => List.lt_asymm z (lt_of_LtL hl h))
  rw [zi_pi, zi_pi]
  show (!PySem.W.rowLt ((zi q.2).map PyData.int) ((zi p.2).map PyData.int)) = true
  rw [e]; rfl
theorem each_refs {H : Hp} {X : Cx} {pins : List (Addr × Obj)} {σ : L2.St} {s : Shared} (I : Inv X pins σ H s) : ∀ {qs : List Addr} {T : List (List Nat)} {its : List Value}, Rows H qs T → Vals (qs.map V.ref) its →
    PySem.W.EachIs (fun v (b : Addr × List Nat) => v = Value.ref b.1) its (qs.zip T) ∧ PySem.W.EachIs (fun v (b : Addr × List Nat) => ∃ as, Reads s.heap v (pt_ b.2) as) its (qs.zip T)
  | [], [], _, _, .nil => ⟨.nil, .nil⟩
  | [], _ :: _, _, h, _ => by have := h.len; cases this
  | _ :: _, [], _, h, _ => by have := h.len; cases this
  | q :: qs, r :: T, _, h, .cons rv rs => by
    obtain ⟨a, b⟩ := each_refs I (qs := qs) (T := T) ⟨by have := h.len; simpa using this, fun i q' r' e1 e2 => h.at_ (i + 1) q' r' (by simpa using e1) (by simpa using e2)⟩ rs
    exact ⟨.cons rv a, .cons (Dp.reads I _ _ _ (dp_pt (h.at_ 0 q r rfl rfl)) rv) b⟩
theorem outs_refs : ∀ {qs : List Addr} {T : List (List Nat)} {out : List Value}, qs.length = T.length → PySem.W.EachIs (fun v (b : Addr × List Nat) => v = Value.ref b.1) out (qs.zip T) → Vals (qs.map V.ref) out
  | [], _, _, _, h => by cases h; exact .nil
  | _ :: _, [], _, h, _ => by cases h
  | q :: qs, r :: T, _, hl, .cons e t => by
    subst e
    exact .cons (show RelV (.ref q) (.ref q) from rfl) (outs_refs (by simpa using hl) t)
def rSorted : List V → Hp → VK → Prop := fun vs H Q => ∃ (a : Addr) (qs : List Addr) (T : List (List Nat)) (n : Nat), vs = [.ref a] ∧ H a = some (.lst (qs.map V.ref)) ∧ Rows H qs T ∧ 1 ≤ n ∧ (∀ r ∈ T, r.length = n) ∧ T.Pairwise LtL ∧ T.length ≤ 2000 ∧
  ∀ p, H p = none → Q (.ref p) (upd H p (.lst (qs.map V.ref)))
theorem zip_pairwise {R : List Nat → List Nat → Prop} : ∀ {qs : List Addr} {T : List (List Nat)}, T.Pairwise R → (qs.zip T).Pairwise fun p q => R p.2 q.2
  | [], _, _ => by simp
  | _ :: _, [], _ => by simp
  | q :: qs, r :: T, h => by
    rw [List.pairwise_cons] at h
    rw [List.zip_cons_cons, List.pairwise_cons]
    refine ⟨fun p hp => h.1 p.2 ?_, zip_pairwise h.2⟩
    exact (List.of_mem_zip (show (p.1, p.2) ∈ qs.zip T from hp)).2
theorem cSorted {X : Cx} (hu : X.A.units + 64 < cLine) : CallR X (.builtin "sorted") rSorted := by
  intro pins s σ H vs us Q I r h
  obtain ⟨a, qs, T, n, rfl, ea, rT, hn, hrow, hpw, hlen, q⟩ := h
  obtain ⟨its, rv, hl, hz⟩ := I.list (SqL.of ea)
  rw [Vals.ref1 r]
  obtain ⟨e1, e2⟩ := each_refs I rT rv
  have hlz : (qs.zip T).length = T.length := by rw [List.length_zip, rT.len, Nat.min_self]
  have hmem : ∀ b ∈ qs.zip T, b.2.length = n := fun b hb => hrow _ (List.of_mem_zip (show (b.1, b.2) ∈ qs.zip T from hb)).2
  refine PySem.W.sorted_data (enc := fun b : Addr × List Nat => pt_ b.2) hl.isList e1 e2 ?_ ?_ ?_ ?_ fun out h1 h2 => ?_
  · exact PySem.W.AllAlike.of fun b b' => by
      show PySem.W.alikeAll (b.2.map pi_) (b'.2.map pi_) = true
      rw [zi_pi, zi_pi]
      exact PySem.W.alike_ints _ _
  · refine .inl fun d hd => ?_
    obtain ⟨b, hb, rfl⟩ := List.mem_map.mp hd
    have := hmem b hb
    cases hb2 : b.2 with
    | nil => rw [hb2] at this; simp at this; omega
    | cons x r => exact ⟨_, _, rfl⟩
  · rw [hlz]; exact Nat.le_of_lt (small2000 hlen)
  · intro b hb
    have h3 : (pt_ b.2).depth = PyData.depthAll (b.2.map pi_) + 1 := by simp only [PyData.depth]
    have h2 := depth_ints b.2
    show X.A.units + 2 + (pt_ b.2).depth < cLine
    omega
  · have hs : (qs.zip T).mergeSort (PySem.W.dataLe false fun b : Addr × List Nat => pt_ b.2) = qs.zip T := by
      refine List.mergeSort_of_pairwise ?_
      have hp := List.Pairwise.and_mem.mp (zip_pairwise (qs := qs) hpw)
      refine hp.imp ?_
      rintro p p' ⟨m1, m2, hlt⟩
      exact le_data (by rw [hmem p m1, hmem p' m2]) hlt
    rw [hs] at h2
    obtain ⟨ep, he'⟩ := PyProof.Rows.sortedAll_at s.heap its out.toArray
    have hv : Vals (qs.map V.ref) out := outs_refs rT.len h2
    have hsz : (qs.map V.ref).length ≤ sizeLine := by rw [List.length_map, rT.len]; exact Nat.le_of_lt (small2000 hlen)
    exact ⟨.ref _, upd H (s.heap.objs.size + 1) (.lst (qs.map V.ref)), I.laid (t' := s.toks) (fun _ _ => PyProof.Rows.sortedAll_old) (Nat.le_succ _) ⟨hsz, out, ep, hv, he'⟩, rfl, q _ (I.hok.fresh (Nat.le_succ _))⟩
end K35
set_option Elab.async false
set_option linter.all false
set_option maxRecDepth 100000
set_option maxHeartbeats 4000000
namespace K35
open PySem PySem.Spec PyProof.Rows L2
abbrev nLaw : List Str := ["_law_script", "_law_state_here", "_law_one", "_law_two", "_law_a", "_law_b", "_law_n", "_law_m", "_law_due", "_law_told", "_law_apart", "_law_drawn", "_law_value", "_law_images", "_law_x"]
theorem SgAt.kp {C : Addr} {H H' : Hp} {a p : Addr} {n : Nat} {T : List (List Nat)} (h : SgAt C H p n T) (st : LawSt H a) (k : Kp a H H') : SgAt C H' p n T := by
  obtain ⟨dx, q, e, t⟩ := h
  obtain ⟨S, Z, h0, ea⟩ := id st
  exact ⟨dx, q, k.keep _ _ (ne_of e ea (fun z => nomatch z)) e, t.mono (k.kt st)⟩
/-- what stands -/
structure St4 (C ast po pt : Addr) (n m : Nat) (T Tb : List (List Nat)) (H : Hp) : Prop where
  st : LawSt H ast
  one : TabL H po T
  two : TabL H pt Tb
structure St9 (C ast po pt pa pb pd : Addr) (n m : Nat) (T Tb : List (List Nat)) (H : Hp) : Prop where
  st : LawSt H ast
  one : TabL H po T
  two : TabL H pt Tb
  a : SgAt C H pa n T
  b : SgAt C H pb m Tb
  d : TabL H pd (due m n T Tb)
theorem St9.kp {C ast po pt pa pb pd : Addr} {n m : Nat} {T Tb : List (List Nat)} {H H' : Hp} (h : St9 C ast po pt pa pb pd n m T Tb H) (k : Kp ast H H') : St9 C ast po pt pa pb pd n m T Tb H' :=
  ⟨k.st, h.one.kp h.st k, h.two.kp h.st k, h.a.kp h.st k, h.b.kp h.st k, h.d.kp h.st k⟩
theorem St9.same {C ast po pt pa pb pd : Addr} {n m : Nat} {T Tb : List (List Nat)} {H H' : Hp} (h : St9 C ast po pt pa pb pd n m T Tb H) (k : Same H H') : St9 C ast po pt pa pb pd n m T Tb H' := h.kp (sKp k h.st)
theorem NoMap.same {H H' : Hp} {n m : Nat} {v : V} (h : NoMap H n m v) (s : Same H H') : NoMap H' n m v := by
  rcases h with h | ⟨q, ys, h1, h2⟩ | ⟨q, xs, h1, h2, h3⟩
  · exact .inl h
  · exact .inr (.inl ⟨q, ys, h1, s _ _ h2⟩)
  · exact .inr (.inr ⟨q, xs, h1, s _ _ h2, h3⟩)
theorem cons_of {t : TE} {ts : TA} {σ : L2.St} {H : Hp} {Q : List V → Hp → Prop} (h : t σ H fun x H1 => ts σ H1 fun xs H2 => Q (x :: xs) H2) : tCons t ts σ H Q := h
theorem seq_list {K : PySem.W.Frag} {ts : TA} {g : TG} {tb u : TS} {D : Ends} {σ : L2.St} {H : Hp} (h : ts σ H fun xs H1 => xs.length ≤ sizeLine ∧ ∀ p, H1 p = none → ∃ a, V.ref p = .ref a ∧ (∃ ys, SqL K (upd H1 p (.lst xs)) a ys) ∧
    ∃ W : Nat → Nat → L2.St → Hp → Prop, (∃ m, W 0 m σ (upd H1 p (.lst xs))) ∧ ∀ i m σ H, W i m σ H →
      ((Itl K a).stop i H ∧ u D σ H) ∨ ((Itl K a).go i H ∧ ∃ N : L2.St → Hp → Prop, (∀ σ' H', N σ' H' → ∃ m', m' < m ∧ W (i + 1) m' σ' H') ∧ ∀ x H', (Itl K a).yld i H x H' → g x σ H' fun σ2 H2 => tb { D with nx := N, ct := N, bk := u D } σ2 H2)) : tSeq (tFor (iList K (tLst ts)) g tb) u D σ H := h
theorem cut1 (L : List V) : cutV L (some 1) none = L.drop 1 := by
  unfold cutV
  have h1 : HT.sIx L.length 0 (some 1) = min 1 L.length := HT.sIx_nat L.length 0 1
  rw [h1, HT.sIx_none]
  cases L with
  | nil => rfl
  | cons a r =>
    rw [show min 1 (a :: r).length = 1 by simp]
    exact List.take_of_length_le (by simp)
/-- (x,) + drawn[1:] -/
theorem bump_tail {K : PySem.W.Frag} {te tv : TE} {σ : L2.St} {H : Hp} {Q : VK} {pd : Addr} {L : List Nat} {x : V} (hL : H pd = some (.tup (L.map nv))) (h1 : 1 ≤ L.length) (h5 : L.length ≤ 5) (hx : ∀ R : VK, R x H → te σ H R) (hv : ∀ (H' : Hp) (R : VK), R (.ref pd) H' → tv σ H' R)
    (q : ∀ (p : Addr) (H' : Hp), Same H H' → H' p = some (.tup (x :: (L.map nv).drop 1)) → Q (.ref p) H') :
    tOp (rCatA K) (tTup (tCons te tNil)) (tSl (rSlA K) tv (tPart (tC (.int 1))) tNoPart) σ H Q := by
  refine hx _ ⟨by show 1 ≤ sizeLine; decide, fun z nz => ?_⟩
  have s1 := sNew (o := .tup [x]) (Same.refl H) nz
  refine hv _ _ ⟨1, rfl, pd, _, rfl, SqT.of (s1 _ _ hL), fun hw => ?_, fun _ y ny => ?_⟩
  · exfalso
    have h := hw.1
    have h2 : HT.sIx (L.map nv).length 0 (some 1) = min 1 (L.map nv).length := HT.sIx_nat (L.map nv).length 0 1
    rw [h2, nv_len] at h
    omega
  · rw [cut1]
    have s2 := sNew (o := .tup ((L.map nv).drop 1)) s1 (sFree s1 ny)
    have ez : (upd (upd H z (.tup [x])) y (.tup ((L.map nv).drop 1))) z = some (.tup [x]) := by rw [upd_ne (ne_of_none upd_same ny)]; exact upd_same
    refine ⟨z, y, [x], (L.map nv).drop 1, rfl, rfl, SqT.of ez, SqT.of upd_same, ?_, fun e => (nomatch e), fun _ e => ?_, fun _ _ p np => ?_⟩
    · rw [List.length_drop, nv_len]
      exact Nat.le_of_lt (small1000 (by simp; omega))
    · refine q z _ s2 ?_
      rw [ez, e]
    · exact q p _ (sNew s2 (sFree s2 np)) upd_same
section
variable {P : Program} {w : World} {K : PySem.W.Frag} {mg : Str → Option Value} {base : Heap}
def spLaw (K : PySem.W.Frag) : Sp := fun vs H Q _ => ∃ (a : Addr) (ns : List Int), vs = [.ref a] ∧ SqL K H a (ns.map V.int) ∧ ns.length ≤ 63 ∧ ∀ H', Q (.bl true) H'
section
variable {f C fI fST fSG fT fR fO fRW fKP fHM fCT fOO fIH : Addr} {fd fdI fdST fdSG fdT fdR fdO fdRW fdKP fdHM fdCT fdOO fdIH : FuncData} {k : Nat}
theorem ok_law (F : Fun K "law" "law" sLaw f fd) (X : Txt K C) (MC : Mk K C fI) (GI : FnOk P w K mg base CX0 k fI fdI ["self", "table"] (spInit C)) (bI : Binds K fdI ["self", "table"] []) (gC : mg "Semigroup" = some (.ref C))
    (GST : FnOk P w K mg base CX0 (k + 1) fST fdST ["_law_script"] (spState K)) (bST : Binds K fdST ["_law_script"] []) (kST : PySem.W.keepIn K (.ref fST) = true) (gST : mg "_law_state" = some (.ref fST))
    (GSG : FnOk P w K mg base CX0 (k + 1) fSG fdSG ["_law_state_here", "_law_most"] spBuild) (bSG : Binds K fdSG ["_law_state_here", "_law_most"] []) (kSG : PySem.W.keepIn K (.ref fSG) = true) (gSG : mg "_law_semigroup" = some (.ref fSG))
    (GT : FnOk P w K mg base CX0 (k + 1) fT fdT ["_law_state_here", "_law_m"] spTake) (bT : Binds K fdT ["_law_state_here", "_law_m"] []) (kT : PySem.W.keepIn K (.ref fT) = true) (gT : mg "_law_take" = some (.ref fT))
    (GR : FnOk P w K mg base CX0 (k + 1) fR fdR ["_law_table", "_law_order"] spRen) (bR : Binds K fdR ["_law_table", "_law_order"] []) (kR : PySem.W.keepIn K (.ref fR) = true) (gR : mg "_law_renamed" = some (.ref fR))
    (GO : FnOk P w K mg base CX0 (k + 1) fO fdO ["_law_state_here", "_law_n"] spOrder) (bO : Binds K fdO ["_law_state_here", "_law_n"] []) (kO : PySem.W.keepIn K (.ref fO) = true) (gO : mg "_law_order_of" = some (.ref fO))
    (GRW : FnOk P w K mg base CX0 (k + 1) fRW fdRW ["_law_n", "_law_count"] spRows) (bRW : Binds K fdRW ["_law_n", "_law_count"] []) (kRW : PySem.W.keepIn K (.ref fRW) = true) (gRW : mg "_law_rows_of" = some (.ref fRW))
    (GKP : FnOk P w K mg base CX0 (k + 1) fKP fdKP ["_law_one", "_law_two", "_law_images"] spKeeps) (bKP : Binds K fdKP ["_law_one", "_law_two", "_law_images"] []) (kKP : PySem.W.keepIn K (.ref fKP) = true) (gKP : mg "_law_keeps" = some (.ref fKP))
    (GHM : FnOk P w K mg base CX0 (k + 1) fHM fdHM ["a", "b"] (spMaps C false)) (bHM : Binds K fdHM ["a", "b"] []) (kHM : PySem.W.keepIn K (.ref fHM) = true) (gHM : mg "homomorphisms" = some (.ref fHM))
    (GCT : FnOk P w K mg base CX0 (k + 1) fCT fdCT ["a", "b"] (spCount C)) (bCT : Binds K fdCT ["a", "b"] []) (kCT : PySem.W.keepIn K (.ref fCT) = true) (gCT : mg "count_homomorphisms" = some (.ref fCT))
    (GOO : FnOk P w K mg base CX0 (k + 1) fOO fdOO ["a", "b"] (spMaps C true)) (bOO : Binds K fdOO ["a", "b"] []) (kOO : PySem.W.keepIn K (.ref fOO) = true) (gOO : mg "one_to_one" = some (.ref fOO))
    (GIH : FnOk P w K mg base CX0 (k + 1) fIH fdIH ["a", "b", "images"] (spIsHom C)) (bIH : Binds K fdIH ["a", "b", "images"] []) (kIH : PySem.W.keepIn K (.ref fIH) = true) (gIH : mg "is_homomorphism" = some (.ref fIH))
    (m_len : mg "len" = none) (m_tuple : mg "tuple" = none) (m_list : mg "list" = none) (m_range : mg "range" = none) (m_sorted : mg "sorted" = none) :
    FnOk P w K mg base CX0 (k + 2) f fd ["_law_script"] (spLaw K) := by
  refine F.ok scLaw (fun vs H Q E h => ?_) (fun cdv A outer s H vs Q E hr h => ?_)
  · obtain ⟨a, ns, rfl, _⟩ := h
    rfl
  · obtain ⟨as_, ns, rfl, hS, hlen, q⟩ := h
    obtain ⟨u16, hu16, ru16⟩ : ∃ u, PSs (cxOf CX0 P w K mg base nLaw "law" (defScope sLaw) f cdv A outer s H E).nox ((defBody sLaw).drop 16) u ∧
        ∀ (H5 : Hp) (ast po pt pa pb pd pdr : Addr) (n m : Nat) (T Tb : List (List Nat)) (L : List Nat) (y9 y10 : Option V), St9 C ast po pt pa pb pd n m T Tb H5 → Sg n T → Sg m Tb → n ≤ 5 → m ≤ 4 → H5 pdr = some (.tup (L.map nv)) → L.length = n → (∀ v ∈ L, v < m) →
          u { nx := fun _ H' => Q .non H', rt := Q } [some (.ref as_), some (.ref ast), some (.ref po), some (.ref pt), some (.ref pa), some (.ref pb), some (nv n), some (nv m), some (.ref pd), y9, y10, some (.ref pdr), none, none, none] H5 := by
      refine ⟨_, (pss_cons (ps_for PassesOwn.never rfl (piL K (pe_lst (pa_cons pe_non (pa_cons (pe_callTy (cList K) (by rfl) m_list PyProof.Rows.boot_list (pa_cons (pv 11) pa_nil)) (pa_cons (pe_op (oCatA K) (pv 11) (pe_tup (pa_cons pe_int pa_nil))) (pa_cons (pe_slice (slT K) (pv 11) (po_some pe_int) po_none) (pa_cons (pe_op (oCatA K) (pe_tup (pa_cons (pv 7) pa_nil)) (pe_slice (slT K) (pv 11) (po_some pe_int) po_none)) (pa_cons (pe_op (oCatA K) (pe_tup (pa_cons (pe_un un_neg pe_int) pa_nil)) (pe_slice (slT K) (pv 11) (po_some pe_int) po_none)) (pa_cons (pe_op (oCatA K) (pe_tup (pa_cons pe_bl pa_nil)) (pe_slice (slT K) (pv 11) (po_some pe_int) po_none)) (pa_cons (pe_op (oCatA K) (pe_tup (pa_cons pe_non pa_nil)) (pe_slice (slT K) (pv 11) (po_some pe_int) po_none)) pa_nil)))))))))) (pg_name (i := 12) scLaw.nd rfl (.inl rfl))
  (pss_one (ps_if (pt_cmpR op_notBl (pe_call GIH hr (by rfl) gIH kIH bIH .nil pass0 (pa_cons (pv 4) (pa_cons (pv 5) (pa_cons (pv 12) pa_nil)))) pe_bl (nomark _))
  (pss_one (ps_ret pe_bl))
  pss_nil)))
  (pss_one (ps_ret pe_bl))), ?_⟩
      intro H5 ast po pt pa pb pd pdr n m T Tb L y9 y10 s9 sg sgb hn hm ed hl hv
      have hn0 := sg.pos
      have htl : (L.map nv) ≠ [] := fun z => by have := congrArg List.length z; rw [nv_len, hl] at this; simp at this; omega
      have hdr1 : ((L.map nv).drop 1).length = n - 1 := by rw [List.length_drop, nv_len, hl]
      have bad : ∀ {H' : Hp} {p : Addr} {x : V}, BadV m x → H' p = some (.tup (x :: (L.map nv).drop 1)) → NoMap H' n m (.ref p) := fun {H' p x} hb e => .inr (.inr ⟨p, _, rfl, e, .inr ⟨x, _, rfl, hb⟩⟩)
      refine seq_list ?_
      refine ⟨.ref pdr, rfl, pdr, _, rfl, .inr (SqT.of ed), fun l1 nl1 => ?_⟩
      have t1 := sNew (o := .lst (L.map nv)) (Same.refl H5) nl1
      refine ⟨.ref pdr, rfl, by show 1 ≤ sizeLine; decide, fun z nz => ?_⟩
      have t2 := sNew (o := .tup [nv 0]) t1 (sFree t1 nz)
      refine ⟨pdr, z, L.map nv, [nv 0], rfl, rfl, SqT.of (t2 _ _ ed), SqT.of upd_same, ?_, fun e => absurd e htl, fun _ e => (nomatch e), fun _ _ y ny => ?_⟩
      · rw [nv_len, hl]; exact Nat.succ_le_of_lt (small1000 (by omega))
      have t3_ := sNew (o := .tup (L.map nv ++ [nv 0])) t2 (sFree t2 ny)
      refine ⟨.ref pdr, rfl, 1, rfl, pdr, _, rfl, SqT.of (t3_ _ _ ed), fun hw => ?_, fun _ y2 ny2 => ?_⟩
      · exfalso
        have h := hw.1
        have h2 : HT.sIx (L.map nv).length 0 (some 1) = min 1 (L.map nv).length := HT.sIx_nat (L.map nv).length 0 1
        rw [h2, nv_len] at h
        omega
      rw [cut1]
      have t4 := sNew (o := .tup ((L.map nv).drop 1)) t3_ (sFree t3_ ny2)
      have n1 : NoMap (upd H5 l1 (.lst (L.map nv))) n m (.ref l1) := .inr (.inl ⟨l1, _, rfl, upd_same⟩)
      have sab1 := sNew (o := .tup [nv 0]) (Same.refl (upd H5 l1 (.lst (L.map nv)))) nz
      have sab := sNew (o := .tup (L.map nv ++ [nv 0])) sab1 (sFree sab1 ny)
      have n2 : NoMap (upd (upd (upd H5 l1 (.lst (L.map nv))) z (.tup [nv 0])) y (.tup (L.map nv ++ [nv 0]))) n m (.ref y) :=
        .inr (.inr ⟨y, _, rfl, upd_same, .inl (by rw [List.length_append, nv_len, hl]; simp)⟩)
      have sbc := sNew (o := .tup ((L.map nv).drop 1)) (Same.refl (upd (upd (upd H5 l1 (.lst (L.map nv))) z (.tup [nv 0])) y (.tup (L.map nv ++ [nv 0])))) ny2
      have n3 : NoMap (upd (upd (upd (upd H5 l1 (.lst (L.map nv))) z (.tup [nv 0])) y (.tup (L.map nv ++ [nv 0]))) y2 (.tup ((L.map nv).drop 1))) n m (.ref y2) :=
        .inr (.inr ⟨y2, _, rfl, upd_same, .inl (by rw [hdr1]; omega)⟩)
      have m1 := n1.same (sab.trans sbc)
      have m2 := n2.same sbc
      have hL1 : 1 ≤ L.length := by omega
      have hL5 : L.length ≤ 5 := by omega
      refine cons_of ?_
      refine bump_tail (pd := pdr) (L := L) (x := nv m) (t4 _ _ ed) hL1 hL5 (fun R h => ⟨_, rfl, h⟩) (fun H' R h => ⟨_, rfl, h⟩) (fun p5 H9 sm9 e9 => ?_)
      have t9 := t4.trans sm9
      refine cons_of ?_
      refine bump_tail (pd := pdr) (L := L) (x := .int (-1)) (t9 _ _ ed) hL1 hL5 (fun R h => ⟨1, rfl, h⟩) (fun H' R h => ⟨_, rfl, h⟩) (fun p6 H10 sm10 e10 => ?_)
      have t10 := t9.trans sm10
      refine cons_of ?_
      refine bump_tail (pd := pdr) (L := L) (x := .bl true) (t10 _ _ ed) hL1 hL5 (fun R h => h) (fun H' R h => ⟨_, rfl, h⟩) (fun p7 H11 sm11 e11 => ?_)
      have t11 := t10.trans sm11
      refine cons_of ?_
      refine bump_tail (pd := pdr) (L := L) (x := .non) (t11 _ _ ed) hL1 hL5 (fun R h => h) (fun H' R h => ⟨_, rfl, h⟩) (fun p8 H12 sm12 e12 => ?_)
      have t12 := t11.trans sm12
      refine ⟨by show 8 ≤ sizeLine; decide, fun pl npl => ⟨pl, rfl, ⟨_, SqL.of upd_same⟩, ?_⟩⟩
      have s13 := sNew (o := .lst [.non, .ref l1, .ref y, .ref y2, .ref p5, .ref p6, .ref p7, .ref p8]) (Same.refl H12) npl
      have t13 := t12.trans s13
      have s12 := sm12.trans s13
      have s11 := sm11.trans s12
      have s10 := sm10.trans s11
      have s9' := sm9.trans s10
      obtain ⟨Hf, hHf⟩ : ∃ Hf, Hf = upd H12 pl (.lst [.non, .ref l1, .ref y, .ref y2, .ref p5, .ref p6, .ref p7, .ref p8]) := ⟨_, rfl⟩
      have epl : Hf pl = some (.lst [.non, .ref l1, .ref y, .ref y2, .ref p5, .ref p6, .ref p7, .ref p8]) := by rw [hHf]; exact upd_same
      rw [← hHf] at t13 s12 s11 s10 s9' s13
      have hall : ∀ x ∈ [V.non, .ref l1, .ref y, .ref y2, .ref p5, .ref p6, .ref p7, .ref p8], NoMap Hf n m x := by
        intro x hx
        simp only [List.mem_cons, List.mem_nil_iff, or_false] at hx
        rcases hx with rfl | rfl | rfl | rfl | rfl | rfl | rfl | rfl
        · exact .inl rfl
        · exact m1.same s9'
        · exact m2.same s9'
        · exact n3.same s9'
        · exact (bad (.inr (.inr ⟨(m : Int), rfl, .inr (Int.le_refl _)⟩)) e9).same s10
        · exact (bad (.inr (.inr ⟨-1, rfl, .inl (by decide)⟩)) e10).same s11
        · exact (bad (.inr (.inl ⟨true, rfl⟩)) e11).same s12
        · exact (bad (.inl rfl) e12).same s13
      have s9f := s9.same t13
      refine for_list (D := { nx := tRet (tC (.bl true)) { nx := fun _ H' => Q .non H', rt := Q }, rt := Q }) (xs := [.non, .ref l1, .ref y, .ref y2, .ref p5, .ref p6, .ref p7, .ref p8]) (fun i σ H6 => H6 = Hf ∧ ∃ y12, σ = [some (.ref as_), some (.ref ast), some (.ref po), some (.ref pt), some (.ref pa), some (.ref pb), some (nv n), some (nv m), some (.ref pd), y9, y10, some (.ref pdr), y12, none, none]) ⟨hHf.symm, none, rfl⟩ (fun i σ H6 _ h => SqL.of (by rw [h.1]; exact epl)) (fun i x σ H6 hx h => ?_) (fun σ H6 h => ?_)
      · obtain ⟨rfl, y12, rfl⟩ := h
        have nm := hall x (List.mem_of_getElem? hx)
        refine ⟨.ref pa, rfl, .ref pb, rfl, x, rfl, pa, pb, n, m, T, Tb, x, rfl, by omega, by omega, sg, sgb, s9f.a, s9f.b, .inr ⟨nm, ?_⟩⟩
        exact ⟨false, false, rfl, rfl, _, rfl, ite2 (fun e => absurd e (by decide)) (fun _ => ⟨rfl, _, rfl⟩)⟩
      · obtain ⟨rfl, y12, rfl⟩ := h
        exact q _
    obtain ⟨u13, hu13, ru13⟩ : ∃ u, PSs (cxOf CX0 P w K mg base nLaw "law" (defScope sLaw) f cdv A outer s H E).nox ((defBody sLaw).drop 13) u ∧
        ∀ (H5 : Hp) (ast po pt pa pb pd : Addr) (n m : Nat) (T Tb : List (List Nat)) (y9 y10 : Option V), St9 C ast po pt pa pb pd n m T Tb H5 → Sg n T → Sg m Tb → n ≤ 5 → m ≤ 4 →
          u { nx := fun _ H' => Q .non H', rt := Q } [some (.ref as_), some (.ref ast), some (.ref po), some (.ref pt), some (.ref pa), some (.ref pb), some (nv n), some (nv m), some (.ref pd), y9, y10, none, none, none, none] H5 := by
      refine ⟨_, (pss_cons (ps_set (i := 11) scLaw.nd rfl (.inl rfl) (pe_callTy (cTup K) (by rfl) m_tuple PyProof.Rows.boot_tuple (pa_cons (pe_lc (own := [("_law_x", 14)]) (g := gName 14) (tt := tYes) rfl scLaw.nd (pi_range1 (by rfl) m_range (pa_cons (pv 6) pa_nil)) (blkOk_by (N := nLaw) (sc := defScope sLaw) (by decide +kernel)) (fun _ _ _ _ _ => pg_name (i := 14) scLaw.nd rfl (by first | exact .inl rfl | exact .inr rfl)) (fun _ _ _ _ _ => pts_nil) (fun _ _ _ _ _ => (pe_call GT hr (by rfl) gT kT bT .nil pass0 (pa_cons (pv 1) (pa_cons (pv 7) pa_nil))))) pa_nil)))
  (pss_cons (ps_if (pt_cmpR op_ne (pe_call GIH hr (by rfl) gIH kIH bIH .nil pass0 (pa_cons (pv 4) (pa_cons (pv 5) (pa_cons (pv 11) pa_nil)))) (pe_cmpR (oIn K (hu65 hr)) (pv 11) (pv 8) rfl) (nomark _))
  (pss_one (ps_ret pe_bl))
  pss_nil)
  (pss_cons (ps_if (PW.pt (pw_and (pt_cmpR op_gt (pe_callB (cLen K) (by rfl) m_len PySem.boot_len (pa_cons (pv 8) pa_nil)) pe_int (nomark _)) (pw_and1 (pt_cmpR op_notBl (pe_call GIH hr (by rfl) gIH kIH bIH .nil pass0 (pa_cons (pv 4) (pa_cons (pv 5) (pa_cons (pe_ix (ixL K) (pv 8) (pe_call GT hr (by rfl) gT kT bT .nil pass0 (pa_cons (pv 1) (pa_cons (pe_callB (cLen K) (by rfl) m_len PySem.boot_len (pa_cons (pv 8) pa_nil)) pa_nil))) (fun _ _ => rfl)) pa_nil)))) pe_bl (nomark _)))))
  (pss_one (ps_ret pe_bl))
  pss_nil)
  hu16))), ?_⟩
      intro H5 ast po pt pa pb pd n m T Tb y9 y10 s9 sg sgb hn hm
      have hn0 := sg.pos
      have hdl : (due m n T Tb).length ≤ 1024 := due_len hm hn
      refine ⟨nv n, rfl, (n : Int), rfl, by omega, by omega, fun D nD => ?_⟩
      have Da := s9.st.ne nD
      refine lc_rg (n := n) (fun j H6 => Kp ast H5 H6 ∧ ∃ row : List Nat, H6 D = some (.lst (row.map nv)) ∧ row.length = j ∧ ∀ v ∈ row, v < m) ⟨(Kp.refl s9.st).upd_new nD Da, [], upd_same, rfl, fun v hv => (nomatch hv)⟩ (fun j H6 hj h => ?_) (fun H6 h => ?_)
      · obtain ⟨kp6, row, eD, er, hrow⟩ := h
        refine ⟨rfl, .ref ast, rfl, nv m, rfl, ast, m, rfl, sgb.pos, by omega, kp6.st, fun v S4 T4 hv hS4 => ?_⟩
        have eD' : (upd H6 ast (.lst [.int S4, .int T4])) D = some (.lst (row.map nv)) := by rw [upd_ne Da]; exact eD
        refine ⟨_, eD', by rw [nv_len]; exact small1000 (by omega), (kp6.upd_st hS4).upd_new nD Da, row ++ [v], by rw [upd_same, List.map_append]; rfl, by rw [List.length_append, er]; rfl, fun z hz => ?_⟩
        rcases List.mem_append.mp hz with zz | zz
        · exact hrow z zz
        · rw [List.mem_singleton.mp zz]; exact hv
      · obtain ⟨kp6, L, eD, hl, hv⟩ := h
        have s6 := s9.kp kp6
        refine ⟨D, _, rfl, .inl ⟨SqL.of eD, fun pdr npdr => ?_⟩⟩
        have sm7 := sNew (o := .tup (L.map nv)) (Same.refl H6) npdr
        have s7 := s6.same sm7
        obtain ⟨H7, hH7⟩ : ∃ H7, H7 = upd H6 pdr (.tup (L.map nv)) := ⟨_, rfl⟩
        have edr : H7 pdr = some (.tup (L.map nv)) := by rw [hH7]; exact upd_same
        rw [← hH7] at s7 ⊢
        obtain ⟨ds, ed, rd⟩ := id s7.d
        refine ⟨.ref pa, rfl, .ref pb, rfl, .ref pdr, rfl, pa, pb, n, m, T, Tb, .ref pdr, rfl, by omega, by omega, sg, sgb, s7.a, s7.b, .inl ⟨pdr, L, rfl, edr, hl, hv, ?_⟩⟩
        refine ⟨.ref pdr, rfl, .ref pd, rfl, pt_ L, (due m n T Tb).map pt_, dp_pt edr, dp_tabL s7.d, shaped_pt L, (shaped_pts _).1, rfl, ?_⟩
        rw [any_pts]
        have emem : decide (L ∈ due m n T Tb) = keepsB n T Tb L := by
          unfold due
          cases hkb : keepsB n T Tb L with
          | true => exact decide_eq_true (List.mem_filter.mpr ⟨mem_rowsF.mpr ⟨hl, hv⟩, hkb⟩)
          | false => exact decide_eq_false (fun z => by have := (List.mem_filter.mp z).2; rw [hkb] at this; cases this)
        rw [emem]
        refine ⟨_, rfl, ite2 (fun e => ?_) (fun _ => ?_)⟩
        · exfalso
          simp at e
        have go : ∀ (H8 : Hp), Kp ast H7 H8 → u16 { nx := fun _ H' => Q .non H', rt := Q } [some (.ref as_), some (.ref ast), some (.ref po), some (.ref pt), some (.ref pa), some (.ref pb), some (nv n), some (nv m), some (.ref pd), y9, y10, some (.ref pdr), none, none, none] H8 := fun H8 k8 =>
          ru16 H8 ast po pt pa pb pd pdr n m T Tb L y9 y10 (s7.kp k8) sg sgb hn hm (k8.kt s7.st _ _ edr) hl hv
        have ldl : (ds.map V.ref).length = (due m n T Tb).length := TabL.len ed rd
        refine ⟨.ref pd, rfl, pd, _, rfl, .inl (SqL.of ed), _, 0, rfl, rfl, _, rfl, ite2 (fun e => ?_) (fun _ => go H7 (Kp.refl s7.st))⟩
        have hpos : 1 ≤ (due m n T Tb).length := by
          have := of_decide_eq_true e
          rw [ldl] at this
          omega
        refine ⟨.ref pa, rfl, .ref pb, rfl, .ref pd, rfl, .ref ast, rfl, .ref pd, rfl, pd, _, rfl, .inl (SqL.of ed), ast, (due m n T Tb).length, by rw [ldl]; rfl, hpos, by omega, s7.st, fun r S4 T4 hr4 hS4 => ?_⟩
        have k8 := (Kp.refl s7.st).upd_st (T := T4) hS4
        have s8 := s7.kp k8
        obtain ⟨ds8, ed8, rd8⟩ := id s8.d
        obtain ⟨qr, eqr, hqr⟩ := rd8.get (i := r) (r := (due m n T Tb).getD r []) (getD_get hr4)
        have hin : (due m n T Tb).getD r [] ∈ due m n T Tb := List.mem_of_getElem? (getD_get hr4)
        have hin2 := List.mem_filter.mp hin
        have hk := mem_rowsF.mp hin2.1
        refine ⟨pd, _, (r : Int), .ref qr, rfl, rfl, SqL.of ed8, atI_nat (by rw [List.getElem?_map, eqr]; rfl), ?_⟩
        refine ⟨pa, pb, n, m, T, Tb, .ref qr, rfl, by omega, by omega, sg, sgb, s8.a, s8.b, .inl ⟨qr, _, rfl, hqr, hk.1, hk.2, ?_⟩⟩
        rw [hin2.2]
        refine ⟨true, true, rfl, rfl, _, rfl, ite2 (fun e => absurd e (by decide)) (fun _ => go _ k8)⟩
    obtain ⟨u9, hu9, ru9⟩ : ∃ u, PSs (cxOf CX0 P w K mg base nLaw "law" (defScope sLaw) f cdv A outer s H E).nox ((defBody sLaw).drop 9) u ∧
        ∀ (H5 : Hp) (ast po pt pa pb pd : Addr) (n m : Nat) (T Tb : List (List Nat)), St9 C ast po pt pa pb pd n m T Tb H5 → Sg n T → Sg m Tb → n ≤ 5 → m ≤ 4 →
          u { nx := fun _ H' => Q .non H', rt := Q } [some (.ref as_), some (.ref ast), some (.ref po), some (.ref pt), some (.ref pa), some (.ref pb), some (nv n), some (nv m), some (.ref pd), none, none, none, none, none, none] H5 := by
      refine ⟨_, (pss_cons (ps_set (i := 9) scLaw.nd rfl (.inl rfl) (pe_call GHM hr (by rfl) gHM kHM bHM .nil pass0 (pa_cons (pv 4) (pa_cons (pv 5) pa_nil))))
  (pss_cons (ps_if (PW.pt (pw_or (pt_cmpR (oNeD K (hu64 hr)) (pv 9) (pe_callTy (cTup K) (by rfl) m_tuple PyProof.Rows.boot_tuple (pa_cons (pe_callB (cSorted (hu64 hr)) (by rfl) m_sorted PyProof.Rows.boot_sorted (pa_cons (pv 8) pa_nil)) pa_nil)) (nomark _)) (pw_or1 (pt_cmpR op_ne (pe_call GCT hr (by rfl) gCT kCT bCT .nil pass0 (pa_cons (pv 4) (pa_cons (pv 5) pa_nil))) (pe_callB (cLen K) (by rfl) m_len PySem.boot_len (pa_cons (pv 8) pa_nil)) (nomark _)))))
  (pss_one (ps_ret pe_bl))
  pss_nil)
  (pss_cons (ps_setLc (i := 10) (own := [("_law_images", 13)]) (g := gName 13) rfl scLaw.nd rfl rfl (sw_true rfl rfl rfl (by decide +kernel)) (piL K (pe_callB (cSorted (hu64 hr)) (by rfl) m_sorted PyProof.Rows.boot_sorted (pa_cons (pv 8) pa_nil))) (blkOk_by (N := nLaw) (sc := defScope sLaw) (by decide +kernel)) (fun _ _ _ _ _ => pg_name (i := 13) scLaw.nd rfl (by first | exact .inl rfl | exact .inr rfl)) (fun _ _ _ _ _ => pts_one (pt_cmpR op_eq (pe_callB (cLen K) (by rfl) m_len PySem.boot_len (pa_cons (pe_lc (own := [("_law_x", 14)]) (g := gName 14) rfl scLaw.nd (pi_range1 (by rfl) m_range (pa_cons (pv 6) pa_nil)) (blkOk_by (N := nLaw) (sc := relS (lcS (stE ((defBody sLaw).getD 11 (.Pass ⟨0, 0, 0, 0⟩)))) (defScope sLaw)) (by decide +kernel)) (fun _ _ _ _ _ => pg_name (i := 14) scLaw.nd rfl (by first | exact .inl rfl | exact .inr rfl)) (fun _ _ _ _ _ => pts_one (pt_cmpR (oInS K) (pe_ix (ixT K) (pv 13) (pv 14) (fun _ _ => rfl)) (pe_slice (slT K) (pv 13) po_none (po_some (pv 14))) rfl)) (fun _ _ _ _ _ => (pv 14))) pa_nil)) pe_int (nomark _))) (fun _ _ _ _ _ => (pv 13)))
  (pss_cons (ps_if (pt_cmpR (oNeD K (hu64 hr)) (pe_call GOO hr (by rfl) gOO kOO bOO .nil pass0 (pa_cons (pv 4) (pa_cons (pv 5) pa_nil))) (pe_callTy (cTup K) (by rfl) m_tuple PyProof.Rows.boot_tuple (pa_cons (pv 10) pa_nil)) (nomark _))
  (pss_one (ps_ret pe_bl))
  pss_nil)
  hu13)))), ?_⟩
      intro H5 ast po pt pa pb pd n m T Tb s9 sg sgb hn hm
      have hn0 := sg.pos
      have hdl : (due m n T Tb).length ≤ 1024 := due_len hm hn
      have hdr : ∀ r ∈ due m n T Tb, r.length = n := fun r hr => (mem_rowsF.mp (List.mem_filter.mp hr).1).1
      refine ⟨.ref pa, rfl, .ref pb, rfl, pa, pb, n, m, T, Tb, rfl, hn, hm, sg, sgb, s9.a, s9.b, fun pto H6 npto sm6 tto => ?_⟩
      have s6 := s9.same sm6
      obtain ⟨ds, ed, rd⟩ := id s6.d
      refine ⟨.ref pto, rfl, .ref pd, rfl, pd, ds, due m n T Tb, n, rfl, ed, rd, hn0, hdr, due_sorted, Nat.le_trans hdl (by decide), fun p7 np7 => ?_⟩
      have sm7 := sNew (o := .lst (ds.map V.ref)) (Same.refl H6) np7
      refine ⟨p7, _, rfl, .inl ⟨SqL.of upd_same, fun p8 np8 => ?_⟩⟩
      have sm8 := sNew (o := .tup (ds.map V.ref)) sm7 (sFree sm7 np8)
      have rd8 := rd.mono (sKt sm8)
      obtain ⟨dto, eto, rto⟩ := id tto
      have rto8 := rto.mono (sKt sm8)
      have dp1 : Dp K _ (.ref pto) (.tuple ((res m n T Tb false).map pt_)) := .tup (SqT.of (sm8 _ _ eto)) (dp_rows rto8)
      have dp2 : Dp K _ (.ref p8) (.tuple ((due m n T Tb).map pt_)) := .tup (SqT.of upd_same) (dp_rows rd8)
      refine ⟨_, _, dp1, dp2, (shaped_pts _).2, (shaped_pts _).2, ?_⟩
      have eqd : (!PyData.eqv (.tuple ((res m n T Tb false).map pt_)) (.tuple ((due m n T Tb).map pt_))) = false := by
        have h : PyData.eqv (.tuple ((res m n T Tb false).map pt_)) (.tuple ((due m n T Tb).map pt_)) = PyData.eqvAll ((res m n T Tb false).map pt_) ((due m n T Tb).map pt_) := rfl
        rw [h, eqvAll_pts, decide_eq_true (show res m n T Tb false = due m n T Tb from rfl)]; rfl
      rw [eqd]
      refine ⟨false, rfl, ite2 (fun e => absurd e (by decide)) (fun _ => ?_)⟩
      have s8 := s6.same sm8
      refine ⟨.ref pa, rfl, .ref pb, rfl, pa, pb, n, m, T, Tb, rfl, hn, hm, sg, sgb, s8.a, s8.b, fun H9 sm9 => ?_⟩
      have s9_ := s8.same sm9
      obtain ⟨ds9, ed9, rd9⟩ := id s9_.d
      refine ⟨.ref pd, rfl, pd, _, rfl, .inl (SqL.of ed9), rfl, _, rfl, ite2 (fun e => ?_) (fun _ => ?_)⟩
      · exfalso
        rw [TabL.len ed9 rd9] at e
        simp at e
      refine ⟨.ref pd, rfl, pd, ds9, due m n T Tb, n, rfl, ed9, rd9, hn0, hdr, due_sorted, Nat.le_trans hdl (by decide), fun p10 np10 => ?_⟩
      have sm10 := sNew (o := .lst (ds9.map V.ref)) (Same.refl H9) np10
      have s10 := s9_.same sm10
      have rd10 := rd9.mono (sKt sm10)
      refine ⟨p10, rfl, ⟨_, SqL.of upd_same⟩, fun D nD => ?_⟩
      obtain ⟨H10, hH10⟩ : ∃ H10, H10 = upd H9 p10 (.lst (ds9.map V.ref)) := ⟨_, rfl⟩
      have e10 : H10 p10 = some (.lst (ds9.map V.ref)) := by rw [hH10]; exact upd_same
      rw [← hH10] at nD s10 rd10 sm10 ⊢
      refine lc_list (xs := ds9.map V.ref) (fun i H11 => Same H10 H11 ∧ ∃ ps : List Addr, H11 D = some (.lst (ps.map V.ref)) ∧ Rows H11 ps (((due m n T Tb).take i).filter (nodB n))) ⟨sNew (Same.refl H10) nD, [], upd_same, Rows.nil⟩ (fun i H11 _ h => SqL.of (h.1 _ _ e10)) (fun i x H11 hx h => ?_) (fun H11 h => ?_)
      · obtain ⟨sm11, ps, eD, rD⟩ := h
        obtain ⟨qf, eqf, rfl⟩ := refs_at hx
        obtain ⟨L, eL, hL⟩ := rd10.to eqf
        have hLm := List.mem_filter.mp (List.mem_of_getElem? eL)
        have hk := mem_rowsF.mp hLm.1
        have etk : (due m n T Tb).take (i + 1) = (due m n T Tb).take i ++ [L] := by rw [List.take_add_one, eL]; rfl
        refine ⟨rfl, nv n, rfl, (n : Int), rfl, by omega, by omega, fun D2 nD2 => ?_⟩
        refine lc_rg (n := n) (fun j H12 => Same H11 H12 ∧ H12 D2 = some (.lst ((((List.range n).take j).filter fun x => decide (L.getD x 0 ∈ L.take x)).map nv))) ⟨sNew (Same.refl H11) nD2, upd_same⟩ (fun j H12 hj h => ?_) (fun H12 h => ?_)
        · obtain ⟨sm12, eD2⟩ := h
          have hL12 := sm12 _ _ (sm11 _ _ hL)
          obtain ⟨gj, _⟩ := row_get hk.1 hk.2 hj
          have etj : (List.range n).take (j + 1) = (List.range n).take j ++ [j] := by rw [List.take_add_one, List.getElem?_range hj]; rfl
          have hlen2 : (L.map nv).length = n := by rw [nv_len, hk.1]
          refine ⟨rfl, .ref qf, rfl, nv j, rfl, qf, _, (j : Int), _, rfl, rfl, SqT.of hL12, atI_nat gj, .ref qf, rfl, nv j, rfl, (j : Int), rfl, qf, _, rfl, SqT.of hL12, fun hw => ?_, fun _ z nz => ?_⟩
          · exfalso
            have h2 := hw.2
            rw [HT.sIx_nat, hlen2] at h2
            omega
          · have ez : cutV (L.map nv) none (some (j : Int)) = (L.take j).map nv := by rw [cut_take, List.map_take]
            rw [ez]
            have sm13 := sNew (o := .tup ((L.take j).map nv)) sm12 (sFree sm12 nz)
            have eD3 : (upd H12 z (.tup ((L.take j).map nv))) D2 = some (.lst ((((List.range n).take j).filter fun x => decide (L.getD x 0 ∈ L.take x)).map nv)) := by rw [upd_ne (ne_of_none eD2 nz)]; exact eD2
            refine ⟨z, _, rfl, .inr (SqT.of upd_same), rfl, flat_nv _, _, rfl, ?_⟩
            have einv : (if false = true then !inV (nv (L.getD j 0)) ((L.take j).map nv) else inV (nv (L.getD j 0)) ((L.take j).map nv)) = decide (L.getD j 0 ∈ L.take j) := inV_nv _ _
            refine ite2 (fun e => ?_) (fun e => ?_)
            · have e' : decide (L.getD j 0 ∈ L.take j) = true := einv.symm.trans e
              refine ⟨nv j, rfl, _, eD3, ?_, sNew sm13 nD2, ?_⟩
              · rw [nv_len]
                exact small1000 (Nat.le_trans (List.length_filter_le _ _) (by rw [List.length_take, List.length_range]; omega))
              · rw [upd_same, etj, List.filter_append, List.filter_cons_of_pos (by exact e'), List.map_append]; rfl
            · have e' : ¬ decide (L.getD j 0 ∈ L.take j) = true := fun z => e (einv.trans z)
              refine ⟨sm13, ?_⟩
              rw [etj, List.filter_append, List.filter_cons_of_neg (by exact e')]
              show _ = some (HO.lst ((_ ++ []).map nv))
              rw [List.append_nil]; exact eD3
        · obtain ⟨sm12, eD2⟩ := h
          rw [take_all List.length_range] at eD2
          have eD2' : H12 D2 = some (.lst ((apart n L).map nv)) := eD2
          refine ⟨D2, _, rfl, .inl (SqL.of eD2'), rfl, _, rfl, ?_⟩
          have enb : decide (V.int (((apart n L).map nv).length : Int) = V.int 0) = nodB n L := by
            rw [nv_len]
            unfold nodB
            by_cases hz : (apart n L).length = 0
            · rw [decide_eq_true hz]; exact decide_eq_true (by rw [hz]; rfl)
            · rw [decide_eq_false hz]; exact decide_eq_false (fun z => hz (by have := V.int.inj z; omega))
          have sm1112 := sm11.trans sm12
          have eD12 := sm12 _ _ eD
          have rD12 := rD.mono (sKt sm12)
          refine ite2 (fun e => ?_) (fun e => ?_)
          · have e' : nodB n L = true := enb.symm.trans e
            refine ⟨.ref qf, rfl, _, eD12, ?_, sNew sm1112 nD, ps ++ [qf], by rw [upd_same, List.map_append]; rfl, ?_⟩
            · rw [List.length_map, rD.len]
              refine small2000 (Nat.le_trans (List.length_filter_le _ _) ?_)
              rw [List.length_take]; omega
            · rw [etk, List.filter_append, List.filter_cons_of_pos e']
              exact (rD12.snoc (sm1112 _ _ hL)).mono (KT.lst eD12)
          · have e' : ¬ nodB n L = true := fun z => e (enb.trans z)
            refine ⟨sm1112, ps, eD12, ?_⟩
            rw [etk, List.filter_append, List.filter_cons_of_neg e']
            show Rows H12 ps (_ ++ [])
            rw [List.append_nil]; exact rD12
      · obtain ⟨sm11, ps, eD, rD⟩ := h
        have ela : (ds9.map V.ref).length = (due m n T Tb).length := by rw [TabL.len ed9 rd9]
        rw [take_all ela.symm] at rD
        have s11 := s10.same sm11
        refine ⟨.ref pa, rfl, .ref pb, rfl, pa, pb, n, m, T, Tb, rfl, hn, hm, sg, sgb, s11.a, s11.b, fun po1 H12 npo1 sm12 to1 => ?_⟩
        have s12 := s11.same sm12
        have eD12 := sm12 _ _ eD
        have rD12 := rD.mono (sKt sm12)
        refine ⟨.ref D, rfl, D, _, rfl, .inl ⟨SqL.of eD12, fun p13 np13 => ?_⟩⟩
        have sm13 := sNew (o := .tup (ps.map V.ref)) (Same.refl H12) np13
        obtain ⟨dto1, eto1, rto1⟩ := id to1
        have dp1 : Dp K _ (.ref po1) (.tuple ((res m n T Tb true).map pt_)) := .tup (SqT.of (sm13 _ _ eto1)) (dp_rows (rto1.mono (sKt sm13)))
        have dp2 : Dp K _ (.ref p13) (.tuple (((due m n T Tb).filter (nodB n)).map pt_)) := .tup (SqT.of upd_same) (dp_rows (rD12.mono (sKt sm13)))
        refine ⟨_, _, dp1, dp2, (shaped_pts _).2, (shaped_pts _).2, ?_⟩
        have eqd : (!PyData.eqv (.tuple ((res m n T Tb true).map pt_)) (.tuple (((due m n T Tb).filter (nodB n)).map pt_))) = false := by
          have h : PyData.eqv (.tuple ((res m n T Tb true).map pt_)) (.tuple (((due m n T Tb).filter (nodB n)).map pt_)) = PyData.eqvAll ((res m n T Tb true).map pt_) (((due m n T Tb).filter (nodB n)).map pt_) := rfl
          rw [h, eqvAll_pts, decide_eq_true (show res m n T Tb true = (due m n T Tb).filter (nodB n) from rfl)]; rfl
        rw [eqd]
        refine ⟨false, rfl, ite2 (fun e => absurd e (by decide)) (fun _ => ?_)⟩
        exact ru13 _ ast po pt pa pb pd n m T Tb _ _ (s12.same sm13) sg sgb hn hm
    obtain ⟨u4, hu4, ru4⟩ : ∃ u, PSs (cxOf CX0 P w K mg base nLaw "law" (defScope sLaw) f cdv A outer s H E).nox ((defBody sLaw).drop 4) u ∧
        ∀ (H5 : Hp) (ast po pt : Addr) (n m : Nat) (T Tb : List (List Nat)), LawSt H5 ast → TabL H5 po T → TabL H5 pt Tb → Sg n T → Sg m Tb → n ≤ 5 → m ≤ 4 →
          u { nx := fun _ H' => Q .non H', rt := Q } [some (.ref as_), some (.ref ast), some (.ref po), some (.ref pt), none, none, none, none, none, none, none, none, none, none, none] H5 := by
      refine ⟨_, (pss_cons (ps_set (i := 4) scLaw.nd rfl (.inl rfl) (pe_make MC GI hr (by rfl) gC bI .nil pass0 (pa_cons (pv 2) pa_nil)))
  (pss_cons (ps_set (i := 5) scLaw.nd rfl (.inl rfl) (pe_make MC GI hr (by rfl) gC bI .nil pass0 (pa_cons (pv 3) pa_nil)))
  (pss_cons (ps_set (i := 6) scLaw.nd rfl (.inr rfl) (pe_callB (cLen K) (by rfl) m_len PySem.boot_len (pa_cons (pv 2) pa_nil)))
  (pss_cons (ps_set (i := 7) scLaw.nd rfl (.inr rfl) (pe_callB (cLen K) (by rfl) m_len PySem.boot_len (pa_cons (pv 3) pa_nil)))
  (pss_cons (ps_setLc (i := 8) (own := [("_law_images", 13)]) (g := gName 13) rfl scLaw.nd rfl rfl (sw_true rfl rfl rfl (by decide +kernel)) (piL K (pe_call GRW hr (by rfl) gRW kRW bRW .nil pass0 (pa_cons (pv 7) (pa_cons (pv 6) pa_nil)))) (blkOk_by (N := nLaw) (sc := defScope sLaw) (by decide +kernel)) (fun _ _ _ _ _ => pg_name (i := 13) scLaw.nd rfl (by first | exact .inl rfl | exact .inr rfl)) (fun _ _ _ _ _ => pts_one (pt_val (pe_call GKP hr (by rfl) gKP kKP bKP .nil pass0 (pa_cons (pv 2) (pa_cons (pv 3) (pa_cons (pv 13) pa_nil)))))) (fun _ _ _ _ _ => (pv 13)))
  hu9))))), ?_⟩
      intro H5 ast po pt n m T Tb st tO tT sg sgb hn hm
      have mkS : ∀ {H0 H' : Hp} {x dx : Addr}, H0 x = none → H0 dx = none → dx ≠ x → (∀ b o, b ≠ x → (upd (upd H0 dx (.own x)) x (.ins C dx [])) b = some o → H' b = some o) → Same H0 H' := fun {H0 H' x dx} nx ndx nex kp b o e => by
        have h1 := ne_of_none e nx
        have h2 := ne_of_none e ndx
        exact kp b o h1 (by rw [upd_ne h1, upd_ne h2]; exact e)
      refine ⟨.ref po, rfl, fun x dx nx ndx nex => ?_⟩
      have nx2 : (upd H5 dx (.own x)) x = none := by rw [upd_ne nex.symm]; exact nx
      refine ⟨x, po, dx, n, T, rfl, upd_same, by omega, (tO.beside ndx).beside nx2, sg, fun H6 kp6 sa => ⟨rfl, ?_⟩⟩
      have sm6 := mkS nx ndx nex kp6
      refine ⟨.ref pt, rfl, fun x2 dx2 nx3 ndx3 nex3 => ?_⟩
      have nx4 : (upd H6 dx2 (.own x2)) x2 = none := by rw [upd_ne nex3.symm]; exact nx3
      refine ⟨x2, pt, dx2, m, Tb, rfl, upd_same, by omega, ((tT.same sm6).beside ndx3).beside nx4, sgb, fun H7 kp7 sb => ⟨rfl, ?_⟩⟩
      have sm7 := mkS nx3 ndx3 nex3 kp7
      have sm57 := sm6.trans sm7
      have tO7 := tO.same sm57
      have tT7 := tT.same sm57
      obtain ⟨qs, eO, rO⟩ := id tO7
      have lO : (qs.map V.ref).length = n := by rw [TabL.len eO rO, sg.len]
      obtain ⟨qs2, eT, rT⟩ := id tT7
      have lT : (qs2.map V.ref).length = m := by rw [TabL.len eT rT, sgb.len]
      refine ⟨.ref po, rfl, po, _, rfl, .inl (SqL.of eO), ?_⟩
      refine ⟨.ref pt, rfl, pt, _, rfl, .inl (SqL.of eT), ?_⟩
      rw [lO, lT]
      refine ⟨nv m, rfl, nv n, rfl, m, n, rfl, sgb.pos, hm, hn, fun pr H8 npr sm8 tR => ?_⟩
      have sm58 := sm57.trans sm8
      have tO8 := tO7.same sm8
      have tT8 := tT7.same sm8
      obtain ⟨rs, eR, rR⟩ := id tR
      refine ⟨pr, rfl, ⟨_, SqL.of eR⟩, fun D nD => ?_⟩
      refine lc_list (xs := rs.map V.ref) (fun i H9 => Same H8 H9 ∧ ∃ ps : List Addr, H9 D = some (.lst (ps.map V.ref)) ∧ Rows H9 ps (((rowsF m n).take i).filter (keepsB n T Tb))) ⟨sNew (Same.refl H8) nD, [], upd_same, Rows.nil⟩ (fun i H9 _ h => SqL.of (h.1 _ _ eR)) (fun i x H9 hx h => ?_) (fun H9 h => ?_)
      · obtain ⟨sm9, ps, eD, rD⟩ := h
        obtain ⟨qf, eqf, rfl⟩ := refs_at hx
        obtain ⟨L, eL, hL⟩ := rR.to eqf
        have hk := mem_rowsF.mp (List.mem_of_getElem? eL)
        have etk : (rowsF m n).take (i + 1) = (rowsF m n).take i ++ [L] := by rw [List.take_add_one, eL]; rfl
        refine ⟨rfl, .ref po, rfl, .ref pt, rfl, .ref qf, rfl, po, pt, qf, n, m, T, Tb, L, rfl, hn, by omega, sg, sgb, tO8.same sm9, tT8.same sm9, sm9 _ _ hL, hk.1, hk.2, keepsB n T Tb L, rfl, ite2 (fun e => ?_) (fun e => ?_)⟩
        · refine ⟨.ref qf, rfl, _, eD, ?_, sNew sm9 nD, ps ++ [qf], by rw [upd_same, List.map_append]; rfl, ?_⟩
          · rw [List.length_map, rD.len]
            refine small2000 (Nat.le_trans (List.length_filter_le _ _) ?_)
            rw [List.length_take, rowsF_len]
            have h1 : m ^ n ≤ 4 ^ n := Nat.pow_le_pow_left hm n
            have h2 : 4 ^ n ≤ 4 ^ 5 := Nat.pow_le_pow_right (by decide) hn
            have h3 : (4 : Nat) ^ 5 = 1024 := rfl
            omega
          · rw [etk, List.filter_append, List.filter_cons_of_pos e]
            exact (rD.snoc (sm9 _ _ hL)).mono (KT.lst eD)
        · refine ⟨sm9, ps, eD, ?_⟩
          rw [etk, List.filter_append, List.filter_cons_of_neg e]
          show Rows H9 ps (_ ++ [])
          rw [List.append_nil]; exact rD
      · obtain ⟨sm9, ps, eD, rD⟩ := h
        have ela : (rs.map V.ref).length = (rowsF m n).length := by rw [TabL.len eR rR]
        rw [take_all ela.symm] at rD
        have sm59 := sm58.trans sm9
        exact ru9 H9 ast po pt x x2 D n m T Tb ⟨(sKp sm59 st).st, tO8.same sm9, tT8.same sm9, (sa.same (sm7.trans sm8)).same sm9, (sb.same sm8).same sm9, ⟨ps, eD, rD⟩⟩ sg sgb hn hm
    refine ⟨_, (pss_cons (ps_set (i := 1) scLaw.nd rfl (.inr rfl) (pe_call GST hr (by rfl) gST kST bST .nil pass0 (pa_cons (pv 0) pa_nil)))
  (pss_cons (ps_set (i := 2) scLaw.nd rfl (.inr rfl) (pe_call GSG hr (by rfl) gSG kSG bSG .nil pass0 (pa_cons (pv 1) (pa_cons pe_int pa_nil))))
  (pss_cons (ps_set (i := 3) scLaw.nd rfl (.inr rfl) (pe_call GSG hr (by rfl) gSG kSG bSG .nil pass0 (pa_cons (pv 1) (pa_cons pe_int pa_nil))))
  (pss_cons (ps_if (PW.pt (pw_and (pt_cmpR op_eq (pe_call GT hr (by rfl) gT kT bT .nil pass0 (pa_cons (pv 1) (pa_cons pe_int pa_nil))) pe_int (nomark _)) (pw_and1 (pt_cmpR op_lt (pe_callB (cLen K) (by rfl) m_len PySem.boot_len (pa_cons (pv 2) pa_nil)) pe_int (nomark _)))))
  (pss_one (ps_set (i := 3) scLaw.nd rfl (.inr rfl) (pe_call GR hr (by rfl) gR kR bR .nil pass0 (pa_cons (pv 2) (pa_cons (pe_call GO hr (by rfl) gO kO bO .nil pass0 (pa_cons (pv 1) (pa_cons (pe_callB (cLen K) (by rfl) m_len PySem.boot_len (pa_cons (pv 2) pa_nil)) pa_nil))) pa_nil)))))
  pss_nil)
  hu4)))), ?_⟩
    refine ⟨.ref as_, rfl, as_, ns, rfl, hS, hlen, fun ast H1 S Z nst hS0 sm1 est => ?_⟩
    have st1 : LawSt H1 ast := ⟨S, Z, hS0, est⟩
    refine ⟨.ref ast, rfl, ast, 5, rfl, .inr rfl, st1, fun n T po H2 sg hn npo kp2 tO => ?_⟩
    refine ⟨.ref ast, rfl, ast, 4, rfl, .inl rfl, kp2.st, fun m Tb pt H3 sgb hm npt kp3 tT => ?_⟩
    have tO3 := tO.kp kp2.st kp3
    refine ⟨.ref ast, rfl, ast, 3, rfl, by decide, by decide, kp3.st, fun r S2 Z2 hr2 hS2 => ?_⟩
    have k4 := (Kp.refl kp3.st).upd_st (T := Z2) hS2
    have tO4 := tO3.kp kp3.st k4
    have tT4 := tT.kp kp3.st k4
    obtain ⟨qs, eO, rO⟩ := id tO4
    have lO : (qs.map V.ref).length = n := by rw [TabL.len eO rO, sg.len]
    refine ⟨rfl, _, rfl, ite2 (fun e => ?_) (fun e => ru4 _ ast po pt n m T Tb k4.st tO4 tT4 sg sgb hn hm)⟩
    refine ⟨.ref po, rfl, po, _, rfl, .inl (SqL.of eO), _, 5, rfl, rfl, _, rfl, ite2 (fun e2 => ?_) (fun e2 => ru4 _ ast po pt n m T Tb k4.st tO4 tT4 sg sgb hn hm)⟩
    have hn4 : n ≤ 4 := by
      have := of_decide_eq_true e2
      rw [lO] at this
      omega
    refine ⟨.ref po, rfl, .ref ast, rfl, .ref po, rfl, po, _, rfl, .inl (SqL.of eO), ast, n, by rw [lO]; rfl, by omega, k4.st, fun o po2 H5 od npo2 kp5 eo => ?_⟩
    have tO5 := tO4.kp k4.st kp5
    refine ⟨po, po2, n, T, o, rfl, by omega, sg, tO5, od, eo, fun p4 H6 R np4 sm6 tp4 ren => ?_⟩
    have k6 := sKp sm6 kp5.st
    exact ru4 H6 ast po p4 n n T R k6.st (tO5.kp kp5.st k6) tp4 sg (sg_ren sg od ren) hn hn4
end
end
end K35
set_option Elab.async false
set_option linter.all false
set_option maxRecDepth 100000
set_option maxHeartbeats 4000000
namespace K35
open PySem PySem.Spec PyProof.Rows L2
/-! ### what the top has written, and the law's own head -/
theorem all_mk {l : PySem.W.OpenLaw} {w : World} {K : PySem.W.Frag} {h : Heap} {mg : Str → Option Value} {fa C f1 f2 f3 f4 f5 f6 f7 f8 f9 f10 f11 f12 f13 f14 f15 f16 f17 f18 f19 f20 f21 f22 f23 f24 f25 f26 f27 f28 f29 f30 : Addr} (X : K.In h) (G : h.Ns mainGlobals mg) (hfa : mg "law" = some (.ref fa))
    {od1 od2 od3 od4 od5 od6 od7 od8 od9 od10 od11 od12 od13 od14 od15 od16 od17 od18 od19 od20 od21 od22 od23 od24 od25 od26 od27 od28 od29 od30 an1 an2 an3 an4 an5 an6 an7 an8 an9 an10 an11 an12 an13 an14 an15 an16 an17 an18 an19 an20 an21 an22 an23 an24 an25 an26 an27 an28 an29 an30 : Option Addr} {sl1 sl2 sl3 sl4 sl5 sl6 sl7 sl8 sl9 sl10 sl11 sl12 sl13 sl14 sl15 sl16 sl17 sl18 sl19 sl20 sl21 sl22 sl23 sl24 sl25 sl26 sl27 sl28 sl29 sl30 : Array (Option Value)} {oc1 oc2 oc3 oc4 oc5 oc6 oc7 oc8 oc9 oc10 oc11 oc12 oc13 oc14 oc15 oc16 oc17 oc18 oc19 oc20 oc21 oc22 oc23 oc24 oc25 oc26 oc27 oc28 oc29 oc30 kV1 kV2 kV3 kV4 kV5 kV6 kV7 kV8 kV9 kV10 kV11 kV12 kV13 kV14 kV15 kV16 kV17 kV18 kV19 kV20 kV21 kV22 kV23 kV24 kV25 kV26 kV27 kV28 kV29 kV30 dc1 dc2 dc3 dc4 dc5 dc6 dc7 dc8 dc9 dc10 dc11 dc12 dc13 dc14 dc15 dc16 dc17 dc18 dc19 dc20 dc21 dc22 dc23 dc24 dc25 dc26 dc27 dc28 dc29 dc30 pm1 pm2 pm3 pm4 pm5 pm6 pm7 pm8 pm9 pm10 pm11 pm12 pm13 pm14 pm15 pm16 pm17 pm18 pm19 pm20 pm21 pm22 pm23 pm24 pm25 pm26 pm27 pm28 pm29 pm30 cd1 cd2 cd3 cd4 cd5 cd6 cd7 cd8 cd9 cd10 cd11 cd12 cd13 cd14 cd15 cd16 cd17 cd18 cd19 cd20 cd21 cd22 cd23 cd24 cd25 cd26 cd27 cd28 cd29 cd30 ct1 ct2 ct3 ct4 ct5 ct6 ct7 ct8 ct9 ct10 ct11 ct12 ct13 ct14 ct15 ct16 ct17 ct18 ct19 ct20 ct21 ct22 ct23 ct24 ct25 ct26 ct27 ct28 ct29 ct30 : Value} {t24 t50 : Tok}
    (aC : PySem.W.nsIn K mainGlobals "Semigroup" = some (some (.ref C)))
    (a1 : PySem.W.nsIn K mainGlobals "is_integer" = some (some (.ref f1))) (l1 : K.lookup f1 = some ⟨oc1, od1, .func (PySem.W.fnOf "is_integer" "is_integer" (defArgs sInt) (defBody sInt) (defScope sInt) .none kV1 dc1 pm1 an1 cd1 ct1), sl1⟩) (c1 : PySem.W.codeIn K cd1 "is_integer" = true) (k1 : PySem.W.keepIn K (.ref f1) = true)
    (a2 : PySem.W.nsIn K mainGlobals "is_item" = some (some (.ref f2))) (l2 : K.lookup f2 = some ⟨oc2, od2, .func (PySem.W.fnOf "is_item" "is_item" (defArgs sItem) (defBody sItem) (defScope sItem) .none kV2 dc2 pm2 an2 cd2 ct2), sl2⟩) (c2 : PySem.W.codeIn K cd2 "is_item" = true) (k2 : PySem.W.keepIn K (.ref f2) = true)
    (a3 : PySem.W.nsIn K mainGlobals "taken_table" = some (some (.ref f3))) (l3 : K.lookup f3 = some ⟨oc3, od3, .func (PySem.W.fnOf "taken_table" "taken_table" (defArgs sTaken) (defBody sTaken) (defScope sTaken) .none kV3 dc3 pm3 an3 cd3 ct3), sl3⟩) (c3 : PySem.W.codeIn K cd3 "taken_table" = true) (k3 : PySem.W.keepIn K (.ref f3) = true)
    (a4 : PySem.W.nsIn K mainGlobals "is_associative" = some (some (.ref f4))) (l4 : K.lookup f4 = some ⟨oc4, od4, .func (PySem.W.fnOf "is_associative" "is_associative" (defArgs sAssoc) (defBody sAssoc) (defScope sAssoc) .none kV4 dc4 pm4 an4 cd4 ct4), sl4⟩) (c4 : PySem.W.codeIn K cd4 "is_associative" = true) (k4 : PySem.W.keepIn K (.ref f4) = true)
    (a5 : PySem.W.findIn K (.ref C) "__init__" = some (some (.ref f5))) (l5 : K.lookup f5 = some ⟨oc5, od5, .func (PySem.W.fnOf "__init__" "Semigroup.__init__" (defArgs sInit) (defBody sInit) (defScope sInit) .none kV5 dc5 pm5 an5 cd5 ct5), sl5⟩) (c5 : PySem.W.codeIn K cd5 "Semigroup.__init__" = true) (k5 : PySem.W.keepIn K (.ref f5) = true)
    (a6 : PySem.W.nsIn K mainGlobals "is_homomorphism" = some (some (.ref f6))) (l6 : K.lookup f6 = some ⟨oc6, od6, .func (PySem.W.fnOf "is_homomorphism" "is_homomorphism" (defArgs sIsHom) (defBody sIsHom) (defScope sIsHom) .none kV6 dc6 pm6 an6 cd6 ct6), sl6⟩) (c6 : PySem.W.codeIn K cd6 "is_homomorphism" = true) (k6 : PySem.W.keepIn K (.ref f6) = true)
    (a7 : PySem.W.nsIn K mainGlobals "closing" = some (some (.ref f7))) (l7 : K.lookup f7 = some ⟨oc7, od7, .func (PySem.W.fnOf "closing" "closing" (defArgs sClosing) (defBody sClosing) (defScope sClosing) .none kV7 dc7 pm7 an7 cd7 ct7), sl7⟩) (c7 : PySem.W.codeIn K cd7 "closing" = true) (k7 : PySem.W.keepIn K (.ref f7) = true)
    (a8 : PySem.W.nsIn K mainGlobals "close" = some (some (.ref f8))) (l8 : K.lookup f8 = some ⟨oc8, od8, .func (PySem.W.fnOf "close" "close" (defArgs sClose) (defBody sClose) (defScope sClose) .none kV8 dc8 pm8 an8 cd8 ct8), sl8⟩) (c8 : PySem.W.codeIn K cd8 "close" = true) (k8 : PySem.W.keepIn K (.ref f8) = true)
    (a9 : PySem.W.nsIn K mainGlobals "extended" = some (some (.ref f9))) (l9 : K.lookup f9 = some ⟨oc9, od9, .func (PySem.W.fnOf "extended" "extended" (defArgs sExt) (defBody sExt) (defScope sExt) .none kV9 dc9 pm9 an9 cd9 ct9), sl9⟩) (c9 : PySem.W.codeIn K cd9 "extended" = true) (k9 : PySem.W.keepIn K (.ref f9) = true)
    (a10 : PySem.W.nsIn K mainGlobals "walk" = some (some (.ref f10))) (l10 : K.lookup f10 = some ⟨oc10, od10, .func (PySem.W.fnOf "walk" "walk" (defArgs sWalk) (defBody sWalk) (defScope sWalk) .none kV10 dc10 pm10 an10 cd10 ct10), sl10⟩) (c10 : PySem.W.codeIn K cd10 "walk" = true) (k10 : PySem.W.keepIn K (.ref f10) = true)
    (a11 : PySem.W.nsIn K mainGlobals "gathered" = some (some (.ref f11))) (l11 : K.lookup f11 = some ⟨oc11, od11, .func (PySem.W.fnOf "gathered" "gathered" (defArgs sGath) (defBody sGath) (defScope sGath) .none kV11 dc11 pm11 an11 cd11 ct11), sl11⟩) (c11 : PySem.W.codeIn K cd11 "gathered" = true) (k11 : PySem.W.keepIn K (.ref f11) = true)
    (a12 : PySem.W.nsIn K mainGlobals "homomorphisms" = some (some (.ref f12))) (l12 : K.lookup f12 = some ⟨oc12, od12, .func (PySem.W.fnOf "homomorphisms" "homomorphisms" (defArgs sHoms) (defBody sHoms) (defScope sHoms) .none kV12 dc12 pm12 an12 cd12 ct12), sl12⟩) (c12 : PySem.W.codeIn K cd12 "homomorphisms" = true) (k12 : PySem.W.keepIn K (.ref f12) = true)
    (a13 : PySem.W.nsIn K mainGlobals "count_homomorphisms" = some (some (.ref f13))) (l13 : K.lookup f13 = some ⟨oc13, od13, .func (PySem.W.fnOf "count_homomorphisms" "count_homomorphisms" (defArgs sCount) (defBody sCount) (defScope sCount) .none kV13 dc13 pm13 an13 cd13 ct13), sl13⟩) (c13 : PySem.W.codeIn K cd13 "count_homomorphisms" = true) (k13 : PySem.W.keepIn K (.ref f13) = true)
    (a14 : PySem.W.nsIn K mainGlobals "one_to_one" = some (some (.ref f14))) (l14 : K.lookup f14 = some ⟨oc14, od14, .func (PySem.W.fnOf "one_to_one" "one_to_one" (defArgs sOnes) (defBody sOnes) (defScope sOnes) .none kV14 dc14 pm14 an14 cd14 ct14), sl14⟩) (c14 : PySem.W.codeIn K cd14 "one_to_one" = true) (k14 : PySem.W.keepIn K (.ref f14) = true)
    (a15 : PySem.W.nsIn K mainGlobals "_law_state" = some (some (.ref f15))) (l15 : K.lookup f15 = some ⟨oc15, od15, .func (PySem.W.fnOf "_law_state" "_law_state" (defArgs sState) (defBody sState) (defScope sState) .none kV15 dc15 pm15 an15 cd15 ct15), sl15⟩) (c15 : PySem.W.codeIn K cd15 "_law_state" = true) (k15 : PySem.W.keepIn K (.ref f15) = true)
    (a16 : PySem.W.nsIn K mainGlobals "_law_take" = some (some (.ref f16))) (l16 : K.lookup f16 = some ⟨oc16, od16, .func (PySem.W.fnOf "_law_take" "_law_take" (defArgs sTake) (defBody sTake) (defScope sTake) .none kV16 dc16 pm16 an16 cd16 ct16), sl16⟩) (c16 : PySem.W.codeIn K cd16 "_law_take" = true) (k16 : PySem.W.keepIn K (.ref f16) = true)
    (a17 : PySem.W.nsIn K mainGlobals "_law_order_of" = some (some (.ref f17))) (l17 : K.lookup f17 = some ⟨oc17, od17, .func (PySem.W.fnOf "_law_order_of" "_law_order_of" (defArgs sOrder) (defBody sOrder) (defScope sOrder) .none kV17 dc17 pm17 an17 cd17 ct17), sl17⟩) (c17 : PySem.W.codeIn K cd17 "_law_order_of" = true) (k17 : PySem.W.keepIn K (.ref f17) = true)
    (a18 : PySem.W.nsIn K mainGlobals "_law_renamed" = some (some (.ref f18))) (l18 : K.lookup f18 = some ⟨oc18, od18, .func (PySem.W.fnOf "_law_renamed" "_law_renamed" (defArgs sRen) (defBody sRen) (defScope sRen) .none kV18 dc18 pm18 an18 cd18 ct18), sl18⟩) (c18 : PySem.W.codeIn K cd18 "_law_renamed" = true) (k18 : PySem.W.keepIn K (.ref f18) = true)
    (a19 : PySem.W.nsIn K mainGlobals "_law_after" = some (some (.ref f19))) (l19 : K.lookup f19 = some ⟨oc19, od19, .func (PySem.W.fnOf "_law_after" "_law_after" (defArgs sAfter) (defBody sAfter) (defScope sAfter) .none kV19 dc19 pm19 an19 cd19 ct19), sl19⟩) (c19 : PySem.W.codeIn K cd19 "_law_after" = true) (k19 : PySem.W.keepIn K (.ref f19) = true)
    (a20 : PySem.W.nsIn K mainGlobals "_law_closed" = some (some (.ref f20))) (l20 : K.lookup f20 = some ⟨oc20, od20, .func (PySem.W.fnOf "_law_closed" "_law_closed" (defArgs sClosed) (defBody sClosed) (defScope sClosed) .none kV20 dc20 pm20 an20 cd20 ct20), sl20⟩) (c20 : PySem.W.codeIn K cd20 "_law_closed" = true) (k20 : PySem.W.keepIn K (.ref f20) = true)
    (a21 : PySem.W.nsIn K mainGlobals "_law_of_maps" = some (some (.ref f21))) (l21 : K.lookup f21 = some ⟨oc21, od21, .func (PySem.W.fnOf "_law_of_maps" "_law_of_maps" (defArgs sOfMaps) (defBody sOfMaps) (defScope sOfMaps) .none kV21 dc21 pm21 an21 cd21 ct21), sl21⟩) (c21 : PySem.W.codeIn K cd21 "_law_of_maps" = true) (k21 : PySem.W.keepIn K (.ref f21) = true)
    (a22 : PySem.W.nsIn K mainGlobals "_law_monogenic" = some (some (.ref f22))) (l22 : K.lookup f22 = some ⟨oc22, od22, .func (PySem.W.fnOf "_law_monogenic" "_law_monogenic" (defArgs sMono) (defBody sMono) (defScope sMono) .none kV22 dc22 pm22 an22 cd22 ct22), sl22⟩) (c22 : PySem.W.codeIn K cd22 "_law_monogenic" = true) (k22 : PySem.W.keepIn K (.ref f22) = true)
    (a23 : PySem.W.nsIn K mainGlobals "_law_triples" = some (some (.ref f23))) (l23 : K.lookup f23 = some ⟨oc23, od23, .func (PySem.W.fnOf "_law_triples" "_law_triples" (defArgs sTrip) (defBody sTrip) (defScope sTrip) .none kV23 dc23 pm23 an23 cd23 ct23), sl23⟩) (c23 : PySem.W.codeIn K cd23 "_law_triples" = true) (k23 : PySem.W.keepIn K (.ref f23) = true)
    (a24 : PySem.W.nsIn K mainGlobals "_law_blocks" = some (some (.ref f24))) (l24 : K.lookup f24 = some ⟨oc24, od24, .func (PySem.W.fnOf "_law_blocks" "_law_blocks" (defArgs sBlocks) (defBody sBlocks) (defScope sBlocks) .none kV24 dc24 pm24 an24 cd24 ct24), sl24⟩) (c24 : PySem.W.codeIn K cd24 "_law_blocks" = true) (k24 : PySem.W.keepIn K (.ref f24) = true)
    (a25 : PySem.W.nsIn K mainGlobals "_law_plain" = some (some (.ref f25))) (l25 : K.lookup f25 = some ⟨oc25, od25, .func (PySem.W.fnOf "_law_plain" "_law_plain" (defArgs sPlain) (defBody sPlain) (defScope sPlain) .none kV25 dc25 pm25 an25 cd25 ct25), sl25⟩) (c25 : PySem.W.codeIn K cd25 "_law_plain" = true) (k25 : PySem.W.keepIn K (.ref f25) = true)
    (a26 : PySem.W.nsIn K mainGlobals "_law_extended" = some (some (.ref f26))) (l26 : K.lookup f26 = some ⟨oc26, od26, .func (PySem.W.fnOf "_law_extended" "_law_extended" (defArgs sExtd) (defBody sExtd) (defScope sExtd) .none kV26 dc26 pm26 an26 cd26 ct26), sl26⟩) (c26 : PySem.W.codeIn K cd26 "_law_extended" = true) (k26 : PySem.W.keepIn K (.ref f26) = true)
    (a27 : PySem.W.nsIn K mainGlobals "_law_semigroup" = some (some (.ref f27))) (l27 : K.lookup f27 = some ⟨oc27, od27, .func (PySem.W.fnOf "_law_semigroup" "_law_semigroup" (defArgs sSemi) (defBody sSemi) (defScope sSemi) .none kV27 dc27 pm27 an27 cd27 ct27), sl27⟩) (c27 : PySem.W.codeIn K cd27 "_law_semigroup" = true) (k27 : PySem.W.keepIn K (.ref f27) = true)
    (a28 : PySem.W.nsIn K mainGlobals "_law_rows_of" = some (some (.ref f28))) (l28 : K.lookup f28 = some ⟨oc28, od28, .func (PySem.W.fnOf "_law_rows_of" "_law_rows_of" (defArgs sRows) (defBody sRows) (defScope sRows) .none kV28 dc28 pm28 an28 cd28 ct28), sl28⟩) (c28 : PySem.W.codeIn K cd28 "_law_rows_of" = true) (k28 : PySem.W.keepIn K (.ref f28) = true)
    (a29 : PySem.W.nsIn K mainGlobals "_law_keeps" = some (some (.ref f29))) (l29 : K.lookup f29 = some ⟨oc29, od29, .func (PySem.W.fnOf "_law_keeps" "_law_keeps" (defArgs sKeeps) (defBody sKeeps) (defScope sKeeps) .none kV29 dc29 pm29 an29 cd29 ct29), sl29⟩) (c29 : PySem.W.codeIn K cd29 "_law_keeps" = true) (k29 : PySem.W.keepIn K (.ref f29) = true)
    (a30 : PySem.W.nsIn K mainGlobals "law" = some (some (.ref f30))) (l30 : K.lookup f30 = some ⟨oc30, od30, .func (PySem.W.fnOf "law" "law" (defArgs sLaw) (defBody sLaw) (defScope sLaw) .none kV30 dc30 pm30 an30 cd30 ct30), sl30⟩) (c30 : PySem.W.codeIn K cd30 "law" = true) (k30 : PySem.W.keepIn K (.ref f30) = true)
    (i5 : PySem.W.isFn K (.ref f5) = true) (pg : PySem.W.plainGet K C Str.empty = true) (hd : PySem.W.hasDictIn K C = true) (po : PySem.W.plainOver K C = true) (sa : PySem.W.findIn K (.ref C) "__setattr__" = some (some (.builtin "object.__setattr__"))) (mk : PySem.W.makesIn K C = true) (kc : PySem.W.keepIn K (.ref C) = true)
    (nN : PySem.W.findIn K (.ref C) "n" = some none) (nT : PySem.W.findIn K (.ref C) "table" = some none) (m24 : PySem.W.nsIn K mainGlobals "MOST_semigroup" = some (some (.int 24 t24))) (m50 : PySem.W.nsIn K mainGlobals "MOST_homs" = some (some (.int 50000 t50)))
    (z_range : PySem.W.nsIn K mainGlobals "range" = some none) (z_int : PySem.W.nsIn K mainGlobals "int" = some none) (z_abs : PySem.W.nsIn K mainGlobals "abs" = some none) (z_len : PySem.W.nsIn K mainGlobals "len" = some none) (z_list : PySem.W.nsIn K mainGlobals "list" = some none) (z_tuple : PySem.W.nsIn K mainGlobals "tuple" = some none) (z_min : PySem.W.nsIn K mainGlobals "min" = some none) (z_sorted : PySem.W.nsIn K mainGlobals "sorted" = some none) (z_set : PySem.W.nsIn K mainGlobals "set" = some none) (z_isinstance : PySem.W.nsIn K mainGlobals "isinstance" = some none) (z_bool : PySem.W.nsIn K mainGlobals "bool" = some none) :
    ∃ fd : FuncData, (∀ (s : Shared) (v : Value), BindsTo s fd ⟨[v], []⟩ [("_law_script", v)]) ∧ ∀ base : Heap, K.In base → base.Ns mainGlobals mg → FnOk l.prog w K mg base CX0 12 fa fd ["_law_script"] (spLaw K) := by
  have e := hfa.symm.trans (PySem.W.mg_of X G a30)
  cases e
  have m_range : mg "range" = none := PySem.W.mg_none_of X G z_range
  have m_int : mg "int" = none := PySem.W.mg_none_of X G z_int
  have m_abs : mg "abs" = none := PySem.W.mg_none_of X G z_abs
  have m_len : mg "len" = none := PySem.W.mg_none_of X G z_len
  have m_list : mg "list" = none := PySem.W.mg_none_of X G z_list
  have m_tuple : mg "tuple" = none := PySem.W.mg_none_of X G z_tuple
  have m_min : mg "min" = none := PySem.W.mg_none_of X G z_min
  have m_sorted : mg "sorted" = none := PySem.W.mg_none_of X G z_sorted
  have m_set : mg "set" = none := PySem.W.mg_none_of X G z_set
  have m_isinstance : mg "isinstance" = none := PySem.W.mg_none_of X G z_isinstance
  have m_bool : mg "bool" = none := PySem.W.mg_none_of X G z_bool
  have gC : mg "Semigroup" = some (.ref C) := PySem.W.mg_of X G aC
  have T : Txt K C := ⟨⟨pg, hd, po, sa⟩, nN, nT⟩
  have F1 := fun_mk (st := sInt) l1 c1 k1
  have b1 := F1.binds (ps := ["value"]) fun _ _ _ _ _ _ us hl => match us, hl with | [_], _ => rfl
  have g1 : mg "is_integer" = some (.ref f1) := PySem.W.mg_of X G a1
  have F2 := fun_mk (st := sItem) l2 c2 k2
  have b2 := F2.binds (ps := ["value", "n"]) fun _ _ _ _ _ _ us hl => match us, hl with | [_, _], _ => rfl
  have g2 : mg "is_item" = some (.ref f2) := PySem.W.mg_of X G a2
  have F3 := fun_mk (st := sTaken) l3 c3 k3
  have b3 := F3.binds (ps := ["table"]) fun _ _ _ _ _ _ us hl => match us, hl with | [_], _ => rfl
  have g3 : mg "taken_table" = some (.ref f3) := PySem.W.mg_of X G a3
  have F4 := fun_mk (st := sAssoc) l4 c4 k4
  have b4 := F4.binds (ps := ["table"]) fun _ _ _ _ _ _ us hl => match us, hl with | [_], _ => rfl
  have g4 : mg "is_associative" = some (.ref f4) := PySem.W.mg_of X G a4
  have F5 := fun_mk (st := sInit) l5 c5 k5
  have b5 := F5.binds (ps := ["self", "table"]) fun _ _ _ _ _ _ us hl => match us, hl with | [_, _], _ => rfl
  have F6 := fun_mk (st := sIsHom) l6 c6 k6
  have b6 := F6.binds (ps := ["a", "b", "images"]) fun _ _ _ _ _ _ us hl => match us, hl with | [_, _, _], _ => rfl
  have g6 : mg "is_homomorphism" = some (.ref f6) := PySem.W.mg_of X G a6
  have F7 := fun_mk (st := sClosing) l7 c7 k7
  have b7 := F7.binds (ps := ["s"]) fun _ _ _ _ _ _ us hl => match us, hl with | [_], _ => rfl
  have g7 : mg "closing" = some (.ref f7) := PySem.W.mg_of X G a7
  have F8 := fun_mk (st := sClose) l8 c8 k8
  have b8 := F8.binds (ps := ["s", "known"]) fun _ _ _ _ _ _ us hl => match us, hl with | [_, _], _ => rfl
  have g8 : mg "close" = some (.ref f8) := PySem.W.mg_of X G a8
  have F9 := fun_mk (st := sExt) l9 c9 k9
  have b9 := F9.binds (ps := ["a", "b", "images", "step", "y", "unlike"]) fun _ _ _ _ _ _ us hl => match us, hl with | [_, _, _, _, _, _], _ => rfl
  have g9 : mg "extended" = some (.ref f9) := PySem.W.mg_of X G a9
  have F10 := fun_mk (st := sWalk) l10 c10 k10
  have b10 := F10.binds (ps := ["a", "b", "unlike"]) fun _ _ _ _ _ _ us hl => match us, hl with | [_, _, _], _ => rfl
  have g10 : mg "walk" = some (.ref f10) := PySem.W.mg_of X G a10
  have F11 := fun_mk (st := sGath) l11 c11 k11
  have b11 := F11.binds (ps := ["a", "b", "unlike"]) fun _ _ _ _ _ _ us hl => match us, hl with | [_, _, _], _ => rfl
  have g11 : mg "gathered" = some (.ref f11) := PySem.W.mg_of X G a11
  have F12 := fun_mk (st := sHoms) l12 c12 k12
  have b12 := F12.binds (ps := ["a", "b"]) fun _ _ _ _ _ _ us hl => match us, hl with | [_, _], _ => rfl
  have g12 : mg "homomorphisms" = some (.ref f12) := PySem.W.mg_of X G a12
  have F13 := fun_mk (st := sCount) l13 c13 k13
  have b13 := F13.binds (ps := ["a", "b"]) fun _ _ _ _ _ _ us hl => match us, hl with | [_, _], _ => rfl
  have g13 : mg "count_homomorphisms" = some (.ref f13) := PySem.W.mg_of X G a13
  have F14 := fun_mk (st := sOnes) l14 c14 k14
  have b14 := F14.binds (ps := ["a", "b"]) fun _ _ _ _ _ _ us hl => match us, hl with | [_, _], _ => rfl
  have g14 : mg "one_to_one" = some (.ref f14) := PySem.W.mg_of X G a14
  have F15 := fun_mk (st := sState) l15 c15 k15
  have b15 := F15.binds (ps := ["_law_script"]) fun _ _ _ _ _ _ us hl => match us, hl with | [_], _ => rfl
  have g15 : mg "_law_state" = some (.ref f15) := PySem.W.mg_of X G a15
  have F16 := fun_mk (st := sTake) l16 c16 k16
  have b16 := F16.binds (ps := ["_law_state_here", "_law_m"]) fun _ _ _ _ _ _ us hl => match us, hl with | [_, _], _ => rfl
  have g16 : mg "_law_take" = some (.ref f16) := PySem.W.mg_of X G a16
  have F17 := fun_mk (st := sOrder) l17 c17 k17
  have b17 := F17.binds (ps := ["_law_state_here", "_law_n"]) fun _ _ _ _ _ _ us hl => match us, hl with | [_, _], _ => rfl
  have g17 : mg "_law_order_of" = some (.ref f17) := PySem.W.mg_of X G a17
  have F18 := fun_mk (st := sRen) l18 c18 k18
  have b18 := F18.binds (ps := ["_law_table", "_law_order"]) fun _ _ _ _ _ _ us hl => match us, hl with | [_, _], _ => rfl
  have g18 : mg "_law_renamed" = some (.ref f18) := PySem.W.mg_of X G a18
  have F19 := fun_mk (st := sAfter) l19 c19 k19
  have b19 := F19.binds (ps := ["_law_f", "_law_g"]) fun _ _ _ _ _ _ us hl => match us, hl with | [_, _], _ => rfl
  have g19 : mg "_law_after" = some (.ref f19) := PySem.W.mg_of X G a19
  have F20 := fun_mk (st := sClosed) l20 c20 k20
  have b20 := F20.binds (ps := ["_law_maps"]) fun _ _ _ _ _ _ us hl => match us, hl with | [_], _ => rfl
  have g20 : mg "_law_closed" = some (.ref f20) := PySem.W.mg_of X G a20
  have F21 := fun_mk (st := sOfMaps) l21 c21 k21
  have b21 := F21.binds (ps := ["_law_state_here", "_law_most"]) fun _ _ _ _ _ _ us hl => match us, hl with | [_, _], _ => rfl
  have g21 : mg "_law_of_maps" = some (.ref f21) := PySem.W.mg_of X G a21
  have F22 := fun_mk (st := sMono) l22 c22 k22
  have b22 := F22.binds (ps := ["_law_state_here", "_law_most"]) fun _ _ _ _ _ _ us hl => match us, hl with | [_, _], _ => rfl
  have g22 : mg "_law_monogenic" = some (.ref f22) := PySem.W.mg_of X G a22
  have F23 := fun_mk (st := sTrip) l23 c23 k23
  have b23 := F23.binds (ps := ["_law_a", "_law_b", "_law_g", "_law_twist", "_law_holes", "_law_zero"]) fun _ _ _ _ _ _ us hl => match us, hl with | [_, _, _, _, _, _], _ => rfl
  have g23 : mg "_law_triples" = some (.ref f23) := PySem.W.mg_of X G a23
  have F24 := fun_mk (st := sBlocks) l24 c24 k24
  have b24 := F24.binds (ps := ["_law_state_here", "_law_most"]) fun _ _ _ _ _ _ us hl => match us, hl with | [_, _], _ => rfl
  have g24 : mg "_law_blocks" = some (.ref f24) := PySem.W.mg_of X G a24
  have F25 := fun_mk (st := sPlain) l25 c25 k25
  have b25 := F25.binds (ps := ["_law_state_here", "_law_most"]) fun _ _ _ _ _ _ us hl => match us, hl with | [_, _], _ => rfl
  have g25 : mg "_law_plain" = some (.ref f25) := PySem.W.mg_of X G a25
  have F26 := fun_mk (st := sExtd) l26 c26 k26
  have b26 := F26.binds (ps := ["_law_state_here", "_law_table", "_law_most"]) fun _ _ _ _ _ _ us hl => match us, hl with | [_, _, _], _ => rfl
  have g26 : mg "_law_extended" = some (.ref f26) := PySem.W.mg_of X G a26
  have F27 := fun_mk (st := sSemi) l27 c27 k27
  have b27 := F27.binds (ps := ["_law_state_here", "_law_most"]) fun _ _ _ _ _ _ us hl => match us, hl with | [_, _], _ => rfl
  have g27 : mg "_law_semigroup" = some (.ref f27) := PySem.W.mg_of X G a27
  have F28 := fun_mk (st := sRows) l28 c28 k28
  have b28 := F28.binds (ps := ["_law_n", "_law_count"]) fun _ _ _ _ _ _ us hl => match us, hl with | [_, _], _ => rfl
  have g28 : mg "_law_rows_of" = some (.ref f28) := PySem.W.mg_of X G a28
  have F29 := fun_mk (st := sKeeps) l29 c29 k29
  have b29 := F29.binds (ps := ["_law_one", "_law_two", "_law_images"]) fun _ _ _ _ _ _ us hl => match us, hl with | [_, _, _], _ => rfl
  have g29 : mg "_law_keeps" = some (.ref f29) := PySem.W.mg_of X G a29
  have F30 := fun_mk (st := sLaw) l30 c30 k30
  refine ⟨PySem.W.fnOf "law" "law" (defArgs sLaw) (defBody sLaw) (defScope sLaw) .none kV30 dc30 pm30 an30 cd30 ct30, fun s v => .of_eq rfl, fun base _ _ => ?_⟩
  have A1 : ∀ j, FnOk l.prog w K mg base CX0 (j + 1) f1 _ ["value"] spInt := fun j => ok_int F1 m_isinstance m_int m_bool
  have A2 : ∀ j, FnOk l.prog w K mg base CX0 (j + 2) f2 _ ["value", "n"] spItem := fun j => ok_item F2 (A1 j) b1 k1 g1
  have A3 : ∀ j, FnOk l.prog w K mg base CX0 (j + 3) f3 _ ["table"] spTaken := fun j => ok_taken F3 (A2 j) b2 k2 g2 m_isinstance m_list m_tuple m_len
  have A4 : ∀ j, FnOk l.prog w K mg base CX0 (j + 1) f4 _ ["table"] spAssoc := fun j => ok_assoc F4 m_len m_range
  have A5 : ∀ j, FnOk l.prog w K mg base CX0 (j + 4) f5 _ ["self", "table"] (spInit C) := fun j => ok_init F5 T (A3 j) b3 k3 g3 (A4 (j + 2)) b4 k4 g4 m_len ⟨t24, PySem.W.mg_of X G m24⟩
  have A6 : ∀ j, FnOk l.prog w K mg base CX0 (j + 2) f6 _ ["a", "b", "images"] (spIsHom C) := fun j => ok_isHom F6 T (A1 j) b1 k1 g1 m_isinstance m_tuple m_len m_range
  have A8 : ∀ j, FnOk l.prog w K mg base CX0 (j + 1) f8 _ ["s", "known"] (spClose C) := fun j => ok_close F8 T m_len m_list
  have A7 : ∀ j, FnOk l.prog w K mg base CX0 (j + 2) f7 _ ["s"] (spClosing C) := fun j => ok_closing F7 T (A8 j) b8 k8 g8 m_range m_tuple
  have A9 : ∀ j, FnOk l.prog w K mg base CX0 (j + 1) f9 _ ["a", "b", "images", "step", "y", "unlike"] (spExt C) := fun j => ok_ext F9 T m_len m_set m_list
  have A10 : ∀ j, KG.GFn l.prog w K mg base (j + 3) f10 _ ["a", "b", "unlike"] (spWalk C) := fun j => ok_walk (qual := "walk") l10 c10 T (A7 j) b7 k7 g7 (A9 (j + 1)) b9 k9 g9 m_len m_tuple m_range
  have A11 : ∀ j, FnOk l.prog w K mg base CX0 (j + 5) f11 _ ["a", "b", "unlike"] (spGath C) := fun j => ok_gath F11 (A10 j) b10 k10 g10 m_len (PySem.W.mg_of X G m50)
  have A12 : ∀ j, FnOk l.prog w K mg base CX0 (j + 6) f12 _ ["a", "b"] (spMaps C false) := fun j => ok_homs F12 (A11 j) b11 k11 g11 m_tuple
  have A13 : ∀ j, FnOk l.prog w K mg base CX0 (j + 6) f13 _ ["a", "b"] (spCount C) := fun j => ok_count F13 (A11 j) b11 k11 g11 m_len
  have A14 : ∀ j, FnOk l.prog w K mg base CX0 (j + 6) f14 _ ["a", "b"] (spMaps C true) := fun j => ok_ones F14 (A11 j) b11 k11 g11 m_tuple
  have A15 : ∀ j, FnOk l.prog w K mg base CX0 (j + 1) f15 _ ["_law_script"] (spState K) := fun j => ok_state F15 m_int m_abs
  have A16 : ∀ j, FnOk l.prog w K mg base CX0 (j + 1) f16 _ ["_law_state_here", "_law_m"] spTake := fun j => ok_take F16 m_int
  have A17 : ∀ j, FnOk l.prog w K mg base CX0 (j + 2) f17 _ ["_law_state_here", "_law_n"] spOrder := fun j => ok_order F17 (A16 j) b16 k16 g16 m_range m_len m_list
  have A18 : ∀ j, FnOk l.prog w K mg base CX0 (j + 1) f18 _ ["_law_table", "_law_order"] spRen := fun j => ok_ren F18 m_range m_len m_tuple
  have A19 : ∀ j, FnOk l.prog w K mg base CX0 (j + 1) f19 _ ["_law_f", "_law_g"] spAfter := fun j => ok_after F19 m_tuple
  have A20 : ∀ j, FnOk l.prog w K mg base CX0 (j + 2) f20 _ ["_law_maps"] spClosed := fun j => ok_closed F20 (A19 j) b19 k19 g19 m_range m_len m_list
  have A21 : ∀ j, FnOk l.prog w K mg base CX0 (j + 3) f21 _ ["_law_state_here", "_law_most"] spBuild := fun j => ok_ofMaps F21 (A16 (j + 1)) b16 k16 g16 (A19 (j + 1)) b19 k19 g19 (A20 j) b20 k20 g20 m_range m_len m_tuple
  have A22 : ∀ j, FnOk l.prog w K mg base CX0 (j + 2) f22 _ ["_law_state_here", "_law_most"] spBuild := fun j => ok_mono F22 (A16 j) b16 k16 g16 m_range m_int m_tuple
  have A23 : ∀ j, FnOk l.prog w K mg base CX0 (j + 1) f23 _ ["_law_a", "_law_b", "_law_g", "_law_twist", "_law_holes", "_law_zero"] spTrip := fun j => ok_trip F23 m_range m_int m_tuple
  have A24 : ∀ j, FnOk l.prog w K mg base CX0 (j + 2) f24 _ ["_law_state_here", "_law_most"] spBuild := fun j => ok_blocks F24 (A16 j) b16 k16 g16 (A23 j) b23 k23 g23 m_range m_min
  have A25 : ∀ j, FnOk l.prog w K mg base CX0 (j + 4) f25 _ ["_law_state_here", "_law_most"] spBuild := fun j => ok_plain F25 (A16 (j + 2)) b16 k16 g16 (A22 (j + 1)) b22 k22 g22 (A21 j) b21 k21 g21 (A24 (j + 1)) b24 k24 g24 m_range m_tuple m_min
  have A26 : ∀ j, FnOk l.prog w K mg base CX0 (j + 2) f26 _ ["_law_state_here", "_law_table", "_law_most"] spExtd := fun j => ok_extd F26 (A16 j) b16 k16 g16 m_range m_tuple m_len m_int
  have A27 : ∀ j, FnOk l.prog w K mg base CX0 (j + 5) f27 _ ["_law_state_here", "_law_most"] spBuild := fun j => ok_semi F27 (A25 j) b25 k25 g25 (A26 (j + 2)) b26 k26 g26 (A18 (j + 3)) b18 k18 g18 (A17 (j + 2)) b17 k17 g17 m_len
  have A28 : ∀ j, FnOk l.prog w K mg base CX0 (j + 1) f28 _ ["_law_n", "_law_count"] spRows := fun j => ok_rows F28 m_range m_list
  have A29 : ∀ j, FnOk l.prog w K mg base CX0 (j + 1) f29 _ ["_law_one", "_law_two", "_law_images"] spKeeps := fun j => ok_keeps F29 m_range m_len
  exact ok_law (k := 10) F30 T ⟨mk, a5, i5, kc⟩ (A5 6) b5 gC (A15 10) b15 k15 g15 (A27 6) b27 k27 g27 (A16 10) b16 k16 g16 (A18 10) b18 k18 g18 (A17 9) b17 k17 g17 (A28 10) b28 k28 g28 (A29 10) b29 k29 g29 (A12 5) b12 k12 g12 (A13 5) b13 k13 g13 (A14 5) b14 k14 g14 (A6 9) b6 k6 g6 m_len m_tuple m_list m_range m_sorted
end K35
set_option Elab.async false
set_option linter.all false
set_option maxRecDepth 100000

open PySem PySem.W PyProof.Rows
set_option maxRecDepth 100000 in
set_option maxHeartbeats 0 in
theorem PySem.Challenge.cw_reesblocks_k35_whole_homomorphisms_holds : PySem.Challenge.rw_reesblocks_k35_whole_homomorphisms.Holds := by
  w_on; o_law; k_head; (case hw => w_witness2)
  k_fill
  refine L2.walk_of (l := PySem.Challenge.rw_reesblocks_k35_whole_homomorphisms) (n := 63) (k := 12) (x := "_law_script") (CX := fun _ => L2.CX0) (sp := fun w => K35.spLaw _) rfl (by decide) rfl ⟨rfl, by decide, by decide⟩ (fun w h Y => PySem.W.kIn_of Y) ?F (fun _ _ a ns hl _ hS => ⟨a, ns, rfl, hS, hl, fun _ => rfl⟩) (fun _ _ _ _ _ h => h)
  case F =>
    intro w mg fa h KX G hmg
    refine' K35.all_mk KX G hmg ?aC ?a1 ?l1 ?c1 ?k1 ?a2 ?l2 ?c2 ?k2 ?a3 ?l3 ?c3 ?k3 ?a4 ?l4 ?c4 ?k4 ?a5 ?l5 ?c5 ?k5 ?a6 ?l6 ?c6 ?k6 ?a7 ?l7 ?c7 ?k7 ?a8 ?l8 ?c8 ?k8 ?a9 ?l9 ?c9 ?k9 ?a10 ?l10 ?c10 ?k10 ?a11 ?l11 ?c11 ?k11 ?a12 ?l12 ?c12 ?k12 ?a13 ?l13 ?c13 ?k13 ?a14 ?l14 ?c14 ?k14 ?a15 ?l15 ?c15 ?k15 ?a16 ?l16 ?c16 ?k16 ?a17 ?l17 ?c17 ?k17 ?a18 ?l18 ?c18 ?k18 ?a19 ?l19 ?c19 ?k19 ?a20 ?l20 ?c20 ?k20 ?a21 ?l21 ?c21 ?k21 ?a22 ?l22 ?c22 ?k22 ?a23 ?l23 ?c23 ?k23 ?a24 ?l24 ?c24 ?k24 ?a25 ?l25 ?c25 ?k25 ?a26 ?l26 ?c26 ?k26 ?a27 ?l27 ?c27 ?k27 ?a28 ?l28 ?c28 ?k28 ?a29 ?l29 ?c29 ?k29 ?a30 ?l30 ?c30 ?k30 ?i5 ?pg ?hd ?po ?sa ?mk ?kc ?nN ?nT ?m24 ?m50 ?z_range ?z_int ?z_abs ?z_len ?z_list ?z_tuple ?z_min ?z_sorted ?z_set ?z_isinstance ?z_bool
    (case aC => k_is)
    (case a1 => k_is)
    (case l1 => k_is)
    (case c1 => k_is)
    (case k1 => k_is)
    (case a2 => k_is)
    (case l2 => k_is)
    (case c2 => k_is)
    (case k2 => k_is)
    (case a3 => k_is)
    (case l3 => k_is)
    (case c3 => k_is)
    (case k3 => k_is)
    (case a4 => k_is)
    (case l4 => k_is)
    (case c4 => k_is)
    (case k4 => k_is)
    (case a5 => k_is)
    (case l5 => k_is)
    (case c5 => k_is)
    (case k5 => k_is)
    (case a6 => k_is)
    (case l6 => k_is)
    (case c6 => k_is)
    (case k6 => k_is)
    (case a7 => k_is)
    (case l7 => k_is)
    (case c7 => k_is)
    (case k7 => k_is)
    (case a8 => k_is)
    (case l8 => k_is)
    (case c8 => k_is)
    (case k8 => k_is)
    (case a9 => k_is)
    (case l9 => k_is)
    (case c9 => k_is)
    (case k9 => k_is)
    (case a10 => k_is)
    (case l10 => k_is)
    (case c10 => k_is)
    (case k10 => k_is)
    (case a11 => k_is)
    (case l11 => k_is)
    (case c11 => k_is)
    (case k11 => k_is)
    (case a12 => k_is)
    (case l12 => k_is)
    (case c12 => k_is)
    (case k12 => k_is)
    (case a13 => k_is)
    (case l13 => k_is)
    (case c13 => k_is)
    (case k13 => k_is)
    (case a14 => k_is)
    (case l14 => k_is)
    (case c14 => k_is)
    (case k14 => k_is)
    (case a15 => k_is)
    (case l15 => k_is)
    (case c15 => k_is)
    (case k15 => k_is)
    (case a16 => k_is)
    (case l16 => k_is)
    (case c16 => k_is)
    (case k16 => k_is)
    (case a17 => k_is)
    (case l17 => k_is)
    (case c17 => k_is)
    (case k17 => k_is)
    (case a18 => k_is)
    (case l18 => k_is)
    (case c18 => k_is)
    (case k18 => k_is)
    (case a19 => k_is)
    (case l19 => k_is)
    (case c19 => k_is)
    (case k19 => k_is)
    (case a20 => k_is)
    (case l20 => k_is)
    (case c20 => k_is)
    (case k20 => k_is)
    (case a21 => k_is)
    (case l21 => k_is)
    (case c21 => k_is)
    (case k21 => k_is)
    (case a22 => k_is)
    (case l22 => k_is)
    (case c22 => k_is)
    (case k22 => k_is)
    (case a23 => k_is)
    (case l23 => k_is)
    (case c23 => k_is)
    (case k23 => k_is)
    (case a24 => k_is)
    (case l24 => k_is)
    (case c24 => k_is)
    (case k24 => k_is)
    (case a25 => k_is)
    (case l25 => k_is)
    (case c25 => k_is)
    (case k25 => k_is)
    (case a26 => k_is)
    (case l26 => k_is)
    (case c26 => k_is)
    (case k26 => k_is)
    (case a27 => k_is)
    (case l27 => k_is)
    (case c27 => k_is)
    (case k27 => k_is)
    (case a28 => k_is)
    (case l28 => k_is)
    (case c28 => k_is)
    (case k28 => k_is)
    (case a29 => k_is)
    (case l29 => k_is)
    (case c29 => k_is)
    (case k29 => k_is)
    (case a30 => k_is)
    (case l30 => k_is)
    (case c30 => k_is)
    (case k30 => k_is)
    (case i5 => k_is)
    (case pg => k_is)
    (case hd => k_is)
    (case po => k_is)
    (case sa => k_is)
    (case mk => k_is)
    (case kc => k_is)
    (case nN => k_is)
    (case nT => k_is)
    (case m24 => k_is)
    (case m50 => k_is)
    (case z_range => k_is)
    (case z_int => k_is)
    (case z_abs => k_is)
    (case z_len => k_is)
    (case z_list => k_is)
    (case z_tuple => k_is)
    (case z_min => k_is)
    (case z_sorted => k_is)
    (case z_set => k_is)
    (case z_isinstance => k_is)
    (case z_bool => k_is)
