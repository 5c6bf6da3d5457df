import PyProof.Rows.All
import Wide.All
import OpenK.AllK
import Wide.FinOn
import KE.KStateDown
import Lean
import HandS.ForMost
import HandS.Defaults
import HandS.Head0
import HandS.Head1
import HandS.Head2
import HandS.HeadEnd
import HandS.HeadHook1
import HandS.HeadHook2
import PySem.Challenge.RW_signrounds_k58_whole_steady_webs
import HandS.Evl
import HandS.Codes
import HandS.Conv
import HandS.IsInst
import HandS.TupAny
import HandS.Walk
import KE.GoesEnum
import HandS.SetFor
import PyProof.ReprRoads
import PyProof.SetRoads
/-! Plain mathematics of steady webs: no program in sight. -/
namespace SW
abbrev Wf := Nat → Nat → Int
def bad (w : Wf) (x y z : Nat) : Bool := decide (w x y * w x z * w y z = -1)
structure Good (n : Nat) (w : Wf) : Prop where
  lo : 1 ≤ n
  hi : n ≤ 10
  diag : ∀ x, x < n → w x x = 0
  off : ∀ x y, x < n → y < n → x ≠ y → w x y = 1 ∨ w x y = -1
  sym : ∀ x y, x < n → y < n → w x y = w y x
def up (n x : Nat) : List Nat := (List.range (n - (x + 1))).map fun i => x + 1 + i
def prs (n : Nat) : List (Nat × Nat) := (List.range n).flatMap fun x => (up n x).map fun y => (x, y)
def trs (n : Nat) : List (Nat × Nat × Nat) := (List.range n).flatMap fun x => (up n x).flatMap fun y => (up n y).map fun z => (x, y, z)
def oth (n x y : Nat) : List Nat := (List.range n).filter fun z => decide (z ≠ x) && decide (z ≠ y)
def kk (n : Nat) (w : Wf) (x y : Nat) : Nat := ((oth n x y).filter fun z => bad w x y z).length
def cnts (n : Nat) (w : Wf) : List Nat := (prs n).map fun p => kk n w p.1 p.2
def badT (n : Nat) (w : Wf) : List (Nat × Nat × Nat) := (trs n).filter fun t => bad w t.1 t.2.1 t.2.2
def inT (x : Nat) (t : Nat × Nat × Nat) : Bool := decide (x = t.1) || decide (x = t.2.1) || decide (x = t.2.2)
def lawcnts (n : Nat) (w : Wf) : List Nat := (prs n).map fun p => ((badT n w).filter fun t => inT p.1 t && inT p.2 t).length
def sort3 (x y z : Nat) : Nat × Nat × Nat := if z < x then (z, x, y) else if z < y then (x, z, y) else (x, y, z)

theorem mem_up {n x y : Nat} : y ∈ up n x ↔ x < y ∧ y < n := by
  unfold up
  simp only [List.mem_map, List.mem_range]
  constructor
  · rintro ⟨i, hi, rfl⟩; omega
  · rintro ⟨h1, h2⟩; exact ⟨y - (x + 1), by omega, by omega⟩
theorem mem_prs {n : Nat} {p : Nat × Nat} : p ∈ prs n ↔ p.1 < p.2 ∧ p.2 < n := by
  unfold prs
  simp only [List.mem_flatMap, List.mem_range, List.mem_map, mem_up]
  constructor
  · rintro ⟨x, hx, y, ⟨h1, h2⟩, rfl⟩; exact ⟨h1, h2⟩
  · rintro ⟨h1, h2⟩; exact ⟨p.1, by omega, p.2, ⟨h1, h2⟩, rfl⟩
theorem mem_trs {n : Nat} {t : Nat × Nat × Nat} : t ∈ trs n ↔ t.1 < t.2.1 ∧ t.2.1 < t.2.2 ∧ t.2.2 < n := by
  unfold trs
  simp only [List.mem_flatMap, List.mem_range, List.mem_map, mem_up]
  constructor
  · rintro ⟨x, hx, y, ⟨h1, h2⟩, z, ⟨h3, h4⟩, rfl⟩; exact ⟨h1, h3, h4⟩
  · rintro ⟨h1, h2, h3⟩; exact ⟨t.1, by omega, t.2.1, ⟨h1, by omega⟩, t.2.2, ⟨h2, h3⟩, rfl⟩
theorem mem_oth {n x y z : Nat} : z ∈ oth n x y ↔ z < n ∧ z ≠ x ∧ z ≠ y := by
  unfold oth
  simp only [List.mem_filter, List.mem_range, Bool.and_eq_true, decide_eq_true_eq]

/-- all of the finite shape, once -/
def shapeOk (n : Nat) : Bool :=
  (prs n).all (fun p => decide ((trs n).filter (fun t => inT p.1 t && inT p.2 t) = (oth n p.1 p.2).map (sort3 p.1 p.2)) && decide ((oth n p.1 p.2).length = n - 2)) &&
  (trs n).all (fun t => decide (((prs n).filter fun p => inT p.1 t && inT p.2 t).length = 3))
theorem shape_all : ∀ n, n ≤ 10 → shapeOk n = true := by
  have h : ((List.range 11).all shapeOk) = true := by decide +kernel
  intro n hn
  exact List.all_eq_true.mp h n (List.mem_range.mpr (by omega))
theorem shape_prs {n : Nat} (hn : n ≤ 10) {p : Nat × Nat} (hp : p ∈ prs n) :
    (trs n).filter (fun t => inT p.1 t && inT p.2 t) = (oth n p.1 p.2).map (sort3 p.1 p.2) ∧ (oth n p.1 p.2).length = n - 2 := by
  have h := shape_all n hn
  unfold shapeOk at h
  rw [Bool.and_eq_true] at h
  have h1 := List.all_eq_true.mp h.1 p hp
  simpa only [Bool.and_eq_true, decide_eq_true_eq] using h1
theorem shape_trs {n : Nat} (hn : n ≤ 10) {t : Nat × Nat × Nat} (ht : t ∈ trs n) : ((prs n).filter fun p => inT p.1 t && inT p.2 t).length = 3 := by
  have h := shape_all n hn
  unfold shapeOk at h
  rw [Bool.and_eq_true] at h
  have h1 := List.all_eq_true.mp h.2 t ht
  simpa only [decide_eq_true_eq] using h1

section
variable {n : Nat} {w : Wf}
theorem bad_swap (g : Good n w) {x y z : Nat} (hx : x < n) (hy : y < n) : bad w x y z = bad w y x z := by
  unfold bad
  rw [g.sym x y hx hy, Int.mul_assoc, Int.mul_assoc, Int.mul_comm (w x z)]
theorem bad_rot (g : Good n w) {x y z : Nat} (hx : x < n) (hy : y < n) (hz : z < n) : bad w x y z = bad w z x y := by
  unfold bad
  rw [g.sym z x hz hx, g.sym z y hz hy]
  congr 1
  rw [Int.mul_assoc, Int.mul_comm]
theorem bad_sort3 (g : Good n w) {x y z : Nat} (hx : x < n) (hy : y < n) (hz : z < n) : bad w (sort3 x y z).1 (sort3 x y z).2.1 (sort3 x y z).2.2 = bad w x y z := by
  unfold sort3
  split
  · exact (bad_rot g hx hy hz).symm
  · split
    · show bad w x z y = bad w x y z
      rw [bad_rot g hx hz hy, bad_swap g hy hx, bad_rot g hx hy hz]
    · rfl
theorem count_eq (g : Good n w) {p : Nat × Nat} (hp : p ∈ prs n) : ((badT n w).filter fun t => inT p.1 t && inT p.2 t).length = kk n w p.1 p.2 := by
  have h1 := mem_prs.mp hp
  have e : (badT n w).filter (fun t => inT p.1 t && inT p.2 t) = ((trs n).filter fun t => inT p.1 t && inT p.2 t).filter fun t => bad w t.1 t.2.1 t.2.2 := by
    unfold badT
    rw [List.filter_filter, List.filter_filter]
    congr 1
    funext t
    exact Bool.and_comm _ _
  rw [e, (shape_prs g.hi hp).1, List.filter_map, List.length_map]
  unfold kk
  congr 1
  apply List.filter_congr
  intro z hz
  have hz := mem_oth.mp hz
  exact bad_sort3 g (by omega) h1.2 hz.1
theorem cnts_eq (g : Good n w) : lawcnts n w = cnts n w := by
  unfold lawcnts cnts
  apply List.map_congr_left
  intro p hp
  exact count_eq g hp

/-! ### the products -/
def sumI (l : List Int) : Int := l.sum
theorem off2 (g : Good n w) {x y : Nat} (hx : x < n) (hy : y < n) (h : x ≠ y) : w x y * w x y = 1 := by
  rcases g.off x y hx hy h with e | e <;> rw [e] <;> rfl
theorem prod_list (g : Good n w) {x y : Nat} (hx : x < n) (hy : y < n) (h : x ≠ y) : ∀ zs : List Nat, (∀ z ∈ zs, z < n ∧ z ≠ x ∧ z ≠ y) →
    (zs.map fun z => w x z * w z y).sum = w x y * ((zs.length : Int) - 2 * ((zs.filter fun z => bad w x y z).length : Int))
  | [], _ => by simp
  | z :: zs, hz => by
    have ih := prod_list g hx hy h zs fun u hu => hz u (List.mem_cons_of_mem _ hu)
    obtain ⟨h1, h2, h3⟩ := hz z List.mem_cons_self
    rw [List.map_cons, List.sum_cons, ih, List.filter_cons]
    have e1 := g.off x z hx h1 (Ne.symm h2)
    have e2 := g.off z y h1 hy h3
    have e3 := g.off x y hx hy h
    have e4 := g.sym y z hy h1
    have eb : bad w x y z = decide (w x y * w x z * w z y = -1) := by unfold bad; rw [e4]
    rw [eb]
    rcases e1 with e1 | e1 <;> rcases e2 with e2 | e2 <;> rcases e3 with e3 | e3 <;> rw [e1, e2, e3] <;> simp <;> omega
theorem prod_eq (g : Good n w) {p : Nat × Nat} (hp : p ∈ prs n) :
    ((oth n p.1 p.2).map fun z => w p.1 z * w z p.2).sum = w p.1 p.2 * ((n : Int) - 2 - 2 * (kk n w p.1 p.2 : Int)) := by
  have h1 := mem_prs.mp hp
  rw [prod_list g (by omega) h1.2 (by omega) (oth n p.1 p.2) fun z hz => mem_oth.mp hz, (shape_prs g.hi hp).2]
  have e : ((n - 2 : Nat) : Int) = (n : Int) - 2 := by omega
  rw [e]
  rfl

/-! ### the sum -/
theorem sum_swap {α β : Type} (q : α → β → Bool) : ∀ (ps : List α) (ts : List β), (ps.map fun p => (ts.filter fun t => q p t).length).sum = (ts.map fun t => (ps.filter fun p => q p t).length).sum
  | [], ts => by
    have : ∀ ts : List β, (ts.map fun _ => (0 : Nat)).sum = 0 := by
      intro ts
      induction ts with
      | nil => rfl
      | cons a l ih => rw [List.map_cons, List.sum_cons, ih]
    simp [this]
  | p :: ps, ts => by
    rw [List.map_cons, List.sum_cons, sum_swap q ps ts]
    induction ts with
    | nil => simp
    | cons t ts ih =>
      rw [List.map_cons, List.map_cons, List.sum_cons, List.sum_cons, ← ih, List.filter_cons, List.filter_cons (xs := ps)]
      by_cases h : q p t = true
      · simp only [h, if_true, List.length_cons]; omega
      · simp only [h, Bool.false_eq_true, if_false]; omega
theorem sum_const {α : Type} (f : α → Nat) (c : Nat) : ∀ l : List α, (∀ a ∈ l, f a = c) → (l.map f).sum = c * l.length
  | [], _ => by simp
  | a :: l, h => by
    rw [List.map_cons, List.sum_cons, sum_const f c l fun b hb => h b (List.mem_cons_of_mem _ hb), h a List.mem_cons_self, List.length_cons, Nat.mul_succ]
    omega
theorem sum_eq (g : Good n w) : (cnts n w).sum = 3 * (badT n w).length := by
  rw [← cnts_eq g]
  unfold lawcnts
  rw [sum_swap (fun (p : Nat × Nat) t => inT p.1 t && inT p.2 t)]
  apply sum_const
  intro t ht
  exact shape_trs g.hi (List.mem_filter.mp ht).1

/-! ### all equal -/
def AllEq (l : List Nat) : Prop := ∀ a ∈ l, ∀ b ∈ l, a = b
theorem kk_swap (g : Good n w) {x y : Nat} (hx : x < n) (hy : y < n) : kk n w x y = kk n w y x := by
  unfold kk
  have e : oth n x y = oth n y x := by
    unfold oth
    congr 1
    funext z
    exact Bool.and_comm _ _
  rw [e]
  congr 1
  apply List.filter_congr
  intro z hz
  exact bad_swap g hx hy
def seen (n : Nat) (w : Wf) : List Nat := (List.range n).flatMap fun p => ((List.range n).filter fun y => decide (y ≠ p)).map fun y => kk n w p y
theorem mem_seen {v : Nat} : v ∈ seen n w ↔ ∃ p y, p < n ∧ y < n ∧ y ≠ p ∧ v = kk n w p y := by
  unfold seen
  simp only [List.mem_flatMap, List.mem_map, List.mem_filter, List.mem_range, decide_eq_true_eq]
  constructor
  · rintro ⟨p, hp, y, ⟨hy, h⟩, rfl⟩; exact ⟨p, y, hp, hy, h, rfl⟩
  · rintro ⟨p, y, hp, hy, h, rfl⟩; exact ⟨p, hp, y, ⟨hy, h⟩, rfl⟩
theorem mem_cnts {v : Nat} : v ∈ cnts n w ↔ ∃ x y, x < y ∧ y < n ∧ v = kk n w x y := by
  unfold cnts
  simp only [List.mem_map]
  constructor
  · rintro ⟨p, hp, rfl⟩; exact ⟨p.1, p.2, (mem_prs.mp hp).1, (mem_prs.mp hp).2, rfl⟩
  · rintro ⟨x, y, h1, h2, rfl⟩; exact ⟨(x, y), mem_prs.mpr ⟨h1, h2⟩, rfl⟩
theorem seen_cnts (g : Good n w) {v : Nat} : v ∈ seen n w ↔ v ∈ cnts n w := by
  rw [mem_seen, mem_cnts]
  constructor
  · rintro ⟨p, y, hp, hy, h, rfl⟩
    by_cases hl : p < y
    · exact ⟨p, y, hl, hy, rfl⟩
    · exact ⟨y, p, by omega, hp, kk_swap g hp hy⟩
  · rintro ⟨x, y, h1, h2, rfl⟩
    exact ⟨x, y, by omega, h2, by omega, rfl⟩
theorem allEq_seen (g : Good n w) : AllEq (seen n w) ↔ AllEq (cnts n w) := by
  unfold AllEq
  constructor
  · intro h a ha b hb; exact h a ((seen_cnts g).mpr ha) b ((seen_cnts g).mpr hb)
  · intro h a ha b hb; exact h a ((seen_cnts g).mp ha) b ((seen_cnts g).mp hb)
theorem seen_ne (h : 2 ≤ n) : seen n w ≠ [] := by
  intro e
  have : kk n w 0 1 ∈ seen n w := mem_seen.mpr ⟨0, 1, by omega, by omega, by omega, rfl⟩
  rw [e] at this
  cases this

/-! ### an even number of places -/
theorem count_succ (p : Nat → Bool) (m : Nat) : ((List.range (m + 1)).filter p).length = ((List.range m).filter p).length + if p m = true then 1 else 0 := by
  rw [List.range_succ, List.filter_append, List.length_append, List.filter_cons]
  split <;> rfl
def fxy (w : Wf) (x y u : Nat) : Bool := (decide (u ≠ x) && decide (u ≠ y)) && bad w x y u
theorem kk_fxy (x y : Nat) : kk n w x y = ((List.range n).filter (fxy w x y)).length := by
  unfold kk oth
  rw [List.filter_filter]
  congr 2
  funext u
  exact Bool.and_comm _ _
theorem four_core {p q r s t v : Int} (hp : p = 1 ∨ p = -1) (hq : q = 1 ∨ q = -1) (hr : r = 1 ∨ r = -1) (hs : s = 1 ∨ s = -1) (ht : t = 1 ∨ t = -1) (hv : v = 1 ∨ v = -1) :
    ((if decide (p * s * t = -1) = true then 1 else 0) + (if decide (q * s * v = -1) = true then 1 else 0) + (if decide (r * t * v = -1) = true then 1 else 0)) % 2 = (if decide (p * q * r = -1) = true then 1 else 0 : Nat) := by
  rcases hp with rfl | rfl <;> rcases hq with rfl | rfl <;> rcases hr with rfl | rfl <;> rcases hs with rfl | rfl <;> rcases ht with rfl | rfl <;> rcases hv with rfl | rfl <;> rfl
theorem four (g : Good n w) {x y z u : Nat} (hx : x < n) (hy : y < n) (hz : z < n) (hu : u < n) (xy : x ≠ y) (xz : x ≠ z) (yz : y ≠ z) :
    ((if fxy w x y u = true then 1 else 0) + (if fxy w x z u = true then 1 else 0) + (if fxy w y z u = true then 1 else 0)) % 2 = (if bad w x y z = true then 1 else 0 : Nat) := by
  by_cases ux : u = x
  · subst ux
    have e : bad w y z u = bad w u y z := bad_rot g hy hz hx
    simp only [fxy, e]
    cases bad w u y z <;> simp [xy, xz]
  · by_cases uy : u = y
    · subst uy
      have e : bad w x z u = bad w x u z := by rw [bad_rot g hx hz hy, bad_swap g hy hx]
      simp only [fxy, e]
      cases bad w x u z <;> simp [Ne.symm xy, yz]
    · by_cases uz : u = z
      · subst uz
        cases hb : bad w x y u <;> simp [fxy, ux, uy, hb]
      · have a1 := g.off x y hx hy xy
        have a2 := g.off x z hx hz xz
        have a3 := g.off y z hy hz yz
        have a4 := g.off x u hx hu (Ne.symm ux)
        have a5 := g.off y u hy hu (Ne.symm uy)
        have a6 := g.off z u hz hu (Ne.symm uz)
        have f1 : fxy w x y u = decide (w x y * w x u * w y u = -1) := by unfold fxy bad; simp [ux, uy]
        have f2 : fxy w x z u = decide (w x z * w x u * w z u = -1) := by unfold fxy bad; simp [ux, uz]
        have f3 : fxy w y z u = decide (w y z * w y u * w z u = -1) := by unfold fxy bad; simp [uy, uz]
        rw [f1, f2, f3]
        exact four_core a1 a2 a3 a4 a5 a6
theorem parity (g : Good n w) {x y z : Nat} (hx : x < n) (hy : y < n) (hz : z < n) (xy : x ≠ y) (xz : x ≠ z) (yz : y ≠ z) : ∀ m, m ≤ n →
    (((List.range m).filter (fxy w x y)).length + ((List.range m).filter (fxy w x z)).length + ((List.range m).filter (fxy w y z)).length) % 2 = (m * (if bad w x y z = true then 1 else 0)) % 2
  | 0, _ => by simp
  | m + 1, hm => by
    have ih := parity g hx hy hz xy xz yz m (by omega)
    have f := four g hx hy hz (u := m) (by omega) xy xz yz
    rw [count_succ, count_succ, count_succ, Nat.succ_mul]
    generalize (if fxy w x y m = true then 1 else 0) = a at f ⊢
    generalize (if fxy w x z m = true then 1 else 0) = b at f ⊢
    generalize (if fxy w y z m = true then 1 else 0) = c at f ⊢
    generalize (if bad w x y z = true then 1 else 0) = d at f ih ⊢
    generalize m * d = e at ih ⊢
    omega
theorem even_of (g : Good n w) {k : Nat} (h2 : 2 ≤ n) (hk : ∀ x y, x < n → y < n → x ≠ y → kk n w x y = k) (h0 : k ≠ 0) (h1 : k ≠ n - 2) : n % 2 = 0 := by
  have k01 : kk n w 0 1 = k := hk 0 1 (by omega) (by omega) (by omega)
  have l01 : (oth n 0 1).length = n - 2 := (shape_prs g.hi (p := (0, 1)) (mem_prs.mpr ⟨by omega, by omega⟩)).2
  unfold kk at k01
  have par : ∀ z, z < n → z ≠ 0 → z ≠ 1 → (k + k + k) % 2 = (n * (if bad w 0 1 z = true then 1 else 0)) % 2 := fun z hz z0 z1 => by
    have p := parity g (x := 0) (y := 1) (z := z) (by omega) (by omega) hz (by omega) (Ne.symm z0) (Ne.symm z1) n (Nat.le_refl n)
    rw [← kk_fxy, ← kk_fxy, ← kk_fxy, hk 0 1 (by omega) (by omega) (by omega), hk 0 z (by omega) hz (Ne.symm z0), hk 1 z (by omega) hz (Ne.symm z1)] at p
    exact p
  have e1 : ∃ z, z ∈ oth n 0 1 ∧ bad w 0 1 z = true := by
    refine Classical.byContradiction fun hno => ?_
    have : (oth n 0 1).filter (fun z => bad w 0 1 z) = [] := List.filter_eq_nil_iff.mpr fun z hz hb => hno ⟨z, hz, hb⟩
    rw [this] at k01
    exact h0 k01.symm
  have e2 : ∃ z, z ∈ oth n 0 1 ∧ bad w 0 1 z = false := by
    refine Classical.byContradiction fun hno => ?_
    have : (oth n 0 1).filter (fun z => bad w 0 1 z) = oth n 0 1 := List.filter_eq_self.mpr fun z hz => by
      cases hb : bad w 0 1 z with
      | true => rfl
      | false => exact (hno ⟨z, hz, hb⟩).elim
    rw [this, l01] at k01
    exact h1 k01.symm
  obtain ⟨z, hz, hb⟩ := e1
  obtain ⟨u, hu, hc⟩ := e2
  obtain ⟨z1, z2, z3⟩ := mem_oth.mp hz
  obtain ⟨u1, u2, u3⟩ := mem_oth.mp hu
  have q1 := par z z1 z2 z3
  have q2 := par u u1 u2 u3
  rw [hb] at q1
  rw [hc] at q2
  simp only [if_true, Bool.false_eq_true, if_false, Nat.mul_one, Nat.mul_zero] at q1 q2
  omega
theorem cnts_const (g : Good n w) (h : AllEq (cnts n w)) (h2 : 2 ≤ n) : ∀ x y, x < n → y < n → x ≠ y → kk n w x y = kk n w 0 1 := fun x y hx hy hne =>
  h _ ((seen_cnts g).mp (mem_seen.mpr ⟨x, y, hx, hy, Ne.symm hne, rfl⟩)) _ (mem_cnts.mpr ⟨0, 1, by omega, by omega, rfl⟩)
theorem cnts_head (h2 : 2 ≤ n) : ∃ r, cnts n w = kk n w 0 1 :: r := by
  obtain ⟨m, rfl⟩ : ∃ m, n = m + 2 := ⟨n - 2, by omega⟩
  unfold cnts prs
  rw [List.range_succ_eq_map, List.flatMap_cons]
  have e : up (m + 2) 0 = 1 :: (List.range m).map fun i => i + 1 + 1 := by
    unfold up
    rw [show m + 2 - (0 + 1) = m + 1 by omega, List.range_succ_eq_map, List.map_cons, List.map_map]
    congr 1
    apply List.map_congr_left
    intro i _
    show 0 + 1 + (i + 1) = i + 1 + 1
    omega
  rw [e]
  exact ⟨_, rfl⟩
theorem cnts_one (h : n < 2) : cnts n w = [] := by
  have : n = 0 ∨ n = 1 := by omega
  rcases this with rfl | rfl <;> rfl
theorem steady_even (g : Good n w) (h2 : 2 ≤ n) (h : AllEq (cnts n w)) (h0 : kk n w 0 1 ≠ 0) (h1 : kk n w 0 1 ≠ n - 2) : n % 2 = 0 :=
  even_of g h2 (cnts_const g h h2) h0 h1

/-! ### seen from a place -/
def side (lot : List Nat) (x : Nat) : Int := if x ∈ lot then -1 else 1
def turn (w : Wf) (lot : List Nat) : Wf := fun x y => w x y * side lot x * side lot y
def lotOf (n : Nat) (w : Wf) (p : Nat) : List Nat := (List.range n).filter fun y => decide (w p y = -1)
theorem side_lot {p x : Nat} (hx : x < n) : side (lotOf n w p) x = if w p x = -1 then -1 else 1 := by
  unfold side
  have e : x ∈ lotOf n w p ↔ w p x = -1 := by
    unfold lotOf
    rw [List.mem_filter, List.mem_range, decide_eq_true_eq]
    exact ⟨fun h => h.2, fun h => ⟨hx, h⟩⟩
  by_cases h : w p x = -1
  · rw [if_pos h, if_pos (e.mpr h)]
  · rw [if_neg h, if_neg (mt e.mp h)]
theorem seen_count (g : Good n w) {p y : Nat} (hp : p < n) (hy : y < n) (h : y ≠ p) : ((List.range n).filter fun z => decide (turn w (lotOf n w p) y z = -1)).length = kk n w p y := by
  rw [kk_fxy]
  congr 1
  apply List.filter_congr
  intro z hz
  have hz := List.mem_range.mp hz
  unfold turn
  rw [side_lot hy, side_lot hz]
  have e0 := g.sym p y hp hy
  have e1 := g.off p y hp hy (Ne.symm h)
  by_cases zp : z = p
  · subst zp
    rw [g.diag z hp]
    have : fxy w z y z = false := by unfold fxy; simp
    rw [this, ← e0]
    rcases e1 with e1 | e1 <;> rw [e1] <;> rfl
  · by_cases zy : z = y
    · subst zy
      have : fxy w p z z = false := by unfold fxy; simp
      rw [this, g.diag z hy]
      simp
    · have e2 := g.off p z hp hz (Ne.symm zp)
      have e3 := g.off y z hy hz (Ne.symm zy)
      have : fxy w p y z = decide (w p y * w p z * w y z = -1) := by unfold fxy bad; simp [zp, zy]
      rw [this]
      rcases e1 with e1 | e1 <;> rcases e2 with e2 | e2 <;> rcases e3 with e3 | e3 <;> rw [e1, e2, e3] <;> rfl
end

/-! ### ties changed -/
def flip1 (w : Wf) (a b : Nat) : Wf := fun x y => if (x = a ∧ y = b) ∨ (x = b ∧ y = a) then - w a b else w x y
theorem flip_good {n : Nat} {w : Wf} {a b : Nat} (g : Good n w) (ha : a < n) (hb : b < n) (h : a ≠ b) : Good n (flip1 w a b) := by
  refine ⟨g.lo, g.hi, fun x hx => ?_, fun x y hx hy hne => ?_, fun x y hx hy => ?_⟩
  · unfold flip1
    rw [if_neg (by omega)]
    exact g.diag x hx
  · unfold flip1
    have e := g.off a b ha hb h
    split
    · rcases e with e | e <;> rw [e]
      · exact .inr rfl
      · exact .inl rfl
    · exact g.off x y hx hy hne
  · unfold flip1
    by_cases c : (x = a ∧ y = b) ∨ (x = b ∧ y = a)
    · rw [if_pos c, if_pos (by omega)]
    · rw [if_neg c, if_neg (by omega)]
      exact g.sym x y hx hy

theorem filter_not_length (p : Nat → Bool) : ∀ l : List Nat, (l.filter p).length + (l.filter fun z => !p z).length = l.length
  | [] => rfl
  | a :: l => by
    have ih := filter_not_length p l
    rw [List.filter_cons, List.filter_cons]
    cases p a <;> simp <;> omega
theorem differ_one (p q : Nat → Bool) (y : Nat) (hd : p y ≠ q y) : ∀ m, (∀ u, u < m → u ≠ y → p u = q u) →
    (m ≤ y → ((List.range m).filter p).length = ((List.range m).filter q).length) ∧ (y < m → ((List.range m).filter p).length ≠ ((List.range m).filter q).length)
  | 0, _ => ⟨fun _ => rfl, fun h => absurd h (Nat.not_lt_zero _)⟩
  | m + 1, h => by
    have ih := differ_one p q y hd m fun u hu => h u (by omega)
    rw [count_succ, count_succ]
    by_cases e : m = y
    · subst e
      have ih1 := ih.1 (Nat.le_refl m)
      refine ⟨fun z => absurd z (by omega), fun _ => ?_⟩
      rw [ih1]
      cases hp : p m <;> cases hq : q m
      · exact absurd (hp.trans hq.symm) hd
      · simp
      · simp
      · exact absurd (hp.trans hq.symm) hd
    · have e1 := h m (Nat.lt_succ_self m) e
      rw [e1]
      refine ⟨fun z => ?_, fun z => ?_⟩
      · rw [ih.1 (by omega)]
      · have := ih.2 (by omega)
        omega
/-- a steady web with k = n - 2 - k, one tie changed: not steady -/
theorem changed_not {n : Nat} {w : Wf} {k a b : Nat} (g : Good n w) (hk : ∀ x y, x < n → y < n → x ≠ y → kk n w x y = k) (h3 : 3 ≤ n) (hkk : n - 2 = k + k) (hab : a < b) (hb : b < n) : ¬ AllEq (cnts n (flip1 w a b)) := by
  have ha : a < n := by omega
  have hne : a ≠ b := by omega
  have g' := flip_good g ha hb hne
  -- the changed tie
  have k1 : kk n (flip1 w a b) a b = k := by
    have l01 : (oth n a b).length = n - 2 := (shape_prs g.hi (p := (a, b)) (mem_prs.mpr ⟨hab, hb⟩)).2
    have k0 := hk a b ha hb hne
    unfold kk at k0 ⊢
    have e : (oth n a b).filter (fun z => bad (flip1 w a b) a b z) = (oth n a b).filter fun z => !bad w a b z := by
      apply List.filter_congr
      intro z hz
      obtain ⟨z1, z2, z3⟩ := mem_oth.mp hz
      have f1 : flip1 w a b a b = - w a b := by unfold flip1; rw [if_pos (.inl ⟨rfl, rfl⟩)]
      have f2 : flip1 w a b a z = w a z := by unfold flip1; rw [if_neg (by omega)]
      have f3 : flip1 w a b b z = w b z := by unfold flip1; rw [if_neg (by omega)]
      unfold bad
      rw [f1, f2, f3]
      rcases g.off a b ha hb hne with e1 | e1 <;> rcases g.off a z ha z1 (Ne.symm z2) with e2 | e2 <;> rcases g.off b z hb z1 (Ne.symm z3) with e3 | e3 <;> rw [e1, e2, e3] <;> rfl
    rw [e]
    have := filter_not_length (fun z => bad w a b z) (oth n a b)
    omega
  -- another one
  obtain ⟨c, hc, ca, cb⟩ : ∃ c, c < n ∧ c ≠ a ∧ c ≠ b := by
    by_cases h0 : a = 0
    · by_cases h1 : b = 1
      · exact ⟨2, by omega, by omega, by omega⟩
      · exact ⟨1, by omega, by omega, by omega⟩
    · exact ⟨0, by omega, by omega, by omega⟩
  have k2 : kk n (flip1 w a b) a c ≠ k := by
    rw [← hk a c ha hc (Ne.symm ca), kk_fxy, kk_fxy]
    have f2 : flip1 w a b a c = w a c := by unfold flip1; rw [if_neg (by omega)]
    have f4 : flip1 w a b a b = - w a b := by unfold flip1; rw [if_pos (.inl ⟨rfl, rfl⟩)]
    have f5 : flip1 w a b c b = w c b := by unfold flip1; rw [if_neg (by omega)]
    refine (differ_one (fxy (flip1 w a b) a c) (fxy w a c) b ?_ n fun u hu hub => ?_).2 hb
    · have q1 : fxy (flip1 w a b) a c b = decide (w a c * (- w a b) * w c b = -1) := by
        unfold fxy bad
        rw [f2, f4, f5]
        simp [Ne.symm hne, Ne.symm cb]
      have q2 : fxy w a c b = decide (w a c * w a b * w c b = -1) := by
        unfold fxy bad
        simp [Ne.symm hne, Ne.symm cb]
      rw [q1, q2]
      rcases g.off a b ha hb hne with e1 | e1 <;> rcases g.off a c ha hc (Ne.symm ca) with e2 | e2 <;> rcases g.off c b hc hb cb with e3 | e3 <;> rw [e1, e2, e3] <;> decide
    · unfold fxy
      by_cases ua : u = a
      · simp [ua]
      · by_cases uc : u = c
        · simp [uc]
        · have f6 : flip1 w a b a u = w a u := by unfold flip1; rw [if_neg (by omega)]
          have f7 : flip1 w a b c u = w c u := by unfold flip1; rw [if_neg (by omega)]
          unfold bad
          rw [f2, f6, f7]
  intro hall
  have h1 := cnts_const g' hall (by omega) a b ha hb hne
  have h2 := cnts_const g' hall (by omega) a c ha hc (Ne.symm ca)
  rw [k1] at h1
  rw [h2] at k2
  exact k2 h1.symm

/-! ### webs of one kind of threes -/
def plainW (sg : Int) (s : Nat → Int) : Wf := fun x y => if x = y then 0 else sg * s x * s y
theorem plain_good {n : Nat} {sg : Int} {s : Nat → Int} (h1 : 1 ≤ n) (h2 : n ≤ 10) (hs : sg = 1 ∨ sg = -1) (h : ∀ x, x < n → s x = 1 ∨ s x = -1) : Good n (plainW sg s) := by
  refine ⟨h1, h2, fun x hx => if_pos rfl, fun x y hx hy hne => ?_, fun x y hx hy => ?_⟩
  · unfold plainW
    rw [if_neg hne]
    rcases hs with e1 | e1 <;> rcases h x hx with e2 | e2 <;> rcases h y hy with e3 | e3 <;> rw [e1, e2, e3] <;> decide
  · unfold plainW
    by_cases e : x = y
    · rw [if_pos e, if_pos e.symm]
    · rw [if_neg e, if_neg (Ne.symm e), Int.mul_assoc, Int.mul_comm (s x), ← Int.mul_assoc]
theorem plain_bad {n : Nat} {sg : Int} {s : Nat → Int} (hs : sg = 1 ∨ sg = -1) (h : ∀ x, x < n → s x = 1 ∨ s x = -1) {x y z : Nat} (hx : x < n) (hy : y < n) (hz : z < n) (h1 : x ≠ y) (h2 : x ≠ z) (h3 : y ≠ z) :
    bad (plainW sg s) x y z = decide (sg = -1) := by
  unfold bad plainW
  rw [if_neg h1, if_neg h2, if_neg h3]
  rcases hs with e1 | e1 <;> rcases h x hx with e2 | e2 <;> rcases h y hy with e3 | e3 <;> rcases h z hz with e4 | e4 <;> rw [e1, e2, e3, e4] <;> rfl
theorem plain_steady {n : Nat} {sg : Int} {s : Nat → Int} (h2 : n ≤ 10) (hs : sg = 1 ∨ sg = -1) (h : ∀ x, x < n → s x = 1 ∨ s x = -1) : AllEq (cnts n (plainW sg s)) := by
  have key : ∀ x y, x < y → y < n → kk n (plainW sg s) x y = if sg = -1 then n - 2 else 0 := fun x y hxy hy => by
    have l01 : (oth n x y).length = n - 2 := (shape_prs h2 (p := (x, y)) (mem_prs.mpr ⟨hxy, hy⟩)).2
    unfold kk
    have e : (oth n x y).filter (fun z => bad (plainW sg s) x y z) = (oth n x y).filter fun _ => decide (sg = -1) := by
      apply List.filter_congr
      intro z hz
      obtain ⟨z1, z2, z3⟩ := mem_oth.mp hz
      exact plain_bad hs h (by omega) hy z1 (by omega) (Ne.symm z2) (Ne.symm z3)
    rw [e]
    by_cases hsg : sg = -1
    · rw [if_pos hsg, List.filter_eq_self.mpr (fun _ _ => decide_eq_true hsg), l01]
    · rw [if_neg hsg, List.filter_eq_nil_iff.mpr (fun _ _ => by simp [hsg])]
      rfl
  intro a ha b hb
  obtain ⟨x, y, h3, h4, rfl⟩ := mem_cnts.mp ha
  obtain ⟨x', y', h5, h6, rfl⟩ := mem_cnts.mp hb
  rw [key x y h3 h4, key x' y' h5 h6]

/-! ### the two steady webs -/
/-- the sign of the pair a, b by a list of foes -/
def sgn (fs : List (Nat × Nat)) (a b : Nat) : Int := fs.foldl (fun s p => if (a = p.1 ∧ b = p.2) ∨ (a = p.2 ∧ b = p.1) then -s else s) 1
/-- the web after the ties of some pairs, renamed, are changed -/
def flips (row : Nat → Nat) (fs : List (Nat × Nat)) (w : Wf) : Wf := fs.foldl (fun w p => flip1 w (row p.1) (row p.2)) w
theorem foldl_neg (fs : List (Nat × Nat)) (a b : Nat) : ∀ c : Int, fs.foldl (fun s p => if (a = p.1 ∧ b = p.2) ∨ (a = p.2 ∧ b = p.1) then -s else s) (-c) = - fs.foldl (fun s p => if (a = p.1 ∧ b = p.2) ∨ (a = p.2 ∧ b = p.1) then -s else s) c := by
  induction fs with
  | nil => intro c; rfl
  | cons p fs ih =>
    intro c
    rw [List.foldl_cons, List.foldl_cons]
    by_cases h : (a = p.1 ∧ b = p.2) ∨ (a = p.2 ∧ b = p.1)
    · rw [if_pos h, if_pos h, ih]
    · rw [if_neg h, if_neg h, ih]
theorem sgn_cons (p : Nat × Nat) (fs : List (Nat × Nat)) (a b : Nat) : sgn (p :: fs) a b = if (a = p.1 ∧ b = p.2) ∨ (a = p.2 ∧ b = p.1) then - sgn fs a b else sgn fs a b := by
  unfold sgn
  rw [List.foldl_cons]
  by_cases h : (a = p.1 ∧ b = p.2) ∨ (a = p.2 ∧ b = p.1)
  · rw [if_pos h, if_pos h, foldl_neg]
  · rw [if_neg h, if_neg h]
theorem flips_good {n : Nat} {row : Nat → Nat} (hr : ∀ a, a < n → row a < n) (inj : ∀ a b, a < n → b < n → row a = row b → a = b) : ∀ (fs : List (Nat × Nat)) (w : Wf), Good n w → (∀ p ∈ fs, p.1 < n ∧ p.2 < n ∧ p.1 ≠ p.2) → Good n (flips row fs w)
  | [], _, g, _ => g
  | p :: fs, w, g, h => by
    obtain ⟨h1, h2, h3⟩ := h p List.mem_cons_self
    exact flips_good hr inj fs _ (flip_good g (hr _ h1) (hr _ h2) fun e => h3 (inj _ _ h1 h2 e)) fun q hq => h q (List.mem_cons_of_mem _ hq)
theorem flips_sgn {n : Nat} {row : Nat → Nat} (hr : ∀ a, a < n → row a < n) (inj : ∀ a b, a < n → b < n → row a = row b → a = b) : ∀ (fs : List (Nat × Nat)) (w : Wf), Good n w → (∀ p ∈ fs, p.1 < n ∧ p.2 < n ∧ p.1 ≠ p.2) →
    ∀ a b, a < n → b < n → a ≠ b → flips row fs w (row a) (row b) = w (row a) (row b) * sgn fs a b
  | [], w, _, _, a, b, _, _, _ => by
    show w (row a) (row b) = w (row a) (row b) * 1
    rw [Int.mul_one]
  | p :: fs, w, g, h, a, b, ha, hb, hne => by
    obtain ⟨h1, h2, h3⟩ := h p List.mem_cons_self
    have hrne : row p.1 ≠ row p.2 := fun e => h3 (inj _ _ h1 h2 e)
    have ih := flips_sgn hr inj fs (flip1 w (row p.1) (row p.2)) (flip_good g (hr _ h1) (hr _ h2) hrne) (fun q hq => h q (List.mem_cons_of_mem _ hq)) a b ha hb hne
    show flips row fs (flip1 w (row p.1) (row p.2)) (row a) (row b) = _
    rw [ih, sgn_cons]
    by_cases c : (a = p.1 ∧ b = p.2) ∨ (a = p.2 ∧ b = p.1)
    · rw [if_pos c]
      have e : flip1 w (row p.1) (row p.2) (row a) (row b) = - w (row a) (row b) := by
        unfold flip1
        rcases c with ⟨rfl, rfl⟩ | ⟨rfl, rfl⟩
        · rw [if_pos (.inl ⟨rfl, rfl⟩)]
        · rw [if_pos (.inr ⟨rfl, rfl⟩), g.sym _ _ (hr _ h1) (hr _ h2)]
      rw [e, Int.neg_mul, Int.mul_neg]
    · rw [if_neg c]
      have e : flip1 w (row p.1) (row p.2) (row a) (row b) = w (row a) (row b) := by
        unfold flip1
        rw [if_neg]
        rintro (⟨q1, q2⟩ | ⟨q1, q2⟩)
        · exact c (.inl ⟨inj _ _ ha h1 q1, inj _ _ hb h2 q2⟩)
        · exact c (.inr ⟨inj _ _ ha h2 q1, inj _ _ hb h1 q2⟩)
      rw [e]
def foes6 : List (Nat × Nat) := (List.range 5).map fun x => (1 + x, 1 + (x + 1) % 5)
def foes10 : List (Nat × Nat) := (List.range 9).flatMap fun x => ((List.range x).filter fun y => decide (x / 3 = y / 3) || decide (x % 3 = y % 3)).map fun y => (1 + y, 1 + x)
def sgnBad (fs : List (Nat × Nat)) (a b c : Nat) : Bool := decide (sgn fs a b * sgn fs a c * sgn fs b c = -1)
def baseOk (n k : Nat) (fs : List (Nat × Nat)) : Bool :=
  (List.range n).all (fun a => (List.range n).all fun b => a == b || (((oth n a b).filter fun c => sgnBad fs a b c).length == k && (sgn fs a b == 1 || sgn fs a b == -1))) &&
  fs.all fun p => decide (p.1 < n) && decide (p.2 < n) && decide (p.1 ≠ p.2)
theorem base6 : baseOk 6 2 foes6 = true := by decide +kernel
theorem base10 : baseOk 10 4 foes10 = true := by decide +kernel
theorem base_at {n k : Nat} {fs : List (Nat × Nat)} (h : baseOk n k fs = true) {a b : Nat} (ha : a < n) (hb : b < n) (hne : a ≠ b) : ((oth n a b).filter fun c => sgnBad fs a b c).length = k ∧ (sgn fs a b = 1 ∨ sgn fs a b = -1) := by
  unfold baseOk at h
  rw [Bool.and_eq_true] at h
  have h1 := List.all_eq_true.mp (List.all_eq_true.mp h.1 a (List.mem_range.mpr ha)) b (List.mem_range.mpr hb)
  simp only [Bool.or_eq_true, Bool.and_eq_true, beq_iff_eq] at h1
  rcases h1 with h1 | h1
  · exact absurd h1 hne
  · exact h1
theorem base_fs {n k : Nat} {fs : List (Nat × Nat)} (h : baseOk n k fs = true) : ∀ p ∈ fs, p.1 < n ∧ p.2 < n ∧ p.1 ≠ p.2 := by
  unfold baseOk at h
  rw [Bool.and_eq_true] at h
  intro p hp
  have h1 := List.all_eq_true.mp h.2 p hp
  simp only [Bool.and_eq_true, decide_eq_true_eq] at h1
  exact ⟨h1.1.1, h1.1.2, h1.2⟩
/-- a row of n things: a list that has each once -/
theorem row_facts {n : Nat} {l : List Nat} (h : l.Perm (List.range n)) : (∀ a, a < n → l.getD a 0 < n) ∧ (∀ a b, a < n → b < n → l.getD a 0 = l.getD b 0 → a = b) ∧ (∀ x, x < n → ∃ a, a < n ∧ l.getD a 0 = x) ∧ l = (List.range n).map fun a => l.getD a 0 := by
  have hl : l.length = n := by rw [h.length_eq, List.length_range]
  have nd : l.Nodup := h.nodup_iff.mpr List.nodup_range
  have get : ∀ a, (ha : a < n) → l.getD a 0 = l[a]'(by omega) := fun a ha => by
    rw [List.getD_eq_getElem?_getD, List.getElem?_eq_getElem (by omega)]
    rfl
  refine ⟨fun a ha => ?_, fun a b ha hb e => ?_, fun x hx => ?_, ?_⟩
  · rw [get a ha]
    exact List.mem_range.mp (h.mem_iff.mp (List.getElem_mem _))
  · rw [get a ha, get b hb] at e
    exact (List.getElem_inj nd).mp e
  · obtain ⟨a, ha, e⟩ := List.getElem_of_mem (h.mem_iff.mpr (List.mem_range.mpr hx))
    exact ⟨a, by omega, by rw [get a (by omega)]; exact e⟩
  · apply List.ext_getElem
    · rw [List.length_map, List.length_range, hl]
    · intro i h1 h2
      rw [List.getElem_map, List.getElem_range, get i (by omega)]
theorem known_kk {n k : Nat} {fs : List (Nat × Nat)} {l : List Nat} {s : Nat → Int} (hb : baseOk n k fs = true) (h1 : 1 ≤ n) (h2 : n ≤ 10) (hl : l.Perm (List.range n)) (hs : ∀ x, x < n → s x = 1 ∨ s x = -1) :
    Good n (flips (fun a => l.getD a 0) fs (plainW 1 s)) ∧ ∀ x y, x < n → y < n → x ≠ y → kk n (flips (fun a => l.getD a 0) fs (plainW 1 s)) x y = k := by
  obtain ⟨r1, r2, r3, r4⟩ := row_facts hl
  have gp := plain_good h1 h2 (.inl rfl) hs
  have g := flips_good r1 r2 fs _ gp (base_fs hb)
  refine ⟨g, fun x y hx hy hne => ?_⟩
  obtain ⟨a, ha, rfl⟩ := r3 x hx
  obtain ⟨b, hbn, rfl⟩ := r3 y hy
  have hab : a ≠ b := fun e => hne (by rw [e])
  rw [kk_fxy]
  have e1 : ((List.range n).filter (fxy (flips (fun a => l.getD a 0) fs (plainW 1 s)) (l.getD a 0) (l.getD b 0))).length = (l.filter (fxy (flips (fun a => l.getD a 0) fs (plainW 1 s)) (l.getD a 0) (l.getD b 0))).length :=
    ((hl.filter _).length_eq).symm
  rw [e1]
  conv => lhs; arg 1; arg 2; rw [r4]
  rw [List.filter_map, List.length_map, ← (base_at hb ha hbn hab).1]
  unfold oth
  rw [List.filter_filter]
  congr 1
  apply List.filter_congr
  intro c hc
  have hc := List.mem_range.mp hc
  show fxy _ (l.getD a 0) (l.getD b 0) (l.getD c 0) = (sgnBad fs a b c && (decide (c ≠ a) && decide (c ≠ b)))
  unfold fxy
  by_cases ca : c = a
  · subst ca; simp
  · by_cases cb : c = b
    · subst cb; simp
    · have na : l.getD c 0 ≠ l.getD a 0 := fun e => ca (r2 _ _ hc ha e)
      have nb : l.getD c 0 ≠ l.getD b 0 := fun e => cb (r2 _ _ hc hbn e)
      rw [decide_eq_true na, decide_eq_true nb, decide_eq_true ca, decide_eq_true cb]
      show bad _ _ _ _ = (sgnBad fs a b c && true)
      rw [Bool.and_true]
      unfold bad sgnBad
      rw [flips_sgn r1 r2 fs _ gp (base_fs hb) a b ha hbn hab, flips_sgn r1 r2 fs _ gp (base_fs hb) a c ha hc (Ne.symm ca), flips_sgn r1 r2 fs _ gp (base_fs hb) b c hbn hc (Ne.symm cb)]
      have z1 := (base_at hb ha hbn hab).2
      have z2 := (base_at hb ha hc (Ne.symm ca)).2
      have z3 := (base_at hb hbn hc (Ne.symm cb)).2
      unfold plainW
      rw [if_neg hne, if_neg (Ne.symm na), if_neg (Ne.symm nb)]
      generalize sgn fs a b = t1 at z1 ⊢
      generalize sgn fs a c = t2 at z2 ⊢
      generalize sgn fs b c = t3 at z3 ⊢
      rcases hs _ (r1 a ha) with e1 | e1 <;> rcases hs _ (r1 b hbn) with e2 | e2 <;> rcases hs _ (r1 c hc) with e3 | e3 <;> rw [e1, e2, e3] <;>
        rcases z1 with rfl | rfl <;> rcases z2 with rfl | rfl <;> rcases z3 with rfl | rfl <;> rfl
end SW

set_option Elab.async false
set_option linter.all false
set_option maxRecDepth 100000
set_option maxHeartbeats 0
namespace Sw
open PySem PySem.Spec PyProof.Rows L2
/-! ### the text by places -/
def top (i : Nat) : Stmt := PySem.Challenge.pw_signrounds_k58_whole_steady_webs.main.body.getD i (.Pass ⟨0, 0, 0, 0⟩)
abbrev q_is_integer : Stmt := top 7
abbrev q_is_between : Stmt := top 8
abbrev q_is_tuple_of : Stmt := top 9
abbrev q_check_place : Stmt := top 10
abbrev q_is_web : Stmt := top 12
abbrev q_check_web : Stmt := top 13
abbrev q_turned_web : Stmt := top 14
abbrev q_threes_of : Stmt := top 16
abbrev q_check_all_tied : Stmt := top 17
abbrev q_is_bad_three : Stmt := top 18
abbrev q_bad_threes : Stmt := top 19
abbrev q_seen_from : Stmt := top 20
abbrev q_bad_counts : Stmt := top 21
abbrev q_bad_at_ties : Stmt := top 22
abbrev q_is_steady : Stmt := top 23
abbrev q_law_spring : Stmt := top 25
abbrev q_law_sip : Stmt := top 26
abbrev q_law_row : Stmt := top 27
abbrev q_law_alike : Stmt := top 28
abbrev q_law_all_tied : Stmt := top 29
abbrev q_law_bad_threes : Stmt := top 30
abbrev q_law_counts : Stmt := top 32
abbrev q_law_products_right : Stmt := top 33
abbrev q_law_seen_foes : Stmt := top 34
abbrev q_law_known : Stmt := top 35
abbrev q_law_changed : Stmt := top 36
abbrev q_law_right : Stmt := top 37
abbrev q_law : Stmt := top 38
/-! ### the head -/
def fnD (x : Str) (st : Stmt) : He.DefD := ⟨(x, none), x, x, defArgs st, defBody st, defScope st, [], []⟩
def fn : List He.DefD := [fnD "is_integer" q_is_integer, fnD "is_between" q_is_between, fnD "is_tuple_of" q_is_tuple_of, fnD "check_place" q_check_place, fnD "is_web" q_is_web, fnD "check_web" q_check_web, fnD "turned_web" q_turned_web, fnD "threes_of" q_threes_of, fnD "check_all_tied" q_check_all_tied, fnD "is_bad_three" q_is_bad_three, fnD "bad_threes" q_bad_threes, fnD "seen_from" q_seen_from, fnD "bad_counts" q_bad_counts, fnD "bad_at_ties" q_bad_at_ties, fnD "is_steady" q_is_steady, fnD "_law_spring" q_law_spring, fnD "_law_sip" q_law_sip, fnD "_law_row" q_law_row, fnD "_law_alike" q_law_alike, fnD "_law_all_tied" q_law_all_tied, fnD "_law_bad_threes" q_law_bad_threes, fnD "_law_counts" q_law_counts, fnD "_law_products_right" q_law_products_right, fnD "_law_seen_foes" q_law_seen_foes, fnD "_law_known" q_law_known, fnD "_law_changed" q_law_changed, fnD "_law_right" q_law_right, fnD "law" q_law]
def fa1 : List He.Fa := [.glo "is_integer", .glo "is_between", .glo "is_tuple_of", .glo "check_place", .glo "is_web", .glo "check_web", .glo "turned_web", .glo "threes_of", .glo "check_all_tied", .glo "is_bad_three", .glo "bad_threes", .glo "seen_from", .glo "bad_counts", .glo "bad_at_ties", .glo "is_steady", .glo "_law_spring", .glo "_law_sip", .glo "_law_row", .glo "_law_alike", .glo "_law_all_tied", .glo "_law_bad_threes", .glo "_law_counts", .glo "_law_products_right", .glo "_law_seen_foes", .glo "_law_known", .glo "_law_changed", .glo "_law_right", .glo "law"]
def fa2 : List He.Fa := [.free "bool", .free "len", .free "all", .free "isinstance", .free "tuple", .free "int", .free "range", .free "enumerate", .free "set", .free "abs", .free "list", .free "sum", .free "repr", .int "MOST_PLACES" 10]
def fa : List He.Fa := fa2 ++ fa1
abbrev R : PySem.W.OpenRow := PySem.W.OpenLaw.row PySem.Challenge.rw_signrounds_k58_whole_steady_webs
abbrev hk : PySem.W.Hook := He.hookD 4 fa fn
def ob (s : PySem.W.SharedT) : He.AlD := He.obsDG 4 fa fn (HandSHeadRun.getT s)
theorem ob_eq (s : PySem.W.SharedT) : ob s = hk.obs s.abs := He.obsDG_eq (HandSHeadRun.getT_eq s)
def loose1 : List Str := ["SignError", "InvalidWeb", "InvalidPlace", "NotAllTied", "MOST_PLACES", "is_integer", "is_between", "is_tuple_of", "check_place", "is_web", "check_web", "turned_web", "threes_of", "check_all_tied", "is_bad_three", "bad_threes", "seen_from", "bad_counts"]
def loose2 : List Str := ["bad_at_ties", "is_steady", "_law_spring", "_law_sip", "_law_row", "_law_alike", "_law_all_tied", "_law_bad_threes", "_law_turned", "_law_counts", "_law_products_right", "_law_seen_foes", "_law_known", "_law_changed", "_law_right"]
def loose : List Str := loose1 ++ loose2
theorem run (w : World) : HandSHeadRun.RunEq R (PySem.W.view R.prog [38]) hk ob 2000 loose w := by
  intro os
  kernel_rfl
end Sw

set_option Elab.async false
set_option linter.all false
set_option maxRecDepth 100000
set_option maxHeartbeats 4000000
/-! Ways of saying, for this program. -/
namespace Sw
open PySem PySem.Spec PyProof.Rows L2 Evl SW

/-! ### a def by its name -/
structure Fc (P : Program) (w : World) (K : PySem.W.Frag) (mg : Str → Option Value) (base : Heap) (k : Nat) (x : Str) (ps : List Str) (sp : Sp) : Prop where
  ex : ∃ (f : Addr) (fd : FuncData), FnOk P w K mg base CX0 k f fd ps sp ∧ mg x = some (.ref f) ∧ PySem.W.keepIn K (.ref f) = true ∧ Binds K fd ps [] ∧ KBn K fd ps 0 ps (fun _ ws => ws) (fun _ zs => zs)
structure DefAt (K : PySem.W.Frag) (mg : Str → Option Value) (x : Str) (st : Stmt) : Prop where
  ex : ∃ (f : Addr) (fd : FuncData), FunD K x x (defArgs st) (defBody st) (defScope st) [] [] f fd ∧ mg x = some (.ref f)
section
variable {P : Program} {w : World} {K : PySem.W.Frag} {mg : Str → Option Value} {base : Heap}
/-- all parameters by keywords, in their own turn -/
def KwAll (x : Str) (st : Stmt) (ps : List Str) : Prop := ∀ (kV doc pm : Value) (an : Option Addr) (cdv ct : Value) (ws : List Value), ws.length = ps.length →
  bindArgs (PySem.W.fnOf x x (defArgs st) (defBody st) (defScope st) .none kV doc pm an cdv ct) ⟨[], ps.zip ws⟩ = pure (ps.zip ws)
def PosAll (x : Str) (st : Stmt) (ps : List Str) : Prop := ∀ (kV doc pm : Value) (an : Option Addr) (cdv ct : Value) (us : List Value), us.length = ps.length →
  bindArgs (PySem.W.fnOf x x (defArgs st) (defBody st) (defScope st) .none kV doc pm an cdv ct) ⟨us, []⟩ = pure (ps.zip us)
theorem kb_all {x : Str} {st : Stmt} {ps : List Str} {f : Addr} {fd : FuncData} (F : FunD K x x (defArgs st) (defBody st) (defScope st) [] [] f fd) (h : KwAll x st ps) : KBn K fd ps 0 ps (fun _ ws => ws) (fun _ zs => zs) := by
  obtain ⟨oc, od, dV, kV, doc, pm, an, cdv, ct, osl, rfl, lk, hcd, hD, hK⟩ := F.ex
  rcases hD with ⟨_, rfl⟩ | ⟨e, _⟩
  · refine ⟨fun s us ws _ l1 l2 => ?_, fun _ r => r⟩
    have e : us = [] := List.length_eq_zero_iff.mp l1
    subst e
    exact .of_eq (h kV doc pm an cdv ct ws l2)
  · exact absurd rfl e
theorem mk_fc {x : Str} {st : Stmt} {N ps : List Str} {k : Nat} {sp : Sp} (D : DefAt K mg x st) (S : FnScope N ps (defScope st)) (hb : PosAll x st ps) (hk : KwAll x st ps) (len : ∀ vs H Q E, sp vs H Q E → vs.length = ps.length)
    (body : ∀ (f : Addr) (cdv : Value) (A : Around) (outer : List Env) (s : Shared) (H : Hp) (vs : List V) (Q : VK) (E : XK), Room k (A.deeper (envOfC x (defScope st) s.heap.objs.size f cdv)) → sp vs H Q E →
      ∃ t, PSs (cxOf CX0 P w K mg base N x (defScope st) f cdv A outer s H E).nox (defBody st) t ∧ t { nx := fun _ H' => Q .non H', rt := Q } (start N vs) H) : Fc P w K mg base (k + 1) x ps sp := by
  obtain ⟨f, fd, F, hm⟩ := D.ex
  refine ⟨f, fd, F.ok S len fun cdv A outer s H vs Q E hr h => ?_, hm, F.kp, F.bindsN hb, kb_all F hk⟩
  obtain ⟨t, h1, h2⟩ := body f cdv A outer s H vs Q E hr h
  exact ⟨t, h1.nox, h2⟩
end
section
variable {X : Cx} {k j : Nat} {x : Str} {ps : List Str} {sp : Sp} {p pos : Pos} {e : Expr} {es : List Expr} {kws : List Keyword} {t tk : TA}
theorem pe_f (c : Fc X.prog X.w X.K X.mg X.base k x ps sp) (hr : Room j X.A) (hk : k ≤ j) (hg : Gl X x) (ha : PA X (e :: es) t)
    (hdb : (x == ("__debug__" : Str)) = false := by decide) (he : starEach (e :: es) X.env = (false, eval e X.env) :: starEach es X.env := by rfl) (hpl : (backTo pos (starEach es X.env)).any (·.1) = false := by rfl) :
    PE X (.Call (.Name x p) (e :: es) [] pos) (tCall sp [] E0 t) := by
  obtain ⟨f, fd, F, hm, kp, b, _⟩ := c.ex
  exact pe_call F (hr.mono hk) hg hm kp b .nil pass0 ha hdb he hpl
/-- f(k = v, ..): every parameter by its name, in turn -/
def tCallW (n : Nat) (sp : Sp) (tk : TA) : TE := fun σ H Q => tk σ H fun zs H2 => zs.length = n ∧ sp zs H2 Q E0
theorem pe_fk (c : Fc X.prog X.w X.K X.mg X.base k x ps sp) (hr : Room j X.A) (hk : k ≤ j) (hg : Gl X x) (hkw : PK X kws tk)
    (hall : (backToKw pos (keywordEach kws X.env)).all (·.1.isSome) = true := by rfl) (hks : (backToKw pos (keywordEach kws X.env)).filterMap (·.1) = ps := by rfl) (hdb : (x == ("__debug__" : Str)) = false := by decide)
    (hpl : ((backTo pos (starEach [] X.env)).any (·.1) || (backToKw pos (keywordEach kws X.env)).any (·.1.isNone)) = false := by rfl) :
    PE X (.Call (.Name x p) [] kws pos) (tCallW ps.length sp tk) := by
  obtain ⟨f, fd, F, hm, kp, _, b⟩ := c.ex
  refine ⟨fun pins s σ H Q I h => wpAny_Call_Name_kw (ld_glob I hg hm (PySem.W.callWith_KW0 (h₀ := X.base) I.ok.mod.kin kp hall ?_ hpl) hdb)⟩
  refine thn (hkw.run pos pins s σ H _ I h) fun ws s2 ⟨zs, H2, I2, rz, l2, q2⟩ => ⟨I2.kIn, ?_⟩
  rw [hks]
  exact run_fnN (us := []) (vs := []) (E := E0) F (hr.mono hk) b pass0 I2 .nil rz rfl l2 q2
theorem ev_callW {σ : L2.St} {H : Hp} {n : Nat} {zs : List V} {z : V} (h : EvA tk σ H zs) (hl : zs.length = n) (hs : SpV sp zs H z) : Ev (tCallW n sp tk) σ H z := fun H1 e Q q =>
  h H1 e _ fun H2 e2 => ⟨hl, hs H2 (e.trans e2) Q (fun H3 e3 => q H3 (e2.trans e3)) E0⟩
end

/-! ### what the top has -/
structure Txt (K : PySem.W.Frag) (mg : Str → Option Value) : Prop where
  len : mg "len" = none
  all : mg "all" = none
  isi : mg "isinstance" = none
  tuple : mg "tuple" = none
  int : mg "int" = none
  bool : mg "bool" = none
  range : mg "range" = none
  enum : mg "enumerate" = none
  set : mg "set" = none
  abs : mg "abs" = none
  list : mg "list" = none
  sum : mg "sum" = none
  repr : mg "repr" = none
  most : ∃ u, mg "MOST_PLACES" = some u ∧ RelV (.int 10) u

/-! ### shapes of readings -/
section
variable {K : PySem.W.Frag} {σ : L2.St} {H : Hp} {ta tb tc te : TE} {x y z v : V} {r r' : R2}
theorem ev_chain {a b : Bool} (ha : Ev ta σ H x) (hb : Ev tb σ H y) (h1 : RV r x y H (.bl a)) (hc : a = true → Ev tc σ H z) (h2 : a = true → RV r' y z H (.bl b)) : Ev (tChain r r' ta tb tc) σ H (.bl (a && b)) := fun H1 e Q q =>
  ha H1 e _ fun H2 e2 => hb H2 (e.trans e2) _ fun H3 e3 => h1 H3 ((e.trans e2).trans e3) _ fun H4 e4 => ⟨a, rfl, by
    have e5 : Ex H H4 := ((e.trans e2).trans e3).trans e4
    have e6 : Ex H1 H4 := (e2.trans e3).trans e4
    cases a with
    | true => exact iteT (hc rfl H4 e5 _ fun H5 e7 => h2 rfl H5 (e5.trans e7) Q fun H6 e8 => q H6 ((e6.trans e7).trans e8))
    | false => exact iteF (q H4 e6)⟩
/-- isinstance of one built-in class -/
theorem ev_isi {n m : String} {b : Bool} (ha : Ev ta σ H x) (ty : ∀ H1, Ex H H1 → TyX K H1 x (.type m)) (hk : PySem.W.kitOne K (.type m) (.type n) = some b) : Ev (tCB (rIsi K) (tCons ta (tCons (tC (.ty n)) tNil))) σ H (.bl b) := fun H1 e Q q =>
  ha H1 e _ fun H2 e2 => ⟨x, .ty n, .type m, .type n, b, rfl, .ty n, ty H2 (e.trans e2), hk, q H2 e2⟩
end
end Sw

set_option Elab.async false
set_option linter.all false
set_option maxRecDepth 100000
set_option maxHeartbeats 4000000
/-! Rules of my own: a range held by a name, enumerate of a tuple, sum of a tuple, len(set(..)), repr of data. -/
namespace Sw
open PySem PySem.Spec PyProof.Rows L2 Evl SW
section
variable {X : Cx} {tg : Expr}

/-! ### a range as a value, walked by its name -/
theorem cr_range1 : CallR X (.type "range") (fun vs H Q => ∃ j, vs = [V.int j] ∧ ∀ p, H p = none → Q (.ref p) (upd H p (.rng 0 j))) := fun pins s σ H vs us Q I r h => by
  obtain ⟨j, rfl, q⟩ := h
  obtain ⟨u, rfl, t, rfl⟩ := vals1 r
  exact call_range_1 ⟨.ref s.heap.objs.size, _, I.laid (o := .rng 0 j) (fun b o e => Heap.get?_push_of_some _ e) (Nat.le_refl _) ⟨_, _, _, Heap.get?_push_size _ rfl⟩, rfl, q _ (I.hok.fresh (Nat.le_refl _))⟩
def iRngO (te : TE) : TI := fun σ H R => te σ H fun x H1 => ∃ a lo hi, x = .ref a ∧ H1 a = some (.rng lo hi) ∧ (-(2 ^ 62) ≤ lo ∧ lo < 2 ^ 62 ∧ -(2 ^ 62) ≤ hi ∧ hi < 2 ^ 62) ∧ R (Itr lo (hi - lo).toNat) H1
theorem pi_rng {l : Expr} {te : TE} (hl : PE X l te) : PI X tg l (iRngO te) := ⟨fun pins s σ H R I h => thn (hl.run pins s σ H _ I h) fun v s1 ⟨x, H1, I1, r1, q1⟩ => by
  obtain ⟨a, lo, hi, rfl, ha, ⟨b1, b2, b3, b4⟩, q⟩ := q1
  cases r1
  obtain ⟨t, u, v, ho⟩ := I1.hok a _ ha
  refine wpAny_pyIter_range (show IsRange s1.heap a lo hi 1 t u v from ho) (small_one b1 b2 b3 b4) ?_
  refine ⟨_, [s1.heap.objs.size], _, _, H1, rfl, I1.kept (t' := s1.toks) fun b o e => Heap.get?_push_of_some _ e, turn_range _ lo (hi - lo).toNat, ?_, fun b hb => ?_, q⟩
  · have e1 : lo + ((0 : Nat) : Int) * 1 = lo := by simp
    have e2 : (((hi - lo).toNat : Nat) : Int) - ((0 : Nat) : Int) = Builtin.Range.rangeSize lo hi 1 := by
      rw [rangeSize_one]
      split <;> omega
    show IsRangeIter _ _ (lo + ((0 : Nat) : Int) * 1) ((((hi - lo).toNat : Nat) : Int) - ((0 : Nat) : Int)) 1
    rw [e1, e2]
    exact Heap.get?_push_size _ rfl
  · obtain rfl : b = s1.heap.objs.size := List.mem_singleton.mp hb
    exact I1.fpOk (Nat.le_refl _) (I1.hok.fresh (Nat.le_refl _))⟩

/-! ### sum of a tuple -/
def rSumT (K : PySem.W.Frag) : List V → Hp → VK → Prop := fun vs H Q => ∃ (a : Addr) (ns : List Int), vs = [V.ref a] ∧ SqT K H a (ns.map V.int) ∧ Q (.int ns.sum) H
theorem preSum_list (ns : List Int) : ∀ i, i ≤ ns.length → preSum (fun i => ns.getD i 0) i = (ns.take i).sum
  | 0, _ => rfl
  | i + 1, hi => by
    have e := preSum_list ns i (by omega)
    rw [sum_take (z := ns.getD i 0) (by rw [List.getD_eq_getElem?_getD, List.getElem?_eq_getElem (by omega)]; rfl), ← e]
    rfl
theorem cr_sumT (hc : X.calm = true) : CallR X (.builtin "sum") (rSumT X.K) := fun pins s σ H vs us Q I r h => by
  obtain ⟨a, ns, rfl, hs, q⟩ := h
  obtain ⟨its, rv, pt, _⟩ := I.tuple hs
  rw [Vals.ref1 r]
  have hh : X.A.in1.handled = none := I.ok.hd hc
  have ht : s.heap.IsTuple a its.toArray := pt
  have hal : a < s.heap.objs.size := pt.lt
  refine call_sum_walkG (wpAny_pyIter_tuple ht ?_)
  have ht2 : (s.heap.push { cls := .type "tuple_iterator", data := .fields #[.ref a, .int 0 0] }).IsTuple a its.toArray := ht.at fun o e => Heap.get?_push_of_some _ e
  refine ⟨s.heap.objs.size, _, _, _, _, _, fun i => ns.getD i 0, rfl, Walks.tuple (A := X.A.in1) hh s.heap.objs.size a (Nat.ne_of_lt hal) its.toArray, ⟨⟨_, Heap.get?_push_size _ rfl, rfl, rfl⟩, ht2⟩, fun b hb => ?_, fun i v hv => ?_, fun h' tk t' hk => ?_⟩
  · show b < (s.heap.push _).objs.size
    rw [Heap.size_push]
    have e : b = s.heap.objs.size ∨ b = a := by simpa using hb
    rcases e with rfl | rfl
    · exact Nat.lt_succ_self _
    · exact Nat.lt_succ_of_lt hal
  · have hv' : its[i]? = some v := by simpa using hv
    have hl := rv.length
    have hi : i < its.length := (List.getElem?_eq_some_iff.mp hv').1
    have hn : i < ns.length := by rw [List.length_map] at hl; omega
    obtain ⟨u, hu, ru⟩ := rv.get (i := i) (x := V.int ns[i]) (by rw [List.getElem?_map, List.getElem?_eq_getElem hn]; rfl)
    rw [hv'] at hu
    cases hu
    obtain ⟨t, rfl⟩ := ru
    exact ⟨t, by show Value.int ns[i] t = Value.int (ns.getD i 0) t; rw [List.getD_eq_getElem?_getD, List.getElem?_eq_getElem hn]; rfl⟩
  · have hl := rv.length
    rw [List.length_map] at hl
    have e : preSum (fun i => ns.getD i 0) its.toArray.size = ns.sum := by
      rw [List.size_toArray, ← hl, preSum_list ns _ (Nat.le_refl _), List.take_length]
    rw [e]
    refine ⟨.int ns.sum, H, I.kept fun b o z => ?_, ⟨_, rfl⟩, q⟩
    exact hk b o (by simpa using Nat.ne_of_lt (Heap.lt_size z)) (Heap.get?_push_of_some _ z)
end

/-! ### enumerate of a tuple -/
set_option maxHeartbeats 8000000 in
theorem meets_enum1 {v : Value} {o : Obj} {H : Heap → Prop} (B : Begins v o H) :
    Meets (Builtin.«enumerate.__new__» ⟨[.type "enumerate", v], []⟩) (fun _ R s => H s.heap ∧
      R (.ok (.ret (.ref (s.heap.push o).objs.size))) { s with heap := (s.heap.push o).push { cls := .type "enumerate", data := .fields #[.none, .bool false, .ref s.heap.objs.size, rawInt 0, .none, .none] } }) :=
  .of_wp fun prog w A R s h => by
    obtain ⟨hp, g, d, tk, os⟩ := s
    obtain ⟨h1, h⟩ := h
    have hsub := sub_enumerate
    have it : ∀ {A' : Around} {E : Value → Shared → Prop} {Q : Value → Shared → Prop}, Q (.ref hp.objs.size) ⟨hp.push o, g, d, tk, os⟩ → wpAny (model prog w) A' (pyIter v) Q E ⟨hp, g, d, tk, os⟩ :=
      fun q => B.iter prog w _ _ ⟨hp, g, d, tk, os⟩ _ h1 q
    wp_walk using it
    refine wpAny_stack_any fun st => wpAny_pure ?_
    split
    · rename_i c _ _ _ _ _
      cases (c == Value.type "enumerate") <;> (wp_walk using it; exact ⟨_, rfl, h⟩)
    · wp_walk using it
      exact ⟨_, rfl, h⟩
section
variable {prog : Program} {w : World} {A : Around} {E : Value → Shared → Prop} {s : Shared}
theorem enum1_begins {v : Value} {o : Obj} {H : Heap → Prop} {Q : Value → Shared → Prop} (B : Begins v o H) (h1 : H s.heap)
    (h : ∀ h', IsEnum h' (s.heap.objs.size + 1) s.heap.objs.size 0 .none → h'.get? s.heap.objs.size = some o → h'.objs.size = s.heap.objs.size + 2 →
      (∀ b o, s.heap.get? b = some o → h'.get? b = some o) → Q (.ref (s.heap.objs.size + 1)) { s with heap := h' }) :
    wpAny (model prog w) A (call (.type "enumerate") [v]) Q E s := by
  refine callType_new F.called_enumerate (by decide) (F.typeCall_enumerate_1 _) (F.newCall_enumerate_1 _) (fun obj => F.args_object_init_2 obj _) F.entry_enumerate_new (meets_enum1 B) ⟨h1, ?_⟩
  have hz : (s.heap.push o).objs.size = s.heap.objs.size + 1 := Heap.size_push ..
  have he : ∀ e : Obj, e.isFreed = false → ((s.heap.push o).push e).get? (s.heap.objs.size + 1) = some e := fun e q => by
    rw [← hz]
    exact Heap.get?_push_size _ q
  show _ ∧ _
  rw [hz]
  exact ⟨⟨_, he _ rfl, rfl⟩, h _ (he _ rfl) (Heap.get?_push_of_some _ (Heap.get?_push_size _ B.free)) (by rw [Heap.size_push, hz]) fun b u x => Heap.get?_push_of_some _ (Heap.get?_push_of_some _ x)⟩
end
/-- the tuple's items, each in a new pair with its place -/
def IteT (K : PySem.W.Frag) (a : Addr) : It :=
  ⟨fun i H => ∃ (xs : List V) (x : V), SqT K H a xs ∧ xs[i]? = some x, fun i H v H' => ∃ T x, v = .ref T ∧ H T = none ∧ H' = upd H T (.tup [.int (i : Nat), x]) ∧ ∀ xs, SqT K H a xs → xs[i]? = some x, fun i H => ∃ xs : List V, SqT K H a xs ∧ xs.length ≤ i⟩
theorem draw_tup {prog : Program} {w : World} {A : Around} {h : Heap} {it a : Addr} {its : Array Value} (hh : A.handled = none) (ne : a ≠ it) : Draws prog w A it [it, a] its.size (fun i v => its[i]? = some v) (fun i h => h.IsTupleIter it a i ∧ h.IsTuple a its) := Draws.tuple hh it a ne its
theorem turn_enumT {P : Program} {w : World} {K : PySem.W.Frag} {elts : List Expr} {kk : Nat} {tpos : Pos} (a e it : Addr) :
    Turn P w K (.Tuple elts kk tpos) (IteT K a) [e, it] e (fun i h => (∃ old, IsEnum h e it ((i : Nat) : Int) old) ∧ h.IsTupleIter it a i ∧ e ≠ it) where
  mem := List.mem_cons_self ..
  obj := fun i h st b hb => by
    obtain ⟨⟨old, he⟩, ⟨o, ho, hc, hd⟩, _⟩ := st
    rcases List.mem_cons.mp hb with rfl | hb
    · exact ⟨_, he, fun v q => nomatch q⟩
    · obtain rfl := List.mem_singleton.mp hb
      exact ⟨o, ho, fun v q => by rw [hd] at q; cases q⟩
  keep := fun i h h' st k => ⟨st.1.imp fun old he => k e (by simp) _ he, st.2.1.at fun o q => k it (by simp) o q, st.2.2⟩
  item := fun X hP hw hK hc i pins s σ H E I hf st hg => by
    subst hP hw hK
    obtain ⟨⟨old, he⟩, hit, hne⟩ := st
    obtain ⟨xs, x, hq, hx⟩ := hg
    obtain ⟨its, rv, p, hz⟩ := I.tuple hq
    obtain ⟨u, hu, ru⟩ := rv.get hx
    have pt : s.heap.IsTuple a its.toArray := p
    have hel : e < s.heap.objs.size := Heap.lt_size he
    have hil : it < s.heap.objs.size := hit.elim fun o z => Heap.lt_size z.1
    have nae : e ≠ a := fun z => by
      obtain ⟨o, q1, q2, _⟩ := pt
      have q3 : s.heap.get? e = some _ := he
      rw [z, q1] at q3
      have q4 := Option.some.inj q3
      subst q4
      exact absurd (Value.type.inj q2) (by decide)
    have nai : a ≠ it := fun z => by
      obtain ⟨o, q1, q2, _⟩ := pt
      obtain ⟨o', q3, q4, _⟩ := hit
      rw [z, q3] at q1
      cases q1
      rw [q4] at q2
      exact absurd (Value.type.inj q2) (by decide)
    have D := draw_tup (prog := X.prog) (w := X.w) (A := X.A.in1) (h := s.heap) (its := its.toArray) (I.ok.hd hc) nai
    have nef : e ∉ [it, a] := fun z => by
      rcases List.mem_cons.mp z with z | z
      · exact hne z
      · exact nae (List.mem_singleton.mp z)
    refine wpAny_pyNext_enum_itemD (i := i) D he ⟨hit, pt⟩ ?_ hne nef fun y h' tk hy ho hit' hT hsz hk => ?_
    · have := (List.getElem?_eq_some_iff.mp hu).1
      rw [List.size_toArray]
      exact this
    have ey : y = u := by
      have hy' : its[i]? = some y := by simpa using hy
      rw [hu] at hy'
      exact (Option.some.inj hy').symm
    subst ey
    refine ⟨_, rfl, wpAny_letOwnedTupleGo_enum (s := { s with heap := h', toks := tk + 1 }) ho fun h2 he' sb => ?_⟩
    have hT2 : h2.get? s.heap.objs.size = some { cls := .type "tuple", data := .seq #[.int i tk, y] } := (sb.2 _ (Nat.ne_of_gt hel)).trans hT
    have new : ObjOk X.prog X.w (upd H s.heap.objs.size (.tup [.int (i : Nat), x])) h2 s.heap.objs.size (.tup [.int (i : Nat), x]) :=
      ⟨by show 2 ≤ sizeLine; decide, [.int i tk, y], .cons ⟨_, rfl⟩ (.cons ru .nil), ⟨_, hT2, rfl, _, rfl⟩⟩
    have I1 : Inv X pins σ (upd H s.heap.objs.size (.tup [.int (i : Nat), x])) { s with heap := h2, toks := tk + 1 } :=
      I.turnedNew (ch := [e, it]) (fun b ob hb q => (sb.2 b (fun z => hb (by simp [z]))).trans (hk b ob (fun z => hb (by simp [z])) (fun z => hb (by simp [z])) q)) hf (Nat.le_refl _) new
    refine ⟨.ref s.heap.objs.size, _, I1, rfl, ⟨_, x, rfl, I.hok.fresh (Nat.le_refl _), rfl, fun ys hy => by rw [I.tuple_inj hy hq]; exact hx⟩, ⟨⟨y, ?_⟩, hit'.1.at fun o q => (sb.2 it (Ne.symm hne)).trans q, hne⟩, fun b hb => ?_⟩
    · have e1 : ((i + 1 : Nat) : Int) = (i : Int) + 1 := by omega
      rw [e1]
      exact he'
    · have hb' : b < s.heap.objs.size := by
        rcases List.mem_cons.mp hb with rfl | hb
        · exact hel
        · rw [List.mem_singleton.mp hb]; exact hil
      rw [upd_ne (Nat.ne_of_lt hb')]
      exact (hf b hb).1
  done := fun X hP hw hK hc i pins s σ H E I hf st hg => by
    subst hP hw hK
    obtain ⟨⟨old, he⟩, hit, hne⟩ := st
    obtain ⟨xs, hq, hx⟩ := hg
    obtain ⟨its, rv, p, hz⟩ := I.tuple hq
    obtain ⟨f0, f1, f2, f3, f4, f5⟩ := hf it (by simp)
    have pt : s.heap.IsTuple a its.toArray := p
    have hT : s.TypeIs (.ref e) "enumerate" := ⟨_, he, rfl⟩
    have hl := rv.length
    unfold pyNext
    refine wpAny_bind (wpAny_attempt (wpAny_callSpecial?_slot (name := Str.ofString "__next__") hT F.slot_enumerate_next
      (wpAny_call_entry F.slot_enumerate_next hT F.entry_enumerate_next ?_ (F.args_enumerate_next_1 _))))
    show wpAny _ _ (field (.ref e) 2 >>= _) _ _ _
    refine wpAny_bind (wpAny_field he rfl (x := .ref it) rfl ?_)
    refine wpAny_bind (wpAny_nextOf_tuple_end (I.ok.hd hc) hit pt (by simp; omega) fun h' y he' hy => ?_)
    obtain ⟨o, ho, hcl⟩ := hy
    exact wpAny_bind (wpAny_isInstance (T := "StopIteration") (b := true) ⟨o, ho, hcl⟩ isSubtype_stop (wpAny_pure ⟨rfl, I.turned (t' := s.toks) (fun b o hb q => he' b o hb q) f0 f1 f3 f4 f5⟩))
  self := fun A i s Q E st h => st.1.elim fun _ he => wpAny_pyIter_enum he h
def iEnumT (K : PySem.W.Frag) (ta : TA) : TI := fun σ H R => ta σ H fun vs H1 => ∃ a xs, vs = [.ref a] ∧ SqT K H1 a xs ∧ R (IteT K a) H1
theorem pi_enumT {X : Cx} {e : Expr} {ta : TA} {p pos tpos : Pos} {elts : List Expr} {kk : Nat} (hg : Gl X "enumerate") (hm : X.mg "enumerate" = none) (ha : PA X [e] ta) (hs : starEach [e] X.env = [(false, eval e X.env)] := by rfl) :
    PI X (.Tuple elts kk tpos) (.Call (.Name "enumerate" p) [e] [] pos) (iEnumT X.K ta) := ⟨fun pins s σ H R I h => by
  refine Call_ (ld_blt I hg hm boot_enumerate (PyProof.Rows.callWith_type1 (thn (ha.run pos pins s σ H _ I h) fun us s1 ⟨vs, H1, I1, r1, q1⟩ => ?_) hs rfl))
  obtain ⟨a, xs, ex, hq, q⟩ := q1
  subst ex
  rw [Vals.ref1 r1]
  obtain ⟨its, rv, pt, hz⟩ := I1.tuple hq
  refine enum1_begins (begins_tuple a its.toArray) pt fun h' he hit hsz hk => wpAny_pyIter_enum he ?_
  refine ⟨s1.heap.objs.size + 1, [s1.heap.objs.size + 1, s1.heap.objs.size], _, _, H1, rfl, I1.kept (t' := s1.toks) hk, turn_enumT a (s1.heap.objs.size + 1) s1.heap.objs.size, ⟨⟨.none, he⟩, ⟨_, hit, rfl, rfl⟩, Nat.succ_ne_self _⟩, fun b hb => ?_, q⟩
  have hle : s1.heap.objs.size ≤ b := by
    rcases List.mem_cons.mp hb with rfl | hb
    · exact Nat.le_succ _
    · rw [List.mem_singleton.mp hb]; exact Nat.le_refl _
  exact I1.fpOk hle (I1.hok.fresh hle)⟩
theorem walk_enumT {K : PySem.W.Frag} {a : Addr} {xs : List V} : Walk (IteT K a) xs.length (fun H => SqT K H a xs) (YPair (fun i => some (.int (i : Nat))) (fun i => xs[i]?)) :=
  ⟨fun i _ hi q => ⟨xs, xs[i], q, by simp [hi]⟩, fun _ q => ⟨xs, q, Nat.le_refl _⟩, fun i H v H' _ q ⟨T, x, h1, h2, h3, h4⟩ => ⟨T, .int (i : Nat), x, h1, h2, h3, rfl, h4 xs q⟩⟩
end Sw

set_option Elab.async false
set_option linter.all false
set_option maxRecDepth 100000
set_option maxHeartbeats 4000000
/-! Defs that ask that no repr is under way (they show data), sets as values, repr of data. -/
namespace Sw
open PySem PySem.Spec PyProof.Rows L2 Evl SW

/-! ### a def whose caller shows that nothing is being shown -/
structure FnG (P : Program) (w : World) (K : PySem.W.Frag) (mg : Str → Option Value) (base : Heap) (k : Nat) (f : Addr) (fd : FuncData) (ps : List Str) (sp : Sp) : Prop where
  len : ∀ vs H Q E, sp vs H Q E → vs.length = ps.length
  go : ∀ (A : Around) (outer : List Env) (s : Shared) (H : Hp) (args : Args) (us : List Value) (vs : List V) (Q : VK) (E : XK), Room k A ∧ A.guards = some [] → Env0 P w K mg base A outer s H → BindsTo s fd args (ps.zip us) → Vals vs us → sp vs H Q E →
    codeAny (model P w) A (.call (.ref f) args) (CR CX0 outer P w H s Q E) s
section
variable {P : Program} {w : World} {K : PySem.W.Frag} {mg : Str → Option Value} {base : Heap}
theorem fnG_of {k : Nat} {f : Addr} {name qual : Str} {params : Arguments} {body : List Stmt} {scope : Scope} {dV kV doc pm cdv ct oc : Value} {an od : Option Addr} {osl : Array (Option Value)} {N ps : List Str} {sp : Sp}
    (lk : K.lookup f = some ⟨oc, od, .func (PySem.W.fnOf name qual params body scope dV kV doc pm an cdv ct), osl⟩) (hcd : PySem.W.codeIn K cdv qual = true) (S : FnScope N ps scope) (len : ∀ vs H Q E, sp vs H Q E → vs.length = ps.length)
    (hb : ∀ (A : Around) (outer : List Env) (s : Shared) (H : Hp) (vs : List V) (Q : VK) (E : XK), Room k (A.deeper (envOfC qual scope s.heap.objs.size f cdv)) → A.guards = some [] → sp vs H Q E →
      ∃ t, PSs (cxOf CX0 P w K mg base N qual scope f cdv A outer s H E) body t ∧ t { nx := fun _ H' => Q .non H', rt := Q } (start N vs) H) :
    FnG P w K mg base (k + 1) f (PySem.W.fnOf name qual params body scope dV kV doc pm an cdv ct) ps sp where
  len := len
  go := fun A outer s H args us vs Q E ⟨hr, hg⟩ e0 hbd rv hsp => by
    have inK : K.In s.heap := e0.mod.kin.keeps fun b o z => (e0.bs b o z).1
    have nol : s.heap.NoLimit := e0.mod.nolimit.keeps fun b o z => (e0.bs b o z).1
    have kinds : ∀ y ∈ ps.zip us, scope.names.lookup y.1 = some .local ∨ (scope.names.lookup y.1 = some .cell ∧ ((cellsFrom (s.heap.objs.size + 1) scope.names []).lookup y.1).isSome = true) := by
      rintro ⟨n, v⟩ hy
      exact (S.par n (List.of_mem_zip hy).1).imp id fun z => ⟨z, PySem.W.cellsFrom_some _ _ _ (.inl z)⟩
    refine codeAny_call_function hr.depth (inK _ _ lk) rfl S.co S.gen rfl (PySem.W.codeRec_of inK hcd) (hbd _ _ _ _ (wpAny_newFunctionEnv_cells S.kind kinds fun env he s1 x => ?_))
    subst he
    obtain ⟨t, ht, hq⟩ := hb A outer s H vs Q E (hr.deeper _) hg hsp
    have I0 : Inv (cxOf CX0 P w K mg base N qual scope f cdv A outer s H E) [] (start N vs) H s1 := inv_start S hr.hd e0 (len _ _ _ _ hsp) rv x
    refine ⟨nol.keeps x.toInCall.keep, codeAny_func (wpAny_mono (ht.run [] s1 (start N vs) H _ I0 hq) (fun fl s' hs => ?_) fun e s' hs => hs)⟩
    cases fl with
    | ret u =>
      obtain ⟨v, σ', H', J, rv', q'⟩ := hs
      exact ⟨v, H', J.os, J.bare, J.base, J.hok, rv', q'⟩
    | next =>
      obtain ⟨σ', H', J, q'⟩ := hs
      exact ⟨.non, H', J.os, J.bare, J.base, J.hok, rfl, q'⟩
    | brk => exact hs.elim fun _ z => z.elim fun _ z => z.2.elim
    | cont => exact hs.elim fun _ z => z.elim fun _ z => z.2.elim
structure Fcg (P : Program) (w : World) (K : PySem.W.Frag) (mg : Str → Option Value) (base : Heap) (k : Nat) (x : Str) (ps : List Str) (sp : Sp) : Prop where
  ex : ∃ (f : Addr) (fd : FuncData), FnG P w K mg base k f fd ps sp ∧ mg x = some (.ref f) ∧ PySem.W.keepIn K (.ref f) = true ∧ ∀ (s : Shared) (us : List Value), us.length = ps.length → BindsTo s fd ⟨us, []⟩ (ps.zip us)
theorem mk_fg {x : Str} {st : Stmt} {N ps : List Str} {k : Nat} {sp : Sp} (D : DefAt K mg x st) (S : FnScope N ps (defScope st)) (hb : PosAll x st ps) (len : ∀ vs H Q E, sp vs H Q E → vs.length = ps.length)
    (body : ∀ (f : Addr) (cdv : Value) (A : Around) (outer : List Env) (s : Shared) (H : Hp) (vs : List V) (Q : VK) (E : XK), Room k (A.deeper (envOfC x (defScope st) s.heap.objs.size f cdv)) → A.guards = some [] → sp vs H Q E →
      ∃ t, PSs (cxOf CX0 P w K mg base N x (defScope st) f cdv A outer s H E).nox (defBody st) t ∧ t { nx := fun _ H' => Q .non H', rt := Q } (start N vs) H) : Fcg P w K mg base (k + 1) x ps sp := by
  obtain ⟨f, fd, F, hm⟩ := D.ex
  have hb2 := F.bindsA hb
  have hkp := F.kp
  obtain ⟨oc, od, dV, kV, doc, pm, an, cdv, ct, osl, rfl, lk, hcd, _, _⟩ := F.ex
  refine ⟨f, _, fnG_of lk hcd S len fun A outer s H vs Q E hr hg h => ?_, hm, hkp, hb2⟩
  obtain ⟨t, h1, h2⟩ := body f cdv A outer s H vs Q E hr hg h
  exact ⟨t, h1.nox, h2⟩
end
section
variable {X : Cx} {k j : Nat} {x : Str} {ps : List Str} {sp : Sp} {p pos : Pos} {e : Expr} {es : List Expr} {t : TA}
theorem pe_fg (c : Fcg X.prog X.w X.K X.mg X.base k x ps sp) (hr : Room j X.A) (hgd : X.A.guards = some []) (hk : k ≤ j) (hg : Gl X x) (ha : PA X (e :: es) t)
    (hdb : (x == ("__debug__" : Str)) = false := by decide) (he : starEach (e :: es) X.env = (false, eval e X.env) :: starEach es X.env := by rfl) (hpl : (backTo pos (starEach es X.env)).any (·.1) = false := by rfl) :
    PE X (.Call (.Name x p) (e :: es) [] pos) (tCall sp [] E0 t) := by
  obtain ⟨f, fd, F, hm, kp, hb⟩ := c.ex
  refine ⟨fun pins s σ H Q I h => wpAny_Call_Name_kw (ld_glob I hg hm (PySem.W.callWith_K (h₀ := X.base) I.ok.mod.kin kp (thn (ha.run pos pins s σ H _ I h) fun us s1 ⟨vs, H1, I1, r, q⟩ => ⟨I1.kIn, ?_⟩) he hpl) hdb)⟩
  have q : sp (vs ++ []) H1 Q E0 := q
  rw [List.append_nil] at q
  have hl : us.length = ps.length := r.length.symm.trans (F.len _ _ _ _ q)
  refine wpAny_call (codeAny_mono (F.go X.A X.stack s1 H1 ⟨us, []⟩ us vs Q E0 ⟨hr.mono hk, hgd⟩ I1.env0 (hb s1 us hl) r q) fun r' s' hq => ?_)
  cases r' with
  | error _ => exact hq.elim
  | ok fl =>
    cases fl with
    | ret u => exact I1.after hq
    | _ => exact hq.elim
/-- repr of data: its text hangs on the data alone -/
theorem call_reprD (hgd : X.A.guards = some []) (hr : Room j X.A) : CallR X (.builtin "repr") (fun xs H Q => ∃ (p : Addr) (d : PyData), xs = [.ref p] ∧ Dp X.K H (.ref p) d ∧ d.showable = true ∧ d.hasDict = false ∧ d.depth ≤ 100 ∧ d.shown.length ≤ sizeLine ∧ Q (.str d.shown) H) := fun pins s σ H xs us Q I r h => by
  obtain ⟨p, d, rfl, hd, h1, h2, h3, h4, q⟩ := h
  rw [Vals.ref1 r]
  obtain ⟨as, rd⟩ := Dp.reads I d _ _ hd (show RelV (.ref p) (.ref p) from rfl)
  have hu := hr.un
  exact repr_of_reads' rd h1 (fun z => by rw [h2] at z; cases z) hgd (by omega) (fun _ _ z => z) (fun h' u tk hk => ⟨.str d.shown, H, I.kept hk, ⟨u, rfl⟩, q⟩) h4
/-- the guards stand in the def's own context -/
theorem guards_in {A : Around} {env : Env} (h : A.guards = some []) : (A.deeper env).guards = some [] := h
end

/-! ### sets of ints as values -/
def AllI (ns : List Int) : Prop := ∀ a ∈ ns, ∀ b ∈ ns, a = b
/-- m tells how many unlike ones there are, as far as one asks -/
def Sz (ns : List Int) (m : Nat) : Prop := (m < 2 ↔ AllI ns) ∧ (m = 1 ↔ ns ≠ [] ∧ AllI ns)
theorem sz_of_nodup {ns ms : List Int} (nd : ms.Nodup) (h : ∀ k, k ∈ ms ↔ k ∈ ns) : Sz ns ms.length := by
  have key : ms.length < 2 ↔ AllI ns := by
    constructor
    · intro hl a ha b hb
      have ha := (h a).mpr ha
      have hb := (h b).mpr hb
      match ms, hl, ha, hb with
      | [], _, ha, _ => cases ha
      | [x], _, ha, hb =>
        rw [List.mem_singleton.mp ha, List.mem_singleton.mp hb]
    · intro hall
      match ms, nd, h with
      | [], _, _ => simp
      | [x], _, _ => simp
      | x :: y :: r, nd, h =>
        have e := hall x ((h x).mp (by simp)) y ((h y).mp (by simp))
        rw [e] at nd
        simp at nd
  refine ⟨key, ?_⟩
  constructor
  · intro e
    refine ⟨fun z => ?_, key.mp (by omega)⟩
    subst z
    match ms, e, h with
    | [x], _, h => exact nomatch (h x).mp (by simp)
  · rintro ⟨h1, h2⟩
    have l := key.mpr h2
    have : ms.length ≠ 0 := fun z => by
      have e := List.length_eq_zero_iff.mp z
      subst e
      cases ns with
      | nil => exact h1 rfl
      | cons a r => exact nomatch (h a).mpr (by simp)
    omega
theorem firstMet_mem (val : Nat → Int) : ∀ i, (firstMet val i).Nodup ∧ ∀ k, k ∈ firstMet val i ↔ ∃ j, j < i ∧ val j = k
  | 0 => ⟨by rw [firstMet_zero]; exact List.nodup_nil, fun k => by rw [firstMet_zero]; simp⟩
  | i + 1 => by
    obtain ⟨h1, h2⟩ := firstMet_mem val i
    rw [firstMet_succ]
    unfold step_dedup
    have hex : (∃ j, j < i + 1 ∧ val j = val i) := ⟨i, Nat.lt_succ_self i, rfl⟩
    by_cases c : (firstMet val i).any (· == val i) = true
    · rw [if_pos c]
      refine ⟨h1, fun k => ?_⟩
      rw [h2]
      constructor
      · rintro ⟨j, hj, e⟩; exact ⟨j, by omega, e⟩
      · rintro ⟨j, hj, e⟩
        by_cases hji : j = i
        · subst hji
          obtain ⟨y, hy, ey⟩ := List.any_eq_true.mp c
          have ey : y = val j := eq_of_beq ey
          rw [ey, e] at hy
          exact (h2 k).mp hy
        · exact ⟨j, by omega, e⟩
    · rw [if_neg c]
      have nm : val i ∉ firstMet val i := fun z => c (List.any_eq_true.mpr ⟨_, z, by simp⟩)
      refine ⟨List.nodup_append.mpr ⟨h1, by simp, fun a ha b hb => ?_⟩, fun k => ?_⟩
      · rw [List.mem_singleton.mp hb]
        exact fun e => nm (e ▸ ha)
      · rw [List.mem_append, h2, List.mem_singleton]
        constructor
        · rintro (⟨j, hj, e⟩ | e)
          · exact ⟨j, by omega, e⟩
          · exact ⟨i, Nat.lt_succ_self i, e.symm⟩
        · rintro ⟨j, hj, e⟩
          by_cases hji : j = i
          · subst hji; exact .inr e.symm
          · exact .inl ⟨j, by omega, e⟩
theorem met_mem (ns : List Int) (k : Int) : k ∈ firstMet (fun i => ns.getD i 0) ns.length ↔ k ∈ ns := by
  rw [(firstMet_mem _ _).2]
  constructor
  · rintro ⟨j, hj, e⟩
    rw [List.getD_eq_getElem?_getD, List.getElem?_eq_getElem hj] at e
    exact e ▸ List.getElem_mem hj
  · intro hk
    obtain ⟨j, hj, e⟩ := List.getElem_of_mem hk
    exact ⟨j, hj, by rw [List.getD_eq_getElem?_getD, List.getElem?_eq_getElem hj]; exact e⟩
def mem? (ns : List Int) : Int → Bool := fun k => decide (k ∈ ns)
section
variable {X : Cx}
/-- set(xs) of a list or tuple of ints -/
def rSetA (K : PySem.W.Frag) : List V → Hp → VK → Prop := fun xs H Q => ∃ (p : Addr) (ns : List Int), xs = [.ref p] ∧ (SqL K H p (ns.map V.int) ∨ SqT K H p (ns.map V.int)) ∧ ns.length ≤ 1000 ∧
  ∀ q m, H q = none → Sz ns m → Q (.ref q) (upd H q (.set (mem? ns) m))
theorem call_setA (hc : X.calm = true) : CallR X (.type "set") (rSetA X.K) := fun pins s σ H xs us Q I r h => by
  obtain ⟨p, ns, rfl, hs, hl, q⟩ := h
  rw [Vals.ref1 r]
  have hh := I.ok.hd hc
  rcases hs with hs | hs
  · obtain ⟨its, rv, pl, hz⟩ := I.list hs
    have hlen : its.toArray.size = ns.length := by rw [List.size_toArray, ← rv.length, List.length_map]
    refine call_set_list hh pl.isList (ns := ns) (by simpa using rv.ints) (by rw [hlen]; unfold scanBound; omega) fun h' tk hS hk => ?_
    rw [hlen] at hS
    have fr : H s.heap.objs.size = none := I.hok.fresh (Nat.le_refl _)
    have eS : (fun k' => (firstMet (fun i => ns.getD i 0) ns.length).any (· == k')) = mem? ns := by
      funext k
      unfold mem?
      rw [Bool.eq_iff_iff, decide_eq_true_eq, ← met_mem ns k, List.any_eq_true]
      exact ⟨fun ⟨y, hy, e⟩ => by rw [← eq_of_beq e]; exact hy, fun z => ⟨k, z, by simp⟩⟩
    rw [eS] at hS
    exact ⟨.ref s.heap.objs.size, _, I.laid (t' := tk) (fun b o e => hk b o (Heap.lt_size e) e) (Nat.le_refl _) (show ObjOk X.prog X.w _ _ _ (.set _ _) from hS), rfl, q _ _ fr (sz_of_nodup (firstMet_mem _ _).1 (met_mem ns))⟩
  · obtain ⟨its, rv, pt, hz⟩ := I.tuple hs
    have hi : IntsAre its.toArray.toList ns := by simpa using rv.ints
    refine call_set_tupI ns hh (show s.heap.IsTuple p its.toArray from pt) hi (by unfold scanBound; omega) fun h' tk c R hcn k => ?_
    have fr : H s.heap.objs.size = none := I.hok.fresh (Nat.le_refl _)
    have hS : h'.SetOf (intKind X.prog X.w) s.heap.objs.size (mem? ns) c := R.setOf
    obtain ⟨o, es, ep, t, _, _, _, _, nd, hm, _, _, hn, _⟩ := R
    have hsz : Sz ns c := by
      have e : c = (es.toList.map keyOf).length := by rw [List.length_map, Array.length_toList, hn]
      rw [e]
      exact sz_of_nodup nd fun j => by rw [← hm j, decide_eq_true_eq]
    exact ⟨.ref s.heap.objs.size, _, I.laid (t' := tk) k (Nat.le_refl _) (show ObjOk X.prog X.w _ _ _ (.set _ _) from hS), rfl, q _ _ fr hsz⟩
theorem call_lenS : CallR X (.builtin "len") (fun xs H Q => ∃ (p : Addr) (S : Int → Bool) (n : Nat), xs = [.ref p] ∧ H p = some (.set S n) ∧ Q (.int n) H) := fun pins s σ H xs us Q I r h => by
  obtain ⟨p, S, n, rfl, hp, q⟩ := h
  rw [Vals.ref1 r]
  obtain ⟨o, es, ep, t, ho, hex, hd, _, _, hlt, hf, hn⟩ := (show ObjOk X.prog X.w H s.heap p (.set S n) from I.hok p _ hp)
  refine call_len_set ho hex hd hf ?_ ⟨.int n, H, I.tok _, ⟨_, by rw [hn]⟩, q⟩
  unfold scanBound at hlt
  omega
end
end Sw

set_option Elab.async false
set_option linter.all false
set_option maxRecDepth 100000
set_option maxHeartbeats 4000000
namespace Sw
open PySem PySem.Spec PyProof.Rows L2 Evl SW
theorem entry_ne : entryFor table "set.__ne__" = some Builtin.«frozenset.__ne__» :=
  entryFor_alias (id' := "frozenset.__ne__") (by kernel_rfl) rfl (by decide +kernel) (by kernel_rfl)
theorem sub_fz : isSubtype (.type "set") (.type "frozenset") = pure false := by rw [isSubtype_type]; kernel_rfl
section
variable {prog : Program} {w : World} {A : Around} {E : Value → Shared → Prop} {s : Shared} {a b : Addr}
theorem isAny_ok {Q : Bool → Shared → Prop} (ha : s.TypeIs (.ref a) "set") (h : Q true s) : wpAny (model prog w) A (Builtin.Frozenset.isAnySet (.ref a)) Q E s := by
  unfold Builtin.Frozenset.isAnySet
  refine wpAny_bind (wpAny_isInstance ha sub_set_self ?_)
  exact wpAny_pure h
theorem size_ok {S : Int → Bool} {n : Nat} {Q : Nat → Shared → Prop} (ha : s.heap.SetOf (intKind prog w) a S n) (h : Q n s) : wpAny (model prog w) A (Builtin.Frozenset.sizeOf a) Q E s := by
  obtain ⟨o, es, ep, t, ho, _, hd, _, _, _, hf, hn⟩ := ha
  unfold Builtin.Frozenset.sizeOf setEntries
  refine wpAny_bind (wpAny_bind (wpAny_setState_of ho hd hf (wpAny_pure (wpAny_pure ?_))))
  show Q es.size s
  rw [hn]
  exact h
theorem quiet_ok {k : Int} {t : Tok} {Q : Bool → Shared → Prop} (h : Q true s) : wpAny (model prog w) A (Builtin.Frozenset.quietEq (.int k t)) Q E s := wpAny_pure h
theorem one_of {l : List (Int × Value)} (h : l.toArray.size = 1) : ∃ e, l = [e] := by
  match l, h with
  | [e], _ => exact ⟨e, rfl⟩
/-- a set of one int within another one that has it -/
theorem sub_ok {id : String} {k : Int} {S S' : Int → Bool} {Q : Bool → Shared → Prop} (ha : s.heap.SetOf (intKind prog w) a S 1) (hb : s.heap.SetOf (intKind prog w) b S' 1) (hS' : ∀ j, S' j = true ↔ j = k) (hS : ∀ j, S j = true ↔ j = k) (h : Q true s) :
    wpAny (model prog w) A (Builtin.Frozenset.subsetOf id a b) Q E s := by
  unfold Builtin.Frozenset.subsetOf
  refine wpAny_bind (size_ok ha (wpAny_bind (size_ok hb ?_)))
  rw [if_neg (by decide)]
  have hb0 := hb
  obtain ⟨o, ⟨l⟩, ep, t, ho, hex, hd, hel, hm, hlt, hf, hn⟩ := ha
  obtain ⟨o', ⟨l'⟩, ep', t', ho', hex', hd', hel', hm', hlt', hf', hn'⟩ := hb
  obtain ⟨e, rfl⟩ := one_of hn
  obtain ⟨e', rfl⟩ := one_of hn'
  obtain ⟨⟨k1, hk1, hh1⟩, hsc⟩ := hel e (by simp)
  obtain ⟨⟨k2, hk2, hh2⟩, hsc'⟩ := hel' e' (by simp)
  obtain ⟨hc, x⟩ := e
  obtain ⟨hc', x'⟩ := e'
  obtain ⟨t1, rfl⟩ := Value.isInt_shape (k := k1) (v := x) hk1
  obtain ⟨t2, rfl⟩ := Value.isInt_shape (k := k2) (v := x') hk2
  have ek : k1 = k := (hS k1).mp ((hm k1).mpr ⟨_, List.mem_singleton.mpr rfl, hk1⟩)
  subst ek
  refine wpAny_bind (wpAny_setEpoch_of ho hd hf ?_)
  unfold Builtin.Frozenset.walkUnseen setEntries
  refine wpAny_bind (wpAny_bind (wpAny_bind (wpAny_setState_of ho hd hf (wpAny_pure (wpAny_bind (wpAny_bind (wpAny_setState_of ho' hd' hf' (wpAny_pure ?_))))))))
  simp only [List.cons_append, List.nil_append, List.forIn_cons, List.forIn_nil]
  have fnd : ∀ {Q' : Option Nat → Shared → Prop}, (∀ i, Q' (some i) s) → wpAny (model prog w) A (setFind b (.int k1 t1) hc) Q' E s := fun {Q'} q => by
    have e : hc = (intKind prog w).hash k1 := hh1
    rw [e]
    refine wpAny_setFind_of hk1 rfl hb0 fun r hr => ?_
    rw [(hS' k1).mpr rfl] at hr
    obtain ⟨i, rfl⟩ := Option.isSome_iff_exists.mp hr
    exact q i
  have unch : ∀ {Q' : Unit → Shared → Prop}, Q' () s → wpAny (model prog w) A (Builtin.Frozenset.unchanged id a ep) Q' E s := fun {Q'} q => by
    unfold Builtin.Frozenset.unchanged
    refine wpAny_bind (wpAny_setEpoch_of ho hd hf ?_)
    rw [if_neg (by simp)]
    exact wpAny_pure q
  wp_walk using quiet_ok, fnd
  intro i
  simp only [Option.isNone_some, Bool.false_eq_true, if_false]
  refine wpAny_bind (unch ?_)
  wp_walk
  exact h
theorem ne_raw {k : Int} {S S' : Int → Bool} {Q : Value → Shared → Prop} (ha : s.heap.SetOf (intKind prog w) a S 1) (hb : s.heap.SetOf (intKind prog w) b S' 1) (hS : ∀ j, S j = true ↔ j = k) (hS' : ∀ j, S' j = true ↔ j = k) (h : Q (.bool false) s) :
    wpAny (model prog w) A (Builtin.«frozenset.__ne__» ⟨[.ref a, .ref b], []⟩) (fun fin s' => ∃ v, fin = .done (.ret v) ∧ Q v s') E s := by
  have ta := ha.typeIs
  have tb := hb.typeIs
  have hk : S k = true := (hS k).mpr rfl
  unfold Builtin.«frozenset.__ne__»
  wp_walk using isAny_ok tb, size_ok ha, size_ok hb, wpAny_isInstance ta sub_fz, sub_ok ha hb hS' hS
  exact ⟨_, rfl, h⟩
end
section
variable {X : Cx}
/-- a != b, both sets of the one int k -/
def rNeS : R2 := fun x y H Q => ∃ (a b : Addr) (S S' : Int → Bool) (k : Int), x = .ref a ∧ y = .ref b ∧ H a = some (.set S 1) ∧ H b = some (.set S' 1) ∧ (∀ j, S j = true ↔ j = k) ∧ (∀ j, S' j = true ↔ j = k) ∧ Q (.bl false) H
theorem op_neS (hr : X.A.units + 64 < cLine) : OpR X (compareOp .NotEq) rNeS := fun pins s σ H x y v u Q I rx ry h => by
  obtain ⟨a, b, S, S', k, rfl, rfl, ha, hb, h1, h2, q⟩ := h
  obtain rfl : v = .ref a := rx
  obtain rfl : u = .ref b := ry
  have A1 : s.heap.SetOf (intKind X.prog X.w) a S 1 := (show ObjOk X.prog X.w H s.heap a (.set S 1) from I.hok a _ ha)
  have B1 : s.heap.SetOf (intKind X.prog X.w) b S' 1 := (show ObjOk X.prog X.w H s.heap b (.set S' 1) from I.hok b _ hb)
  show wpAny _ _ (richCompare .NotEq (.ref a) (.ref b)) _ _ _
  refine wpAny_richCompare_same_room A1.typeIs B1.typeIs F.slot_set_ne (wpAny_call_entry F.slot_set_ne A1.typeIs entry_ne (ne_raw A1 B1 h1 h2 ⟨(fun z => nomatch z), .bl false, H, I, rfl, q⟩) (F.args_set_ne_2 _ _)) (by omega)
end
end Sw

set_option Elab.async false
set_option linter.all false
set_option maxRecDepth 100000
set_option maxHeartbeats 4000000
/-! A list comprehension of three clauses without tests: each clause's loop by one lemma. -/
namespace Sw
open PySem PySem.Spec PyProof.Rows L2 Evl SW
section
variable {prog : Program} {w : World} {A : Around} {R : Result → Shared → Prop} {s : Shared} {it acc : Value} {env : Env}
/-- what follows an item of a clause: body, then on -/
def Steps (e tg : Expr) (p : Pos) (d : Nat) (it acc : Value) (env : Env) (body : Sem Unit) : Prop :=
  compTurn e d it acc env = (do
    standAt p
    match ← pyNext it with
    | none => pure (.done .next)
    | some v =>
      letOwnedTupleGo tg it v
      assign tg env v
      body
      again (.compLoop e d it acc env))
theorem loop_by {elt tg : Expr} {gs : List Comprehension} {scope : Scope} {pos p : Pos} {d : Nat} {body : Sem Unit} (he : Steps (.ListComp elt gs scope pos) tg p d it acc env body) (W : Nat → Shared → Prop)
    (turn : ∀ n s, W n s → wpAny (model prog w) A (pyNext it) (fun r s1 => match r with
      | none => R (.ok .next) s1
      | some v => wpAny (model prog w) A (letOwnedTupleGo tg it v) (fun _ s2 => wpAny (model prog w) A (assign tg env v) (fun _ s3 =>
          wpAny (model prog w) A body (fun _ s4 => ∃ m, m < n ∧ W m s4) (fun _ _ => False) s3) (fun _ _ => False) s2) (fun _ _ => False) s1) (fun _ _ => False) s)
    (n : Nat) (h : W n s) : codeAny (model prog w) A (.compLoop (.ListComp elt gs scope pos) d it acc env) R s := by
  refine codeAny_loop rfl W (fun n s hW => ?_) n h
  show wpAny _ A ((compTurn (.ListComp elt gs scope pos) d it acc env).onRaise (fun x => do noteFrame x env; theTreesLotGoes x)) _ _ s
  refine wpAny_noted ?_
  rw [he]
  refine wpAny_bind (wpAny_standAt (wpAny_bind (wpAny_mono (turn n s hW) (fun r s1 h1 => ?_) fun _ _ z => z.elim)))
  cases r with
  | none => exact wpAny_pure h1
  | some v => exact wpAny_bind (thnF h1 fun _ s2 h2 => wpAny_bind (thnF h2 fun _ s3 h3 => wpAny_bind (thnF h3 fun _ s4 h4 => wpAny_pure ⟨rfl, h4⟩)))
/-- a clause behind the first begins -/
theorem start_by {elt : Expr} {gs : List Comprehension} {scope : Scope} {pos : Pos} {d : Nat} {g : Comprehension} (hg : gs[d]? = some g) (ha : (g.is_async != 0) = false) (h0 : codeAny (model prog w) A (.compLoop (.ListComp elt gs scope pos) d it acc env) R s)
    (h1 : wpAny (model prog w) A (pyIter it) (fun it' s' => codeAny (model prog w) A (.compLoop (.ListComp elt gs scope pos) d it' acc env) R s') (fun _ _ => False) s) : codeAny (model prog w) A (.compStart (.ListComp elt gs scope pos) d it acc env) R s := by
  refine codeAny_of_tree ?_
  show wpAny _ _ ((compStart (.ListComp elt gs scope pos) d it acc env).onRaise (fun x => do noteFrame x env; standAt theWindowsPlace)) _ _ s
  refine wpAny_notedAt ?_
  unfold compStart clausesOf
  dsimp only
  rw [hg]
  show wpAny _ _ (if (g.is_async != 0) = true then _ else _) _ _ s
  rw [ha, if_neg Bool.false_ne_true]
  show wpAny _ _ (ask >>= _) _ _ s
  refine wpAny_bind (wpAny_askSetting (wpAny_ite ?_))
  split
  · first
      | exact wpAny_bind (wpAny_pure (wpAny_pure ⟨rfl, h0⟩))
      | exact wpAny_pure ⟨rfl, h0⟩
  · have fin := thnF (E := notedBy (model prog w) A env fun x s' => R (.error x) s') h1 (Q' := fun it' s' => wpAny (model prog w) A (again (.compLoop (.ListComp elt gs scope pos) d it' acc env)) (fun fin s' => match fin with
      | .done f => R (.ok f) s'
      | .again c => c.quiet = true ∧ codeAny (model prog w) A c R s') (notedBy (model prog w) A env fun x s' => R (.error x) s') s') fun it' s' z => wpAny_pure ⟨rfl, z⟩
    first
      | exact wpAny_bind (wpAny_rule (wpAny_bind (wpAny_standAt (wpAny_bind fin))))
      | (refine wpAny_bind (wpAny_rule ?_); show wpAny _ _ (standAt g.iter.pos >>= _) _ _ s; exact wpAny_bind (wpAny_standAt (wpAny_bind fin)))
end

section
variable {elt t0 i0 t1 i1 t2 i2 : Expr} {scope : Scope} {pos : Pos} {it acc : Value} {env : Env}
def nextC (e iter : Expr) (d : Nat) (acc : Value) (env : Env) : Sem Unit := do
  let x ← eval iter env
  standAt iter.pos
  let x ← foldedSetIterable iter env x
  let _ ← runOwn (.compStart e d (← holding [x] (pyIter x)) acc env) env
theorem turn3_0 : Steps (.ListComp elt [⟨t0, i0, [], 0⟩, ⟨t1, i1, [], 0⟩, ⟨t2, i2, [], 0⟩] scope pos) t0 i0.pos 0 it acc env (nextC (.ListComp elt [⟨t0, i0, [], 0⟩, ⟨t1, i1, [], 0⟩, ⟨t2, i2, [], 0⟩] scope pos) i1 1 acc env) := by
  unfold Steps compTurn nextC
  simp
  refine bind_congr fun _ => bind_congr fun r => ?_
  cases r <;> rfl
theorem turn3_1 : Steps (.ListComp elt [⟨t0, i0, [], 0⟩, ⟨t1, i1, [], 0⟩, ⟨t2, i2, [], 0⟩] scope pos) t1 i1.pos 1 it acc env (nextC (.ListComp elt [⟨t0, i0, [], 0⟩, ⟨t1, i1, [], 0⟩, ⟨t2, i2, [], 0⟩] scope pos) i2 2 acc env) := by
  unfold Steps compTurn nextC
  simp
  refine bind_congr fun _ => bind_congr fun r => ?_
  cases r <;> rfl
theorem turn3_2 : Steps (.ListComp elt [⟨t0, i0, [], 0⟩, ⟨t1, i1, [], 0⟩, ⟨t2, i2, [], 0⟩] scope pos) t2 i2.pos 2 it acc env (do let _ ← call (.builtin "list.append") [acc, ← eval elt env]) := by
  unfold Steps compTurn
  simp
  refine bind_congr fun _ => bind_congr fun r => ?_
  cases r <;> rfl
end

/-! ### readings -/
def Keep (a b : L2.St) : Prop := b.length = a.length ∧ ∀ (j : Nat) (v : V), a[j]? = some (some v) → b[j]? = some (some v)
abbrev TB := L2.St → Hp → (Hp → Prop) → Prop
def tLoop (J : It) (g : TG) (body : TB) (σ0 : L2.St) (H : Hp) (Nx : Hp → Prop) : Prop :=
  ∃ W : Nat → Nat → Hp → Prop, (∃ m, W 0 m H) ∧ ∀ i m H, W i m H → (J.stop i H ∧ Nx H) ∨
    (J.go i H ∧ ∃ N1 : Hp → Prop, (∀ H', N1 H' → ∃ m', m' < m ∧ W (i + 1) m' H') ∧ ∀ x H', J.yld i H x H' → g x σ0 H' fun σ2 H2 => Keep σ0 σ2 ∧ body σ2 H2 N1)
def tMid (wi : TI) (g : TG) (vs : List Nat) (body : TB) : TB := fun σ H N => wi σ H fun J H1 => tLoop J g body (wipe σ vs) H1 N
def tEnd (te : TE) (D : Addr) : TB := fun σ H N => te σ H fun y H1 => ∃ acc, H1 D = some (.lst acc) ∧ acc.length < sizeLine ∧ N (upd H1 D (.lst (acc ++ [y])))
def tLc3 (wi : TI) (g : TG) (wi1 : TI) (g1 : TG) (wi2 : TI) (g2 : TG) (te : TE) (vs vs1 vs2 : List Nat) : TE := fun σ H Q => wi σ H fun J H1 => ∀ D, H1 D = none →
  tLoop J g (tMid wi1 g1 vs1 (tMid wi2 g2 vs2 (tEnd te D))) (wipe σ vs) (upd H1 D (.lst [])) fun H' => Q (.ref D) H'
theorem keep_wipe {σ : L2.St} {vs : List Nat} {a : L2.St} (h : Keep a σ) (hv : ∀ (j : Nat) (v : V), a[j]? = some (some v) → j ∉ vs) : Keep a (wipe σ vs) :=
  ⟨(wipe_length _ _).trans h.1, fun j v e => by rw [wipe_out (hv j v e)]; exact h.2 j v e⟩
section
variable {X : Cx} {s3 : Shared} {H3 : Hp} {scope : Scope} {ce : Env} {fp0 : List Addr} {R : Result → Shared → Prop}
/-- what a body does -/
def Body (B : Cx) (σ0 : L2.St) (tree : Sem Unit) (body : TB) : Prop := ∀ (pins : List (Addr × Obj)) (σ2 : L2.St) (s : Shared) (H : Hp) (N : Hp → Prop), Inv B pins σ2 H s → Keep σ0 σ2 → body σ2 H N →
  wpAny (model B.prog B.w) B.A tree (fun _ s' => ∃ σ9 H', Inv B pins σ9 H' s' ∧ Keep σ0 σ9 ∧ N H') (fun _ _ => False) s
/-- a clause's loop -/
theorem clause_loop {pins : List (Addr × Obj)} {σ0 : L2.St} {H : Hp} {s : Shared} {elt tg : Expr} {gs : List Comprehension} {pos p : Pos} {d : Nat} {it : Addr} {acc : Value} {fp : List Addr} {tn : Nat → Heap → Prop} {J : It} {g : TG} {body : TB} {tree : Sem Unit} {Nx : Hp → Prop}
    (hc : X.calm = true) (pg : PG (X.blk s3 H3 scope ce fp0) tg g) (T : Turn X.prog X.w X.K tg J fp it tn) (I0 : Inv (X.blk s3 H3 scope ce fp0) pins σ0 H s) (st : tn 0 s.heap) (f : ∀ b ∈ fp, FpOk (X.blk s3 H3 scope ce fp0) pins H b)
    (he : Steps (.ListComp elt gs scope pos) tg p d (.ref it) acc ce tree) (hb : Body (X.blk s3 H3 scope ce fp0) σ0 tree body)
    (hstop : ∀ H' s', Inv (X.blk s3 H3 scope ce fp0) pins σ0 H' s' → Nx H' → R (.ok .next) s') (h : tLoop J g body σ0 H Nx) :
    codeAny (model X.prog X.w) X.A (.compLoop (.ListComp elt gs scope pos) d (.ref it) acc ce) R s := by
  obtain ⟨W, ⟨m0, w0⟩, turn⟩ := h
  have ff : ∀ {H' : Hp}, (∀ b ∈ fp, H' b = none) → ∀ b ∈ fp, FpOk (X.blk s3 H3 scope ce fp0) pins H' b := fun hn b hb => ⟨hn b hb, (f b hb).2⟩
  refine loop_by he (fun n s' => ∃ i H', Inv (X.blk s3 H3 scope ce fp0) pins σ0 H' s' ∧ tn i s'.heap ∧ (∀ b ∈ fp, H' b = none) ∧ W i n H') ?_ m0 ⟨0, H, I0, st, fun b hb => (f b hb).1, w0⟩
  rintro n s5 ⟨i, H5, I5, st5, n5, w5⟩
  rcases turn i n H5 w5 with ⟨sp, nx⟩ | ⟨go, N1, hN, stp⟩
  · refine thnF (T.done (X.blk s3 H3 scope ce fp0) rfl rfl rfl hc i pins s5 σ0 H5 (fun _ _ => False) I5 (ff n5) st5 sp) fun r s6 ⟨hr, I6⟩ => ?_
    subst hr
    exact hstop H5 s6 I6 nx
  · refine thnF (T.item (X.blk s3 H3 scope ce fp0) rfl rfl rfl hc i pins s5 σ0 H5 (fun _ _ => False) I5 (ff n5) st5 go) fun r s6 ⟨u, hr, h6⟩ => ?_
    subst hr
    refine thnF h6 fun _ s7 ⟨x, H7, I7, r7, y7, st7, n7⟩ => ?_
    have I7' := I7.pinned (ff n7) (T.obj _ _ st7)
    refine thnF (pg.run _ s7 σ0 H7 x u _ I7' r7 (stp x H7 y7)) fun _ s8 ⟨σ8, H8, I8, k8, q8⟩ => ?_
    refine thnF (hb _ σ8 s8 H8 N1 I8 k8 q8) fun _ s9 ⟨σ9, H9, I9, k9, q9⟩ => ?_
    obtain ⟨m', hm, w'⟩ := hN H9 q9
    have pin : ∀ b ∈ fp, ∀ o, s7.heap.get? b = some o → s9.heap.get? b = some o ∧ H9 b = none := fun b hb o e =>
      have z := I9.pin (b, o) (List.mem_append_right _ (List.mem_append_right _ (mem_pinsAt hb e)))
      ⟨z.1, z.2.1⟩
    refine ⟨m', hm, i + 1, H9, (I9.unpinned (pins := pins)).weak k9.1.symm k9.2, T.keep _ _ _ st7 fun b hb o e => (pin b hb o e).1, fun b hb => ?_, w'⟩
    obtain ⟨o, e, _⟩ := T.obj _ _ st7 b hb
    exact (pin b hb o e).2
/-- the innermost body: the element is appended -/
theorem body_end {elt : Expr} {te : TE} {D : Addr} {σ0 : L2.St} (pe : PE (X.blk s3 H3 scope ce fp0) elt te) :
    Body (X.blk s3 H3 scope ce fp0) σ0 (do let _ ← call (.builtin "list.append") [.ref D, ← eval elt ce]) (tEnd te D) := fun pins σ2 s H N I k h => by
  refine wpAny_bind (thnF (pe.run pins s σ2 H _ I h) fun z s1 ⟨y, H1, I1, r1, acc, hD, hz, nx⟩ => ?_)
  exact wpAny_bind (app_ok (X := X.blk s3 H3 scope ce fp0) I1 hD hz r1 fun s2 I2 => wpAny_pure ⟨σ2, _, I2, k, nx⟩)
/-- a body that is the next clause -/
theorem body_mid {σ0 : L2.St} {elt tg iter : Expr} {gs : List Comprehension} {pos : Pos} {d : Nat} {acc : Value} {wi : TI} {g : TG} {vs : List Nat} {body : TB} {tree : Value → Sem Unit} {p : Pos}
    (hc : X.calm = true) (hs : ∀ env x, foldedSetIterable iter env x = pure x) (pi : PI (X.blk s3 H3 scope ce fp0) tg iter wi) (pg : PG (X.blk s3 H3 scope ce fp0) tg g) (hg : gs[d]? = some ⟨tg, iter, [], 0⟩)
    (he : ∀ it, Steps (.ListComp elt gs scope pos) tg p d it acc ce (tree it)) (hb : ∀ it σ, Keep σ0 σ → Body (X.blk s3 H3 scope ce fp0) (wipe σ vs) (tree it) body) (hv : ∀ (j : Nat) (v : V), σ0[j]? = some (some v) → j ∉ vs) :
    Body (X.blk s3 H3 scope ce fp0) σ0 (nextC (.ListComp elt gs scope pos) iter d acc ce) (tMid wi g vs body) := fun pins σ2 s H N I k h => by
  refine wpAny_bind (thnF (pi.run pins s σ2 H _ I h) fun xv s1 h1 => wpAny_bind (wpAny_standAt (wpAny_bind (wpAny_of_eq (hs ce xv) (wpAny_bind (wpAny_holding (thnF h1 fun itv s2 h2 => ?_)))))))
  obtain ⟨it, fp, tn, J, H2, rfl, I2, T, st2, f2, q⟩ := h2
  refine wpAny_bind (wpAny_runOwn ?_)
  rw [Around.mark_none]
  have lp : codeAny (model X.prog X.w) X.A (.compLoop (.ListComp elt gs scope pos) d (.ref it) acc ce) (fun r s' => match r with
      | .ok _ => ∃ σ9 H', Inv (X.blk s3 H3 scope ce fp0) pins σ9 H' s' ∧ Keep σ0 σ9 ∧ N H'
      | .error _ => False) s2 :=
    clause_loop hc pg T (I2.weak (wipe_length _ _) fun j v e => (wipe_some e).1) st2 f2 (he _) (hb _ σ2 k) (fun H' s' I' nx => ⟨_, H', I', keep_wipe k hv, nx⟩) q
  refine codeAny_mono (start_by hg rfl lp (T.self X.A 0 _ _ _ st2 lp)) fun r s' hr => ?_
  cases r with
  | ok f => first
      | exact wpAny_pure hr
      | exact wpAny_bind (wpAny_pure (wpAny_pure hr))
  | error e => exact hr.elim
end

section
variable {X : Cx}
abbrev Blk (X : Cx) (scope : Scope) (s : Shared) (H : Hp) (C : Addr) (cl : List (Str × Addr)) (fp : List Addr) : Cx := X.blk s H scope (compEnvC scope cl C X.env) fp
/-- [elt for t0 in i0 for t1 in i1 for t2 in i2] -/
theorem pe_lc3 {elt t0 i0 t1 i1 t2 i2 : Expr} {scope : Scope} {own : List (Str × Nat)} {vs1 vs2 : List Nat} {pos : Pos} {wi wi1 wi2 : TI} {g g1 g2 : TG} {te : TE} (hc : X.calm = true) (hN : X.N.Nodup) (hi : PI X t0 i0 wi) (ok : BlkOk X.N X.env.scope scope own)
    (hv1 : ∀ i ∈ vs1, i ∈ own.map (·.2)) (hv2 : ∀ i ∈ vs2, i ∈ own.map (·.2)) (hv12 : ∀ i ∈ vs2, i ∈ vs1)
    (hg : ∀ s H C cl fp, PG (Blk X scope s H C cl fp) t0 g) (_h0 : ∀ s H C cl fp, PTs (Blk X scope s H C cl fp) [] tYes)
    (hi1 : ∀ s H C cl fp, PI (Blk X scope s H C cl fp) t1 i1 wi1) (hg1 : ∀ s H C cl fp, PG (Blk X scope s H C cl fp) t1 g1) (_h1 : ∀ s H C cl fp, PTs (Blk X scope s H C cl fp) [] tYes)
    (hi2 : ∀ s H C cl fp, PI (Blk X scope s H C cl fp) t2 i2 wi2) (hg2 : ∀ s H C cl fp, PG (Blk X scope s H C cl fp) t2 g2) (_h2 : ∀ s H C cl fp, PTs (Blk X scope s H C cl fp) [] tYes)
    (he : ∀ s H C cl fp, PE (Blk X scope s H C cl fp) elt te)
    (hs : ∀ x, foldedSetIterable i0 X.env x = pure x := by intro _; rfl) (hs1 : ∀ env x, foldedSetIterable i1 env x = pure x := by intro _ _; rfl) (hs2 : ∀ env x, foldedSetIterable i2 env x = pure x := by intro _ _; rfl) :
    PE X (.ListComp elt [⟨t0, i0, [], 0⟩, ⟨t1, i1, [], 0⟩, ⟨t2, i2, [], 0⟩] scope pos) (tLc3 wi g wi1 g1 wi2 g2 te (own.map (·.2)) vs1 vs2) := ⟨fun pins s σ H Q I h => by
  have frees : ∀ y ∈ scope.names, y.2 = .free → ∃ c, X.env.cells.lookup y.1 = some c := fun y hy e => (ok.free y hy e).elim (fun z => I.ok.has _ (.inl z)) fun z => I.ok.has _ (.inr z)
  rw [eval_ListComp]
  refine wpAny_comprehension_free (use := none) rfl hs (closure_ok frees) ok.kind (fun y hy e => by rw [ok.uniq y hy, e]) (thn (hi.run pins s σ H _ I h) fun xv s1 hx => thn hx fun itv s2 ⟨it, fp, tn, J, H2, e, I2, T, st2, f2, q⟩ => ?_)
  subst e
  refine wpAny_newObj_type (newEnv_comp ?_) (by show 0 ≤ sizeLine; decide)
  have hDn : H2 s2.heap.objs.size = none := I2.hok.fresh (Nat.le_refl _)
  have q := q _ hDn
  generalize hs3 : ({ s2 with heap := s2.heap.push { cls := .type "list", data := .seq ([] : List Value).toArray } } : Shared) = s3
  have e3 : s3.heap = s2.heap.push { cls := .type "list", data := .seq ([] : List Value).toArray } := by rw [← hs3]
  generalize hDD : s2.heap.objs.size = D at q hDn hs3 ⊢
  have I3 : Inv X pins σ (upd H2 D (.lst [])) s3 := by
    rw [← hs3]
    refine I2.laid (t' := s2.toks) (fun b o z => Heap.get?_push_of_some _ z) (Nat.le_of_eq hDD) ⟨Nat.zero_le _, [], 0, .nil, ?_⟩
    rw [← hDD]
    exact Heap.get?_push_size _ rfl
  have below : ∀ b ∈ fp, b < s2.heap.objs.size := fun b hb => (T.obj _ _ st2 b hb).elim fun o z => Heap.lt_size z.1
  have f3 : ∀ b ∈ fp, FpOk X pins (upd H2 D (.lst [])) b ∧ b < s3.heap.objs.size := fun b hb => by
    have lt := below b hb
    have z := f2 b hb
    refine ⟨⟨?_, z.2⟩, by rw [e3, Heap.size_push]; exact Nat.lt_succ_of_lt lt⟩
    rw [upd_ne (by rw [← hDD]; exact Nat.ne_of_lt lt)]
    exact z.1
  have I4 := block_start I3 ok hN f3
  have cL : (compEnvC scope (cellsFrom (s3.heap.objs.size + 1) scope.names (cloFrom X.env.cells scope.names [])) s3.heap.objs.size X.env).locals = s3.heap.objs.size := rfl
  generalize hcl : cellsFrom (s3.heap.objs.size + 1) scope.names (cloFrom X.env.cells scope.names []) = cl at I4 cL ⊢
  generalize hs4 : ({ s3 with heap := pushCells (s3.heap.push { cls := .type "dict", data := .dict #[] }) scope.names } : Shared) = s4 at I4 ⊢
  have st3 : tn 0 s3.heap := T.keep _ _ _ st2 fun b _ o z => by rw [e3]; exact Heap.get?_push_of_some _ z
  have st4 : tn 0 s4.heap := T.keep _ _ _ st3 fun b _ o z => by rw [← hs4]; exact pushCells_keeps _ _ _ _ (Heap.get?_push_of_some _ z)
  have f4 : ∀ b ∈ fp, FpOk (Blk X scope s3 (upd H2 D (.lst [])) s3.heap.objs.size cl fp) [] (upd H2 D (.lst [])) b := fun b hb =>
    ⟨(f3 b hb).1.1, (I4.ok.exf b hb).1, I4.ok.exfs b hb, .inl hb, fun x c z => (I4.ok.exf b hb).2 x c z, fun p hp => nomatch (show p ∈ ([] : List (Addr × Obj)) from hp)⟩
  have known : ∀ {vs : List Nat}, (∀ i ∈ vs, i ∈ own.map (·.2)) → ∀ {a b : L2.St}, Keep (wipe σ (own.map (·.2))) a → ∀ (j : Nat) (v : V), (wipe σ (own.map (·.2)))[j]? = some (some v) → j ∉ vs := fun hv _ _ _ j v z hm => (wipe_some z).2 (hv j hm)
  show codeAny _ _ (.compStart (.ListComp elt [⟨t0, i0, [], 0⟩, ⟨t1, i1, [], 0⟩, ⟨t2, i2, [], 0⟩] scope pos) 0 (.ref it) (.ref D) (compEnvC scope cl s3.heap.objs.size X.env)) (compPost (model X.prog X.w) X.A X.xe none _ (.ref D) s3.heap.objs.size) s4
  have lp : codeAny (model X.prog X.w) X.A (.compLoop (.ListComp elt [⟨t0, i0, [], 0⟩, ⟨t1, i1, [], 0⟩, ⟨t2, i2, [], 0⟩] scope pos) 0 (.ref it) (.ref D) (compEnvC scope cl s3.heap.objs.size X.env)) (compPost (model X.prog X.w) X.A X.xe none (EP X pins σ Q) (.ref D) s3.heap.objs.size) s4 := by
    refine clause_loop (X := X) (s3 := s3) (H3 := upd H2 D (.lst [])) (fp0 := fp) hc (hg s3 _ _ cl fp) T I4 st4 f4 turn3_0 ?_ ?_ q
    · refine body_mid (d := 1) hc hs1 (hi1 s3 _ _ cl fp) (hg1 s3 _ _ cl fp) rfl (fun _ => turn3_1) (fun _ σ9 k9 => ?_) fun j v z hm => (wipe_some z).2 (hv1 j hm)
      refine body_mid (d := 2) hc hs2 (hi2 s3 _ _ cl fp) (hg2 s3 _ _ cl fp) rfl (fun _ => turn3_2) (fun _ σ8 k8 => body_end (he s3 _ _ cl fp)) fun j v z hm => (wipe_some z).2 (hv12 j hm)
    · intro H' s' I' qq
      have I7 : Inv X pins σ H' s' := I3.call' (ch := fp) I'.os I'.base I'.hok I'.bare fun b hb => ⟨(f3 b hb).1.2.2.2.1, (f3 b hb).1.2.1, (f3 b hb).1.2.2.2.2.1, (f3 b hb).1.2.2.2.2.2⟩
      have nC : H' s3.heap.objs.size = none := I'.free
      obtain ⟨m, hn, _⟩ := I'.loc
      obtain ⟨f0, f1, f2', f3', f4', f5⟩ := I3.fpOk (Nat.le_refl _) nC
      exact ⟨m, hn, fun h'' sb => ⟨.ref D, H', I7.turned (t' := s'.toks) (fun b o hb z => (sb.2 b hb).trans z) f0 f1 f3' f4' f5, rfl, qq⟩⟩
  exact codeAny_compStart_list lp (T.self X.A 0 _ _ _ st4 lp)⟩
end
end Sw

set_option Elab.async false
set_option linter.all false
set_option maxRecDepth 100000
set_option maxHeartbeats 4000000
/-! More of what evaluates to what. -/
namespace Sw
open PySem PySem.Spec PyProof.Rows L2 Evl SW
/-- it is no list that stands in H -/
def Nw (H : Hp) (v : V) : Prop := ∀ a, v = .ref a → ∀ xs, H a ≠ some (.lst xs)
theorem nw_int (H : Hp) (i : Int) : Nw H (.int i) := fun _ e => nomatch e
theorem nw_bl (H : Hp) (b : Bool) : Nw H (.bl b) := fun _ e => nomatch e
theorem nw_new {H : Hp} {p : Addr} (h : H p = none) : Nw H (.ref p) := fun a e xs z => by cases e; rw [h] at z; cases z
theorem nw_tup {H : Hp} {p : Addr} {ys : List V} (h : H p = some (.tup ys)) : Nw H (.ref p) := fun a e xs z => by cases e; rw [h] at z; cases z
/-- it evaluates to something of which P holds -/
def EvP (te : TE) (σ : L2.St) (H : Hp) (P : V → Hp → Prop) : Prop := ∀ H1, Ex H H1 → ∀ Q : VK, (∀ v H2, Ex H1 H2 → Nw H1 v → P v H2 → Q v H2) → te σ H1 Q
def IsLst (xs : List V) : V → Hp → Prop := fun v H => ∃ p, v = .ref p ∧ H p = some (.lst xs)
def IsTupV (xs : List V) : V → Hp → Prop := fun v H => ∃ p, v = .ref p ∧ H p = some (.tup xs)
/-- what it walks: J, whatever else comes -/
def EvI (wi : TI) (σ : L2.St) (H : Hp) (J : It) (G : Hp → Prop) : Prop := ∀ H1, Ex H H1 → ∀ R : It → Hp → Prop, (∀ H2, Ex H1 H2 → G H2 → R J H2) → wi σ H1 R
section
variable {K : PySem.W.Frag} {σ : L2.St} {H H' : Hp} {ta tb tc te tx : TE} {t u : TT} {x y z v : V} {r : R2} {P : V → Hp → Prop}
theorem EvP.mono (e : Ex H H') (h : EvP te σ H P) : EvP te σ H' P := fun H1 a Q q => h H1 (e.trans a) Q q
theorem ep_of (h : Ev te σ H v) (hn : ∀ H1, Ex H H1 → Nw H1 v) (hp : ∀ H1, Ex H H1 → P v H1) : EvP te σ H P := fun H1 e Q q => h H1 e Q fun H2 e2 => q v H2 e2 (hn H1 e) (hp H2 (e.trans e2))
theorem ep_int {i : Int} (h : Ev te σ H (.int i)) : EvP te σ H fun v _ => v = .int i := ep_of h (fun H1 _ => nw_int H1 i) fun _ _ => rfl
theorem ep_bl {i : Bool} (h : Ev te σ H (.bl i)) : EvP te σ H fun v _ => v = .bl i := ep_of h (fun H1 _ => nw_bl H1 i) fun _ _ => rfl
theorem ep_U {xs : List V} (h : EvU te σ H xs) (hp : ∀ p H1, Ex H H1 → H1 p = some (.tup xs) → P (.ref p) H1) : EvP te σ H P := fun H1 e Q q => h H1 e Q fun p H2 hn e2 h2 => q _ H2 e2 (nw_new hn) (hp p H2 (e.trans e2) h2)
theorem ep_L {xs : List V} (h : EvL te σ H xs) (hp : ∀ p H1, Ex H H1 → H1 p = some (.lst xs) → P (.ref p) H1) : EvP te σ H P := fun H1 e Q q => h H1 e Q fun p H2 hn e2 h2 => q _ H2 e2 (nw_new hn) (hp p H2 (e.trans e2) h2)
theorem ei_range1 {ta : TA} {n : Int} (h : EvA ta σ H [.int n]) (hn : 0 ≤ n ∧ n ≤ 40000) : EvI (iRng1 ta) σ H (Itr 0 n.toNat) fun _ => True := fun H1 e R q => h H1 e _ fun H2 e2 => ⟨n, rfl, by omega, by omega, q H2 e2 trivial⟩
theorem ei_range2 {ta : TA} {lo n : Int} (h : EvA ta σ H [.int lo, .int n]) (hn : 0 ≤ lo ∧ lo ≤ 40000 ∧ -40000 ≤ n ∧ n ≤ 40000) : EvI (iRng2 ta) σ H (Itr lo (n - lo).toNat) fun _ => True := fun H1 e R q => h H1 e _ fun H2 e2 => ⟨lo, n, rfl, ⟨by omega, by omega, by omega, by omega⟩, q H2 e2 trivial⟩
theorem ei_rng {a : Addr} {lo hi : Int} (h : Ev te σ H (.ref a)) (ha : H a = some (.rng lo hi)) (hn : 0 ≤ lo ∧ lo ≤ 40000 ∧ -40000 ≤ hi ∧ hi ≤ 40000) : EvI (iRngO te) σ H (Itr lo (hi - lo).toNat) fun _ => True := fun H1 e R q => h H1 e _ fun H2 e2 =>
  ⟨a, lo, hi, rfl, (e.trans e2) a _ ha, ⟨by omega, by omega, by omega, by omega⟩, q H2 e2 trivial⟩
theorem ei_list {a : Addr} {xs : List V} (h : Ev te σ H (.ref a)) (ha : SqL K H a xs) : EvI (iList K te) σ H (Itl K a) fun H => SqL K H a xs := fun H1 e R q => h H1 e _ fun H2 e2 => ⟨a, rfl, ⟨xs, ex_l (e.trans e2) ha⟩, q H2 e2 (ex_l (e.trans e2) ha)⟩
theorem ei_tup {a : Addr} {xs : List V} (h : Ev te σ H (.ref a)) (ha : SqT K H a xs) : EvI (iTup K te) σ H (Itt K a) fun H => SqT K H a xs := fun H1 e R q => h H1 e _ fun H2 e2 => ⟨a, rfl, ⟨xs, ex_t (e.trans e2) ha⟩, q H2 e2 (ex_t (e.trans e2) ha)⟩
theorem ei_enumT {a : Addr} {xs : List V} {ta : TA} (h : EvA ta σ H [.ref a]) (ha : SqT K H a xs) : EvI (iEnumT K ta) σ H (IteT K a) fun H => SqT K H a xs := fun H1 e R q => h H1 e _ fun H2 e2 => ⟨a, xs, rfl, ex_t (e.trans e2) ha, q H2 e2 (ex_t (e.trans e2) ha)⟩

/-! ### comprehensions over anything that is walked -/
/-- the kept places -/
def kept (n : Nat) (f : Nat → Bool) : List Nat := (List.range n).filter f
theorem kept_yes {n : Nat} {f : Nat → Bool} (h : f n = true) : kept (n + 1) f = kept n f ++ [n] := by
  unfold kept
  rw [List.range_succ, List.filter_append, List.filter_cons, if_pos h] <;> rfl
theorem kept_no {n : Nat} {f : Nat → Bool} (h : f n = false) : kept (n + 1) f = kept n f := by
  unfold kept
  rw [List.range_succ, List.filter_append, List.filter_cons, if_neg (by rw [h]; decide)]
  exact List.append_nil _
theorem kept_len (n : Nat) (f : Nat → Bool) : (kept n f).length ≤ n := by
  unfold kept
  have h := List.length_filter_le f (List.range n)
  rw [List.length_range] at h
  exact h
theorem paired_append {α β : Type} {F : α → β → Prop} : ∀ {a b : List α} {c d : List β}, Paired F a c → Paired F b d → Paired F (a ++ b) (c ++ d)
  | _, _, _, _, .nil, s => s
  | _, _, _, _, .cons r t, s => .cons r (paired_append t s)
/-- what has been made of the kept places -/
def Made (P : Nat → V → Hp → Prop) (is : List Nat) (xs : List V) (H : Hp) : Prop := Paired (fun i v => P i v H) is xs
theorem Made.mono {P : Nat → V → Hp → Prop} {is : List Nat} {xs : List V} (hm : ∀ i v, P i v H → P i v H') (h : Made P is xs H) : Made P is xs H' := Paired.mapP h fun i v => hm i v
/-- one turn: the target takes its item, the test says f, the element is of P -/
def TurnP (g : TG) (t : TT) (te : TE) (vs : List Nat) (σ : L2.St) (x : V) (H : Hp) (b : Bool) (P : V → Hp → Prop) : Prop :=
  ∀ k : L2.St → Hp → Prop, (∀ σ2, wipe σ2 vs = wipe σ vs → EvT t σ2 H b → (b = true → EvP te σ2 H P) → k σ2 H) → g x (wipe σ vs) H k
/-- P hangs on what is tracked, and not on the lists but the thing's own -/
structure Stb (P : Nat → V → Hp → Prop) : Prop where
  ex : ∀ i v H1 H2, Ex H1 H2 → P i v H1 → P i v H2
  up : ∀ i v H D xs ys, H D = some (.lst xs) → v ≠ .ref D → P i v H → P i v (upd H D (.lst ys))
theorem stb_eq (f : Nat → V) : Stb fun i v _ => v = f i := ⟨fun _ _ _ _ _ h => h, fun _ _ _ _ _ _ _ _ h => h⟩
theorem stb_tup (f : Nat → List V) : Stb fun i v H => ∃ p, v = .ref p ∧ H p = some (.tup (f i)) :=
  ⟨fun i v H1 H2 e ⟨p, h1, h2⟩ => ⟨p, h1, e p _ h2⟩, fun i v H D xs ys hD hv ⟨p, h1, h2⟩ => ⟨p, h1, by rw [upd_ne (fun z => hv (by rw [h1, z]))]; exact h2⟩⟩
theorem stb_lst (f : Nat → List V) : Stb fun i v H => ∃ p, v = .ref p ∧ H p = some (.lst (f i)) :=
  ⟨fun i v H1 H2 e ⟨p, h1, h2⟩ => ⟨p, h1, e p _ h2⟩, fun i v H D xs ys hD hv ⟨p, h1, h2⟩ => ⟨p, h1, by rw [upd_ne (fun z => hv (by rw [h1, z]))]; exact h2⟩⟩
theorem el_lcW {wi : TI} {g : TG} {vs : List Nat} {J : It} {n : Nat} {G : Hp → Prop} {Y : Nat → Hp → V → Hp → Prop} (f : Nat → Bool) (P : Nat → V → Hp → Prop) (sP : Stb P) (w : Walk J n G Y) (hi : EvI wi σ H J G) (hn : n ≤ 40000) (hG : ∀ H1 H2, Ex H1 H2 → G H1 → G H2)
    (hy : ∀ i x H1 H2, i < n → Ex H H1 → Y i H1 x H2 → Ex H1 H2 ∧ TurnP g t te vs σ x H2 (f i) (P i)) :
    ∀ H0, Ex H H0 → ∀ Q : VK, (∀ p xs H2, H0 p = none → Ex H0 H2 → H2 p = some (.lst xs) → Made P (kept n f) xs H2 → Q (.ref p) H2) → tLc wi g t te vs σ H0 Q := fun H0 e0 Q q => hi H0 e0 _ fun H1 e1 g1 D hD => by
  refine lc_it w (fun i H' => Ex H1 H' ∧ ∃ xs, H' D = some (.lst xs) ∧ Paired (fun i v => P i v H' ∧ v ≠ .ref D) (kept i f) xs) ⟨Ex.new hD, [], upd_same, .nil⟩ (fun i H' _ p => hG _ _ p.1 g1) (fun i x H' H'' hlt p y => ?_) fun H' ⟨ex, xs, hx, m⟩ => q D xs H' (fresh_back e1 hD) (e1.trans ex) hx (Paired.mapP m fun _ _ z => z.1)
  obtain ⟨ex, xs, hx, m⟩ := p
  obtain ⟨ex2, tp⟩ := hy i x H' H'' hlt ((e0.trans e1).trans ex) y
  refine tp _ fun σ2 hw ht he => ⟨hw, ht H'' (Ex.refl _) _ fun H3 ex3 => ?_⟩
  have e3 : Ex H' H3 := ex2.trans ex3
  cases hf : f i with
  | true =>
    refine iteT (he hf H3 ex3 _ fun v H4 ex4 nv hv => ⟨xs, ex4 D _ (e3 D _ hx), ?_, Ex.mut ((ex.trans e3).trans ex4) hD, xs ++ [v], upd_same, ?_⟩)
    · have l : (kept i f).length = xs.length := Paired.length m
      have := kept_len i f
      exact sz_lt (by omega)
    · rw [kept_yes hf]
      have hD4 := ex4 D _ (e3 D _ hx)
      have nvD : v ≠ .ref D := fun z => nv D z _ (e3 D _ hx)
      exact paired_append (Paired.mapP m fun j u z => ⟨sP.up _ _ _ _ _ _ hD4 z.2 (sP.ex _ _ _ _ (e3.trans ex4) z.1), z.2⟩) (.cons ⟨sP.up _ _ _ _ _ _ hD4 nvD hv, nvD⟩ .nil)
  | false =>
    refine iteF ⟨ex.trans e3, xs, e3 D _ hx, ?_⟩
    rw [kept_no hf]
    exact Paired.mapP m fun j u z => ⟨sP.ex _ _ _ _ e3 z.1, z.2⟩
/-- what is made of known values -/
theorem made_eq {f : Nat → V} : ∀ {is : List Nat} {xs : List V}, Made (fun i v _ => v = f i) is xs H → xs = is.map f
  | [], _, .nil => rfl
  | i :: is, v :: xs, .cons r t => by
    have e := made_eq t
    have r : v = f i := r
    rw [e, r]
    rfl
/-- a target that is a name -/
theorem turn_name {j : Nat} {vs : List Nat} {b : Bool} (hw : ∀ x, wipe ((wipe σ vs).set j (some x)) vs = wipe σ vs) (ht : EvT t ((wipe σ vs).set j (some x)) H b) (he : b = true → EvP te ((wipe σ vs).set j (some x)) H P) : TurnP (gName j) t te vs σ x H b P :=
  fun k hk => hk _ (hw x) ht he
theorem et_yes : EvT tYes σ H true := fun H1 _ Q q => q H1 (Ex.refl H1)

/-- one loop over what is walked, by what holds at each turn -/
theorem lp_it {J : It} {n : Nat} {G : Hp → Prop} {Y : Nat → Hp → V → Hp → Prop} {body : V → Hp → (Hp → Prop) → Prop} {Nx : Hp → Prop} {H0 : Hp} (w : Walk J n G Y) (Pv : Nat → Hp → Prop) (h0 : Pv 0 H0) (hG : ∀ i H, i ≤ n → Pv i H → G H)
    (hs : ∀ i x H H', i < n → Pv i H → Y i H x H' → body x H' (Pv (i + 1))) (hd : ∀ H, Pv n H → Nx H) :
    ∃ W : Nat → Nat → Hp → Prop, (∃ m, W 0 m H0) ∧ ∀ i m H, W i m H → (J.stop i H ∧ Nx H) ∨ (J.go i H ∧ ∃ N1 : Hp → Prop, (∀ H', N1 H' → ∃ m', m' < m ∧ W (i + 1) m' H') ∧ ∀ x H', J.yld i H x H' → body x H' N1) := by
  refine ⟨fun i m H => m = n - i ∧ i ≤ n ∧ Pv i H, ⟨n, rfl, Nat.zero_le _, h0⟩, ?_⟩
  rintro i m H ⟨rfl, hi, p⟩
  have gq := hG i H hi p
  by_cases lt : i < n
  · exact .inr ⟨w.goes i H lt gq, Pv (i + 1), fun H' p' => ⟨n - (i + 1), by omega, rfl, lt, p'⟩, fun x H' y => hs i x H H' lt p (w.yields i H x H' lt gq y)⟩
  · have e : i = n := by omega
    subst e
    exact .inl ⟨w.stops H gq, hd H p⟩
/-- the inner clause of a turn: what it walks, and that each element is as said -/
def InnerE (wi1 : TI) (g1 : TG) (vs1 : List Nat) (σ2 : L2.St) (H : Hp) (m : Nat) (fv : Nat → V) (el : Nat → L2.St → Prop) : Prop :=
  ∃ J1 : It, EvI wi1 σ2 H J1 (fun _ => True) ∧ Walk J1 m (fun _ => True) (YFn fv) ∧ ∀ j, j < m → ∀ (H3 : Hp) (k1 : L2.St → Hp → Prop), (∀ σ3, wipe σ3 vs1 = wipe σ2 vs1 → el j σ3 → k1 σ3 H3) → g1 (fv j) (wipe σ2 vs1) H3 k1
/-- [.. for .. in .. for .. in ..] all of whose elements are True -/
theorem el_lc2T {wi wi1 : TI} {g g1 : TG} {vs vs1 : List Nat} {J : It} {n : Nat} {fv0 : Nat → V} (w : Walk J n (fun _ => True) (YFn fv0)) (hi : EvI wi σ H J (fun _ => True)) (hn : n ≤ 100)
    (hy : ∀ i, i < n → ∀ (H2 : Hp) (k : L2.St → Hp → Prop), (∀ σ2, wipe σ2 vs = wipe σ vs → (∃ m fv, m ≤ 100 ∧ InnerE wi1 g1 vs1 σ2 H m fv fun _ σ3 => Ev te σ3 H (.bl true)) → k σ2 H2) → g (fv0 i) (wipe σ vs) H2 k) :
    ∀ H0, Ex H H0 → ∀ Q : VK, (∀ p k H2, H0 p = none → Ex H0 H2 → H2 p = some (.lst (List.replicate k (V.bl true))) → Q (.ref p) H2) → tLc2 wi g tYes wi1 g1 tYes te vs vs1 σ H0 Q := fun H0 e0 Q q => hi H0 e0 _ fun H1 e1 _ D hD => by
  refine lp_it w (body := fun x H' N1 => g x (wipe σ vs) H' fun σ2 H2 => wipe σ2 vs = wipe σ vs ∧ wi1 σ2 H2 fun J1 H4 => ∃ W1 : Nat → Nat → Hp → Prop, (∃ m, W1 0 m H4) ∧ ∀ j k H, W1 j k H →
      (J1.stop j H ∧ N1 H) ∨ (J1.go j H ∧ ∃ Nx1 : Hp → Prop, (∀ H', Nx1 H' → ∃ k', k' < k ∧ W1 (j + 1) k' H') ∧ ∀ x H', J1.yld j H x H' → g1 x (wipe σ2 vs1) H' fun σ3 H5 => wipe σ3 vs1 = wipe σ2 vs1 ∧
        te σ3 H5 fun y H7 => ∃ acc, H7 D = some (.lst acc) ∧ acc.length < sizeLine ∧ Nx1 (upd H7 D (.lst (acc ++ [y])))))
    (fun i H' => Ex H1 H' ∧ ∃ k, k ≤ 100 * i ∧ H' D = some (.lst (List.replicate k (V.bl true)))) ⟨Ex.new hD, 0, Nat.zero_le _, upd_same⟩ (fun _ _ _ _ => trivial) (fun i x H' H'' hlt p y => ?_) fun H' ⟨ex, k, _, hx⟩ => q D k H' (fresh_back e1 hD) (e1.trans ex) hx
  obtain ⟨ex, k, hk, hx⟩ := p
  obtain ⟨rfl, rfl⟩ := y
  refine hy i hlt H'' _ fun σ2 hw ⟨m, fv, hm, J1, hi1, w1, hb⟩ => ⟨hw, hi1 H'' ((e0.trans e1).trans ex) _ fun H4 ex4 _ => ?_⟩
  refine lp_it w1 (body := fun x H' N1 => g1 x (wipe σ2 vs1) H' fun σ3 H5 => wipe σ3 vs1 = wipe σ2 vs1 ∧ te σ3 H5 fun y H7 => ∃ acc, H7 D = some (.lst acc) ∧ acc.length < sizeLine ∧ N1 (upd H7 D (.lst (acc ++ [y]))))
    (fun j H' => Ex H1 H' ∧ ∃ k, k ≤ 100 * i + j ∧ H' D = some (.lst (List.replicate k (V.bl true)))) ⟨ex.trans ex4, k, by omega, ex4 D _ hx⟩ (fun _ _ _ _ => trivial) (fun j x H5 H6 hj p5 y5 => ?_) fun H5 ⟨e5, k5, h5, d5⟩ => ⟨e5, k5, by omega, d5⟩
  obtain ⟨e5, k5, h5, d5⟩ := p5
  obtain ⟨rfl, rfl⟩ := y5
  refine hb j hj H6 _ fun σ3 hw3 he => ⟨hw3, he H6 ((e0.trans e1).trans e5) _ fun H7 e7 => ⟨_, e7 D _ d5, ?_, Ex.mut (e5.trans e7) hD, k5 + 1, by omega, ?_⟩⟩
  · rw [List.length_replicate]
    exact sz_lt (by have : i ≤ 100 := by omega
                    have : j ≤ 100 := by omega
                    omega)
  · rw [upd_same, List.replicate_succ']
/-- [(..) for .. in .. for .. in .. for .. in ..]: tuples of known values -/
theorem el_lc3 {wi wi1 wi2 : TI} {g g1 g2 : TG} {vs vs1 vs2 : List Nat} {J : It} {n : Nat} {fv0 : Nat → V} {m1 : Nat → Nat} {m2 : Nat → Nat → Nat} {f1 : Nat → Nat → V} {f2 : Nat → Nat → Nat → V} {el : Nat → Nat → Nat → List V} (w : Walk J n (fun _ => True) (YFn fv0)) (hi : EvI wi σ H J (fun _ => True))
    (hn : n ≤ 20) (hn1 : ∀ i, m1 i ≤ 20) (hn2 : ∀ i j, m2 i j ≤ 20)
    (hy : ∀ i, i < n → ∀ (H2 : Hp) (k : L2.St → Hp → Prop), (∀ σ2, Keep (wipe σ vs) σ2 → (∃ J1 : It, EvI wi1 σ2 H J1 (fun _ => True) ∧ Walk J1 (m1 i) (fun _ => True) (YFn (f1 i)) ∧ ∀ j, j < m1 i → ∀ (H3 : Hp) (k1 : L2.St → Hp → Prop),
      (∀ σ3, Keep (wipe σ2 vs1) σ3 → (∃ J2 : It, EvI wi2 σ3 H J2 (fun _ => True) ∧ Walk J2 (m2 i j) (fun _ => True) (YFn (f2 i j)) ∧ ∀ l, l < m2 i j → ∀ (H4 : Hp) (k2 : L2.St → Hp → Prop),
        (∀ σ4, Keep (wipe σ3 vs2) σ4 → EvU te σ4 H (el i j l) → k2 σ4 H4) → g2 (f2 i j l) (wipe σ3 vs2) H4 k2) → k1 σ3 H3) → g1 (f1 i j) (wipe σ2 vs1) H3 k1) → k σ2 H2) → g (fv0 i) (wipe σ vs) H2 k) :
    ∀ H0, Ex H H0 → ∀ Q : VK, (∀ p xs H2, H0 p = none → Ex H0 H2 → H2 p = some (.lst xs) →
      Paired (fun c v => ∃ t, v = V.ref t ∧ H2 t = some (.tup c)) ((List.range n).flatMap fun i => (List.range (m1 i)).flatMap fun j => (List.range (m2 i j)).map fun l => el i j l) xs → Q (.ref p) H2) → tLc3 wi g wi1 g1 wi2 g2 te vs vs1 vs2 σ H0 Q := fun H0 e0 Q q => hi H0 e0 _ fun H1 e1 _ D hD => by
  have stay : ∀ {H4 H5 : Hp} {cs : List (List V)} {xs : List V}, (∀ t c, H4 t = some (.tup c) → H5 t = some (.tup c)) → Paired (fun c v => ∃ t, v = V.ref t ∧ H4 t = some (.tup c)) cs xs → Paired (fun c v => ∃ t, v = V.ref t ∧ H5 t = some (.tup c)) cs xs :=
    fun hk h => Paired.mapP h fun c v ⟨t, a, b⟩ => ⟨t, a, hk t c b⟩
  let row (i j c : Nat) : List (List V) := (List.range c).map fun l => el i j l
  let line (i b : Nat) : List (List V) := (List.range b).flatMap fun j => row i j (m2 i j)
  let all (a : Nat) : List (List V) := (List.range a).flatMap fun i => line i (m1 i)
  have rowS : ∀ i j c, row i j (c + 1) = row i j c ++ [el i j c] := fun i j c => by
    show (List.range (c + 1)).map _ = _
    rw [List.range_succ, List.map_append] <;> rfl
  have lineS : ∀ i b, line i (b + 1) = line i b ++ row i b (m2 i b) := fun i b => by
    show (List.range (b + 1)).flatMap _ = _
    rw [List.range_succ, List.flatMap_append] <;> simp [line]
  have allS : ∀ a, all (a + 1) = all a ++ line a (m1 a) := fun a => by
    show (List.range (a + 1)).flatMap _ = _
    rw [List.range_succ, List.flatMap_append] <;> simp [all]
  have rowL : ∀ i j c, (row i j c).length = c := fun i j c => by show ((List.range c).map _).length = c; rw [List.length_map, List.length_range]
  have lineL : ∀ i b, (line i b).length ≤ 20 * b := fun i b => by
    induction b with
    | zero => exact Nat.zero_le _
    | succ b ih =>
      have := hn2 i b
      rw [lineS, List.length_append, rowL]
      omega
  have allL : ∀ a, (all a).length ≤ 400 * a := fun a => by
    induction a with
    | zero => exact Nat.zero_le _
    | succ a ih =>
      have := hn1 a
      have := lineL a (m1 a)
      rw [allS, List.length_append]
      omega
  let St (H' : Hp) (cs : List (List V)) : Prop := Ex H1 H' ∧ ∃ xs, H' D = some (.lst xs) ∧ Paired (fun c v => ∃ t, v = V.ref t ∧ H' t = some (.tup c)) cs xs
  have stE : ∀ {H4 H5 : Hp} {cs : List (List V)}, St H4 cs → Ex H4 H5 → St H5 cs := fun ⟨a, xs, b, c⟩ e => ⟨a.trans e, xs, e D _ b, stay (fun t u z => e t _ z) c⟩
  refine lp_it w (body := fun x H' N1 => g x (wipe σ vs) H' fun σ2 H2 => Keep (wipe σ vs) σ2 ∧ tMid wi1 g1 vs1 (tMid wi2 g2 vs2 (tEnd te D)) σ2 H2 N1) (fun i H' => St H' (all i)) ⟨Ex.new hD, [], upd_same, .nil⟩ (fun _ _ _ _ => trivial) (fun i x H' H'' hlt p y => ?_) fun H' ⟨ex, xs, hx, m⟩ => q D xs H' (fresh_back e1 hD) (e1.trans ex) hx m
  obtain ⟨rfl, rfl⟩ := y
  refine hy i hlt H'' _ fun σ2 k2 ⟨J1, hi1, w1, hb1⟩ => ⟨k2, hi1 H'' ((e0.trans e1).trans p.1) _ fun H4 ex4 _ => ?_⟩
  refine lp_it w1 (body := fun x H' N1 => g1 x (wipe σ2 vs1) H' fun σ3 H5 => Keep (wipe σ2 vs1) σ3 ∧ tMid wi2 g2 vs2 (tEnd te D) σ3 H5 N1) (fun j H' => St H' (all i ++ line i j)) (by show St H4 (all i ++ []); rw [List.append_nil]; exact stE p ex4) (fun _ _ _ _ => trivial) (fun j x H5 H6 hj p5 y5 => ?_) fun H5 p5 => by show St H5 (all (i + 1)); rw [allS]; exact p5
  obtain ⟨rfl, rfl⟩ := y5
  refine hb1 j hj H6 _ fun σ3 k3 ⟨J2, hi2, w2, hb2⟩ => ⟨k3, hi2 H6 ((e0.trans e1).trans p5.1) _ fun H7 ex7 _ => ?_⟩
  refine lp_it w2 (body := fun x H' N1 => g2 x (wipe σ3 vs2) H' fun σ4 H5 => Keep (wipe σ3 vs2) σ4 ∧ tEnd te D σ4 H5 N1) (fun l H' => St H' ((all i ++ line i j) ++ row i j l)) (by show St H7 ((all i ++ line i j) ++ []); rw [List.append_nil]; exact stE p5 ex7) (fun _ _ _ _ => trivial) (fun l x H8 H9 hl p8 y8 => ?_) fun H8 p8 => by show St H8 (all i ++ line i (j + 1)); rw [lineS, ← List.append_assoc]; exact p8
  obtain ⟨rfl, rfl⟩ := y8
  obtain ⟨e8, xs8, d8, m8⟩ := p8
  refine hb2 l hl H9 _ fun σ4 k4 he => ⟨k4, he H9 ((e0.trans e1).trans e8) _ fun t H10 ht e10 h10 => ⟨xs8, e10 D _ d8, ?_, Ex.mut (e8.trans e10) hD, _, upd_same, ?_⟩⟩
  · have hl8 : ((all i ++ line i j) ++ row i j l).length = xs8.length := Paired.length m8
    rw [List.length_append, List.length_append, rowL] at hl8
    have h1 := allL i
    have h2 := lineL i j
    have h3 := hn1 i
    have h4 := hn2 i j
    exact sz_lt (by omega)
  · have e : (all i ++ line i j) ++ row i j (l + 1) = ((all i ++ line i j) ++ row i j l) ++ [el i j l] := by rw [rowS, List.append_assoc, List.append_assoc, List.append_assoc]
    rw [e]
    have nt : ∀ u c, H10 u = some (.tup c) → u ≠ D := fun u c z => by
      intro hu
      rw [hu, e10 D _ d8] at z
      cases z
    refine paired_append (stay (fun u c z => ?_) (stay (fun u c z => e10 u _ z) m8)) (.cons ⟨t, rfl, ?_⟩ .nil)
    · rw [upd_ne (nt u c z)]; exact z
    · rw [upd_ne (nt t _ h10)]; exact h10
end
end Sw

set_option Elab.async false
set_option linter.all false
set_option maxRecDepth 100000
set_option maxHeartbeats 4000000
/-! The rules that name the written part, told with K by name (within a comprehension it must not hang on the block). -/
namespace Sw
open PySem PySem.Spec PyProof.Rows L2 Evl SW
def rLenQ (K : PySem.W.Frag) : List V → Hp → VK → Prop := fun xs H Q => ∃ p ys, xs = [.ref p] ∧ (SqL K H p ys ∨ SqT K H p ys) ∧ Q (.int ys.length) H
def rListQ (K : PySem.W.Frag) : List V → Hp → VK → Prop := fun xs H Q => ∃ p ys, xs = [.ref p] ∧ (SqL K H p ys ∨ SqT K H p ys) ∧ ∀ l, H l = none → Q (.ref l) (upd H l (.lst ys))
def rTupQ (K : PySem.W.Frag) : List V → Hp → VK → Prop := fun xs H Q => ∃ p ys, xs = [.ref p] ∧ ((SqL K H p ys ∧ ∀ l, H l = none → Q (.ref l) (upd H l (.tup ys))) ∨ (SqT K H p ys ∧ Q (.ref p) H))
section
variable {X : Cx} {K : PySem.W.Frag} {tg : Expr}
theorem ixL (h : X.K = K := by rfl) : IxR X (rIxL K) := h ▸ ix_list
theorem ixT (h : X.K = K := by rfl) : IxR X (rIxT K) := h ▸ ix_tup
theorem inS (h : X.K = K := by rfl) : OpR X (compareOp .In) (rIn K false) := h ▸ op_in_seq
theorem niS (h : X.K = K := by rfl) : OpR X (compareOp .NotIn) (rIn K true) := h ▸ op_notIn_seq
theorem lenQ (h : X.K = K := by rfl) : CallR X (.builtin "len") (rLenQ K) := h ▸ call_len_seq
theorem listQ (h : X.K = K := by rfl) : CallR X (.type "list") (rListQ K) := h ▸ call_list_of
theorem tupQ (h : X.K = K := by rfl) : CallR X (.type "tuple") (rTupQ K) := h ▸ call_tuple_of
theorem allQ (hc : X.calm = true) (h : X.K = K := by rfl) : CallR X (.builtin "all") (rAll K) := h ▸ cr_all hc
theorem sumQ (hc : X.calm = true) (h : X.K = K := by rfl) : CallR X (.builtin "sum") (rSum K) := h ▸ cr_sum hc
theorem sumTQ (hc : X.calm = true) (h : X.K = K := by rfl) : CallR X (.builtin "sum") (rSumT K) := h ▸ cr_sumT hc
theorem isiQ (h : X.K = K := by rfl) : CallR X (.builtin "isinstance") (rIsi K) := h ▸ call_isi
theorem setQ (hc : X.calm = true) (h : X.K = K := by rfl) : CallR X (.type "set") (rSetA K) := h ▸ call_setA hc
theorem piL {l : Expr} {tl : TE} (hl : PE X l tl) (h : X.K = K := by rfl) : PI X tg l (iList K tl) := h ▸ pi_list hl
theorem piT {l : Expr} {tl : TE} (hl : PE X l tl) (h : X.K = K := by rfl) : PI X tg l (iTup K tl) := h ▸ pi_tup hl
theorem pgT {es : List Expr} {k : Nat} {pos : Pos} {t : TGs} {n : Nat} (hc : X.calm = true) (hh : PGs X es t) (h : X.K = K := by rfl) (hn : (assignEach es X.env).length = n := by rfl) (hst : (assignEach es X.env).findIdx? (·.1) = none := by rfl) : PG X (.Tuple es k pos) (gTup K n t) := h ▸ pg_tup hc hh hn hst
theorem piE {e : Expr} {ta : TA} {p pos tpos : Pos} {elts : List Expr} {kk : Nat} (hg : Gl X "enumerate") (hm : X.mg "enumerate" = none) (ha : PA X [e] ta) (h : X.K = K := by rfl) (hs : starEach [e] X.env = [(false, eval e X.env)] := by rfl) :
    PI X (.Tuple elts kk tpos) (.Call (.Name "enumerate" p) [e] [] pos) (iEnumT K ta) := h ▸ pi_enumT hg hm ha hs
end
end Sw

set_option Elab.async false
set_option linter.all false
set_option maxRecDepth 100000
set_option maxHeartbeats 4000000
/-! The small checks, is_web. -/
namespace Sw
open PySem PySem.Spec PyProof.Rows L2 Evl SW
section
variable {P : Program} {w : World} {K : PySem.W.Frag} {mg : Str → Option Value} {base : Heap}
/-- a promise of a value, of arguments that are as pre says -/
theorem spv {sp : Sp} {vs : List V} {H : Hp} {z : V} {pre : Hp → Prop} (hp : ∀ H1, Ex H H1 → pre H → pre H1) (h0 : pre H) (h : ∀ H1 Q E, pre H1 → RetV z H1 Q → sp vs H1 Q E) : SpV sp vs H z := fun H1 e Q q E => h H1 Q E (hp H1 e h0) q
def spIsInt : Sp := fun vs H Q _ => ∃ i : Int, vs = [.int i] ∧ RetV (.bl true) H Q
abbrev n_is_integer : List Str := ["value"]
theorem sc_is_integer : FnScope n_is_integer ["value"] (defScope q_is_integer) := ⟨rfl, rfl, rfl, by decide +kernel, rfl, by decide +kernel, by decide +kernel⟩
theorem ok_is_integer (T : Txt K mg) (D : DefAt K mg "is_integer" q_is_integer) : Fc P w K mg base 1 "is_integer" ["value"] spIsInt := by
  refine mk_fc D sc_is_integer (fun _ _ _ _ _ _ us hl => match us, hl with | [_], _ => rfl) (fun _ _ _ _ _ _ us hl => match us, hl with | [_], _ => rfl) (fun vs H Q E h => ?_) (fun f cdv A outer s H vs Q E hr h => ?_)
  · obtain ⟨i, rfl, _⟩ := h
    rfl
  · obtain ⟨i, rfl, k⟩ := h
    have nd := sc_is_integer.nd
    refine ⟨_, (pss_one (ps_ret (pe_and (pe_callB (isiQ (K := K)) (by rfl) T.isi (by decide +kernel) (pa_cons (pv 0) (pa_cons (pe_bltn (v := .ty "int") (by rfl) T.int (by decide +kernel) rfl) pa_nil))) (pe_one (pe_not (pe_callB (isiQ (K := K)) (by rfl) T.isi (by decide +kernel) (pa_cons (pv 0) (pa_cons (pe_bltn (v := .ty "bool") (by rfl) T.bool (by decide +kernel) rfl) pa_nil)))))))), ?_⟩
    refine s_ret (v := .bl true) ?_ k
    have ty : ∀ H1, Ex H H1 → TyX K H1 (.int i) (.type "int") := fun _ _ => .base (.int i)
    exact ev_andV (a := true) (b := true) (ev_isi (ev_var rfl) ty (kit_ty (by decide +kernel))) fun _ => ev_notV (a := false) (ev_isi (ev_var rfl) ty (kit_ty (by decide +kernel)))
def spBetween : Sp := fun vs H Q _ => ∃ a i b : Int, vs = [.int a, .int i, .int b] ∧ RetV (.bl (decide (a ≤ i) && decide (i ≤ b))) H Q
abbrev n_is_between : List Str := ["low", "value", "high"]
theorem sc_is_between : FnScope n_is_between ["low", "value", "high"] (defScope q_is_between) := ⟨rfl, rfl, rfl, by decide +kernel, rfl, by decide +kernel, by decide +kernel⟩
theorem ok_is_between (T : Txt K mg) (D : DefAt K mg "is_between" q_is_between) (c_is_integer : Fc P w K mg base 1 "is_integer" ["value"] spIsInt) : Fc P w K mg base 2 "is_between" ["low", "value", "high"] spBetween := by
  refine mk_fc D sc_is_between (fun _ _ _ _ _ _ us hl => match us, hl with | [_, _, _], _ => rfl) (fun _ _ _ _ _ _ us hl => match us, hl with | [_, _, _], _ => rfl) (fun vs H Q E h => ?_) (fun f cdv A outer s H vs Q E hr h => ?_)
  · obtain ⟨a, i, b, rfl, _⟩ := h
    rfl
  · obtain ⟨a, i, b, rfl, k⟩ := h
    have nd := sc_is_between.nd
    refine ⟨_, (pss_one (ps_ret (pe_and (pe_f c_is_integer hr (by decide) rfl (pa_cons (pv 1) pa_nil)) (pe_one (pe_chain op_le op_le (pv 0) (pv 1) (pv 2)))))), ?_⟩
    refine s_ret ?_ k
    refine ev_is (v := .bl (true && (decide (a ≤ i) && decide (i ≤ b)))) (ev_andV (a := true) (ev_call (ea_cons (ev_var rfl) ea_nil) fun H1 e Q q E => ⟨i, rfl, q⟩) fun _ => ?_) (by rw [Bool.true_and])
    exact ev_chain (ev_var rfl) (ev_var rfl) rv_I0 (fun _ => ev_var rfl) fun _ => rv_I0
def spTupleOf (K : PySem.W.Frag) : Sp := fun vs H Q _ => ∃ (m : Int) (p : Addr) (xs : List V), vs = [.int m, .ref p] ∧ H p = some (.tup xs) ∧ (xs.length : Int) = m ∧ RetV (.bl true) H Q
abbrev n_is_tuple_of : List Str := ["many", "value"]
theorem sc_is_tuple_of : FnScope n_is_tuple_of ["many", "value"] (defScope q_is_tuple_of) := ⟨rfl, rfl, rfl, by decide +kernel, rfl, by decide +kernel, by decide +kernel⟩
theorem ok_is_tuple_of (T : Txt K mg) (D : DefAt K mg "is_tuple_of" q_is_tuple_of) : Fc P w K mg base 1 "is_tuple_of" ["many", "value"] (spTupleOf K) := by
  refine mk_fc D sc_is_tuple_of (fun _ _ _ _ _ _ us hl => match us, hl with | [_, _], _ => rfl) (fun _ _ _ _ _ _ us hl => match us, hl with | [_, _], _ => rfl) (fun vs H Q E h => ?_) (fun f cdv A outer s H vs Q E hr h => ?_)
  · obtain ⟨m, p, xs, rfl, _⟩ := h
    rfl
  · obtain ⟨m, p, xs, rfl, hp, rfl, k⟩ := h
    have nd := sc_is_tuple_of.nd
    refine ⟨_, (pss_one (ps_ret (pe_and (pe_callB (isiQ (K := K)) (by rfl) T.isi (by decide +kernel) (pa_cons (pv 1) (pa_cons (pe_bltn (v := .ty "tuple") (by rfl) T.tuple (by decide +kernel) rfl) pa_nil))) (pe_one (pe_cmpR op_eq (pe_callB (lenQ (K := K)) (by rfl) T.len PySem.boot_len (pa_cons (pv 1) pa_nil)) (pv 0) (nomark _)))))), ?_⟩
    refine s_ret (v := .bl true) ?_ k
    have ty : ∀ H1, Ex H H1 → TyX K H1 (.ref p) (.type "tuple") := fun H1 e => .base (.tup (e p _ hp))
    refine ev_is (ev_andV (a := true) (ev_isi (ev_var rfl) ty (kit_ty (by decide +kernel))) fun _ => ev_op (x := .int xs.length) ?_ (ev_var rfl) (rv_eq rfl)) (by simp)
    exact fun H1 e Q q => ⟨_, rfl, p, xs, rfl, .inr (st_of (e p _ hp)), q H1 (Ex.refl H1)⟩
def spCheckPlace : Sp := fun vs H Q _ => ∃ n i : Int, vs = [.int n, .int i] ∧ 0 ≤ i ∧ i < n ∧ RetV .non H Q
abbrev n_check_place : List Str := ["many", "value"]
theorem sc_check_place : FnScope n_check_place ["many", "value"] (defScope q_check_place) := ⟨rfl, rfl, rfl, by decide +kernel, rfl, by decide +kernel, by decide +kernel⟩
theorem ok_check_place (T : Txt K mg) (D : DefAt K mg "check_place" q_check_place) (c_is_between : Fc P w K mg base 2 "is_between" ["low", "value", "high"] spBetween) : Fc P w K mg base 3 "check_place" ["many", "value"] spCheckPlace := by
  refine mk_fc D sc_check_place (fun _ _ _ _ _ _ us hl => match us, hl with | [_, _], _ => rfl) (fun _ _ _ _ _ _ us hl => match us, hl with | [_, _], _ => rfl) (fun vs H Q E h => ?_) (fun f cdv A outer s H vs Q E hr h => ?_)
  · obtain ⟨m, p, rfl, _⟩ := h
    rfl
  · obtain ⟨n, i, rfl, h0, hn, k⟩ := h
    have nd := sc_check_place.nd
    refine ⟨_, (pss_one (ps_if (pt_not (pt_val (pe_f c_is_between hr (by decide) rfl (pa_cons pe_int (pa_cons (pv 1) (pa_cons (pe_op op_sub (pv 0) pe_int) pa_nil))))))
        (pss_one ps_never) pss_nil)), ?_⟩
    refine s_when (b := false) (et_not (a := true) (et_B ?_)) (fun z => nomatch z) fun _ H1 e => k H1 e
    refine ev_is (ev_call (ea_cons ev_c (ea_cons (ev_var rfl) (ea_cons (ev_op (ev_var rfl) ev_c rv_I0) ea_nil))) fun H1 e Q q E => ⟨0, i, n - 1, rfl, q⟩) ?_
    rw [decide_eq_true h0, decide_eq_true (by omega : i ≤ n - 1)]
    rfl
end

/-! ### a web in the heap -/
/-- at p stands the web w of n places -/
def WebAt (H : Hp) (p : Addr) (n : Nat) (w : Wf) : Prop :=
  ∃ rs : List Addr, rs.length = n ∧ H p = some (.tup (rs.map V.ref)) ∧ ∀ i r, rs[i]? = some r → H r = some (.tup ((List.range n).map fun j => V.int (w i j)))
theorem WebAt.mono {H H' : Hp} {p : Addr} {n : Nat} {w : Wf} (e : ∀ a xs, H a = some (.tup xs) → H' a = some (.tup xs)) (h : WebAt H p n w) : WebAt H' p n w := by
  obtain ⟨rs, hl, hp, hr⟩ := h
  exact ⟨rs, hl, e _ _ hp, fun i r hi => e _ _ (hr i r hi)⟩
theorem WebAt.ex {H H' : Hp} {p : Addr} {n : Nat} {w : Wf} (e : Ex H H') (h : WebAt H p n w) : WebAt H' p n w := h.mono fun a xs z => e a _ z
theorem rowAt {n i : Nat} {f : Nat → V} (h : i < n) : ((List.range n).map f)[i]? = some (f i) := by
  rw [List.getElem?_map, List.getElem?_range h] <;> rfl
section
variable {K : PySem.W.Frag} {σ : L2.St} {H : Hp} {p : Addr} {n : Nat} {w : Wf} {tw tx ty : TE}
theorem WebAt.row (h : WebAt H p n w) {x : Nat} (hx : x < n) (hw : Ev tw σ H (.ref p)) (h1 : Ev tx σ H (.int (x : Int))) : ∃ r, H r = some (.tup ((List.range n).map fun j => V.int (w x j))) ∧ Ev (tOp (rIxT K) tw tx) σ H (.ref r) := by
  obtain ⟨rs, hl, hp, hr⟩ := h
  have hx' : x < rs.length := by omega
  have e1 : rs[x]? = some rs[x] := List.getElem?_eq_getElem hx'
  refine ⟨rs[x], hr x _ e1, ev_op hw h1 (rv_ixT (st_of hp) (atI_nat ?_))⟩
  rw [List.getElem?_map, e1] <;> rfl
/-- web[x][y] -/
theorem ev_web (h : WebAt H p n w) {x y : Nat} (hx : x < n) (hy : y < n) (hw : Ev tw σ H (.ref p)) (h1 : Ev tx σ H (.int (x : Int))) (h2 : Ev ty σ H (.int (y : Int))) : Ev (tOp (rIxT K) (tOp (rIxT K) tw tx) ty) σ H (.int (w x y)) := by
  obtain ⟨r, hr, hev⟩ := h.row (K := K) hx hw h1
  exact ev_op hev h2 (rv_ixT (st_of hr) (atI_nat (rowAt hy)))
theorem ev_lenT {a : Addr} {xs : List V} (ha : Ev tw σ H (.ref a)) (h : H a = some (.tup xs)) : Ev (tCB (rLenQ K) (tCons tw tNil)) σ H (.int (xs.length : Int)) := fun H1 e Q q =>
  ha H1 e _ fun H2 e2 => ⟨a, xs, rfl, .inr (st_of ((e.trans e2) a _ h)), q H2 e2⟩
/-- len(web) -/
theorem ev_lenW (h : WebAt H p n w) (hw : Ev tw σ H (.ref p)) : Ev (tCB (rLenQ K) (tCons tw tNil)) σ H (.int (n : Int)) := by
  obtain ⟨rs, hl, hp, hr⟩ := h
  have q := ev_lenT (K := K) hw hp
  rw [List.length_map, hl] at q
  exact q
theorem all_rep (k : Nat) : (List.replicate k true).all id = true := List.all_eq_true.mpr fun b hb => (List.mem_replicate.mp hb).2
/-- all([..]) of Trues -/
theorem ev_all {te : TE} (h : ∀ H1, Ex H H1 → ∀ Q : VK, (∀ q k H2, H1 q = none → Ex H1 H2 → H2 q = some (.lst (List.replicate k (V.bl true))) → Q (.ref q) H2) → te σ H1 Q) : Ev (tCB (rAll K) (tCons te tNil)) σ H (.bl true) := fun H1 e Q q =>
  h H1 e _ fun a k H2 _ e2 ha => ⟨a, List.replicate k true, rfl, by rw [List.map_replicate]; exact sq_of ha, by rw [all_rep]; exact q H2 e2⟩
/-- a comprehension of one clause all of whose elements are True -/
theorem el_lcT1 {te : TE} {t : TT} {wi : TI} {g : TG} {vs : List Nat} {J : It} {n : Nat} {G : Hp → Prop} {Y : Nat → Hp → V → Hp → Prop} (wk : Walk J n G Y) (hi : EvI wi σ H J G) (hn : n ≤ 40000) (hG : ∀ H1 H2, Ex H1 H2 → G H1 → G H2)
    (hy : ∀ i x H1 H2, i < n → Ex H H1 → Y i H1 x H2 → Ex H1 H2 ∧ TurnP g t te vs σ x H2 true fun v _ => v = .bl true) :
    ∀ H1, Ex H H1 → ∀ Q : VK, (∀ q k H2, H1 q = none → Ex H1 H2 → H2 q = some (.lst (List.replicate k (V.bl true))) → Q (.ref q) H2) → tLc wi g t te vs σ H1 Q := fun H1 e Q q =>
  el_lcW (fun _ => true) (fun _ v _ => v = .bl true) (stb_eq fun _ => .bl true) wk hi hn hG hy H1 e Q fun p xs H2 h1 h2 h3 m => q p (kept n fun _ => true).length H2 h1 h2 (by
    rw [h3, made_eq (f := fun _ => V.bl true) m, List.map_const'] <;> rfl)
end

section
variable {P : Program} {w : World} {K : PySem.W.Frag} {mg : Str → Option Value} {base : Heap}
def spIsWeb : Sp := fun vs H Q _ => ∃ (p : Addr) (n : Nat) (u : Wf), vs = [.ref p] ∧ WebAt H p n u ∧ Good n u ∧ RetV (.bl true) H Q
abbrev n_is_web : List Str := ["value", "line", "sign", "places", "x", "y", "even"]
theorem sc_is_web : FnScope n_is_web ["value"] (defScope q_is_web) := ⟨rfl, rfl, rfl, by decide +kernel, rfl, by decide +kernel, by decide +kernel⟩
theorem ok_is_web (T : Txt K mg) (D : DefAt K mg "is_web" q_is_web) (c_is_between : Fc P w K mg base 2 "is_between" ["low", "value", "high"] spBetween) (c_is_tuple_of : Fc P w K mg base 1 "is_tuple_of" ["many", "value"] (spTupleOf K)) :
    Fc P w K mg base 3 "is_web" ["value"] spIsWeb := by
  refine mk_fc D sc_is_web (fun _ _ _ _ _ _ us hl => match us, hl with | [_], _ => rfl) (fun _ _ _ _ _ _ us hl => match us, hl with | [_], _ => rfl) (fun vs H Q E h => ?_) (fun f cdv A outer s H vs Q E hr h => ?_)
  · obtain ⟨p, n, u, rfl, _⟩ := h
    rfl
  · obtain ⟨p, n, u, rfl, hw, g, k⟩ := h
    have nd := sc_is_web.nd
    refine ⟨_, (pss_cons (ps_if (PW.pt (pw_or (pt_not (pt_val (pe_callB (isiQ (K := K)) (by rfl) T.isi (by decide +kernel) (pa_cons (pv 0) (pa_cons (pe_bltn (v := .ty "tuple") (by rfl) T.tuple (by decide +kernel) rfl) pa_nil))))) (pw_or1 (pt_not (pt_chain op_le op_le pe_int (pe_callB (lenQ (K := K)) (by rfl) T.len PySem.boot_len (pa_cons (pv 0) pa_nil)) (C8.pe_gc rfl T.most))))))
        (pss_one (ps_ret pe_bl)) pss_nil)
        (pss_cons (ps_for PassesOwn.never rfl (piT (K := K) (pv 0)) (pg_name (i := 1) nd rfl (by first | exact Or.inl rfl | exact Or.inr rfl))
        (pss_one (ps_if (PW.pt (pw_or (pt_not (pt_val (pe_f c_is_tuple_of hr (by decide) rfl (pa_cons (pe_callB (lenQ (K := K)) (by rfl) T.len PySem.boot_len (pa_cons (pv 0) pa_nil)) (pa_cons (pv 1) pa_nil))))) (pw_or1 (pt_not (pt_val (pe_callB (allQ (K := K) rfl) (by rfl) T.all (by decide +kernel) (pa_cons (pe_lc (own := [("sign", 2)]) rfl nd (piT (K := K) (pv 1)) (blkOk_by (own := [("sign", 2)]) (N := n_is_web) (sc := defScope q_is_web) (by decide +kernel)) (fun _ _ _ _ _ => (pg_name (i := 2) nd rfl (by first | exact Or.inl rfl | exact Or.inr rfl))) (fun _ _ _ _ _ => pts_nil) (fun _ _ _ _ _ => (pe_f c_is_between hr (by decide) rfl (pa_cons (pe_un un_neg pe_int) (pa_cons (pv 2) (pa_cons pe_int pa_nil)))))) pa_nil)))))))
        (pss_one (ps_ret pe_bl)) pss_nil)))
        (pss_cons (ps_set (i := 3) nd rfl (by first | exact Or.inl rfl | exact Or.inr rfl) (pe_callTy cr_range1 (by rfl) T.range (by decide +kernel) (pa_cons (pe_callB (lenQ (K := K)) (by rfl) T.len PySem.boot_len (pa_cons (pv 0) pa_nil)) pa_nil)))
        (pss_cons (ps_set (i := 6) nd rfl (by first | exact Or.inl rfl | exact Or.inr rfl) (pe_callB (allQ (K := K) rfl) (by rfl) T.all (by decide +kernel) (pa_cons (pe_lc2 (own := [("x", 4), ("y", 5)]) (vs1 := [5]) rfl nd (pi_rng (pv 3)) (blkOk_by (own := [("x", 4), ("y", 5)]) (N := n_is_web) (sc := defScope q_is_web) (by decide +kernel)) (by decide) (fun _ _ _ _ _ => (pg_name (i := 4) nd rfl (by first | exact Or.inl rfl | exact Or.inr rfl))) (fun _ _ _ _ _ => pts_nil) (fun _ _ _ _ _ => (pi_range1 (by rfl) T.range (pa_cons (pv 4) pa_nil))) (fun _ _ _ _ _ => (pg_name (i := 5) nd rfl (by first | exact Or.inl rfl | exact Or.inr rfl))) (fun _ _ _ _ _ => pts_nil) (fun _ _ _ _ _ => (pe_cmpR op_eq (pe_ix (ixT (K := K)) (pe_ix (ixT (K := K)) (pv 0) (pv 4) (fun _ _ => rfl)) (pv 5) (fun _ _ => rfl)) (pe_ix (ixT (K := K)) (pe_ix (ixT (K := K)) (pv 0) (pv 5) (fun _ _ => rfl)) (pv 4) (fun _ _ => rfl)) (nomark _)))) pa_nil)))
        (pss_one (ps_ret (pe_and (pv 6) (pe_one (pe_callB (allQ (K := K) rfl) (by rfl) T.all (by decide +kernel) (pa_cons (pe_lc (own := [("x", 4)]) rfl nd (pi_rng (pv 3)) (blkOk_by (own := [("x", 4)]) (N := n_is_web) (sc := defScope q_is_web) (by decide +kernel)) (fun _ _ _ _ _ => (pg_name (i := 4) nd rfl (by first | exact Or.inl rfl | exact Or.inr rfl))) (fun _ _ _ _ _ => pts_nil) (fun _ _ _ _ _ => (pe_cmpR op_eq (pe_ix (ixT (K := K)) (pe_ix (ixT (K := K)) (pv 0) (pv 4) (fun _ _ => rfl)) (pv 4) (fun _ _ => rfl)) pe_int (nomark _)))) pa_nil)))))))))), ?_⟩
    have hn1 := g.lo
    have hn2 := g.hi
    obtain ⟨rs, hl, hp, hrow⟩ := id hw
    have ty : ∀ H1, Ex H H1 → TyX K H1 (.ref p) (.type "tuple") := fun H1 e => .base (.tup (e p _ hp))
    -- the first test
    refine q_when (b := false) (et_or (a := false) (b := false) (et_not (a := true) (et_B (ev_isi (ev_var rfl) ty (kit_ty (by decide +kernel))))) fun _ => et_not (a := true) (et_is (et_test (ev_chain ev_c (ev_lenW hw (ev_var rfl)) rv_I0 (fun _ => ev_c) fun _ => rv_I0)) ?_)) (fun z => nomatch z) fun _ H1 e1 => ?_
    · rw [decide_eq_true (by omega : (1 : Int) ≤ (n : Int)), decide_eq_true (by omega : (n : Int) ≤ 10)]
      rfl
    -- the lines
    refine q_forT (a := p) (ev_var rfl) (st_of (e1 p _ hp)) (fun _ σ' H' => Ex H H' ∧ ∃ v, σ' = [some (.ref p), v, none, none, none, none, none]) (fun H2 e2 => ⟨e1.trans e2, none, rfl⟩) (fun i σ' H' _ z => st_of (z.1 p _ hp)) (fun i x σ' H' hx ⟨e, v, hσ⟩ => ?_) fun σ' H' ⟨e2, v, hσ⟩ => ?_
    · subst hσ
      have hi : i < rs.length := by
        have := (List.getElem?_eq_some_iff.mp hx).1
        rw [List.length_map] at this
        exact this
      have ex : x = .ref rs[i] := by
        rw [List.getElem?_map, List.getElem?_eq_getElem hi] at hx
        exact (Option.some.inj hx).symm
      subst ex
      have hr' := hrow i _ (List.getElem?_eq_getElem hi)
      refine s_when (b := false) (et_or (a := false) (b := false) (et_not (a := true) (et_B (ev_call (ea_cons (ev_lenW (hw.ex e) (ev_var rfl)) (ea_cons (ev_var rfl) ea_nil)) fun H1 e' Q q E => ?_))) fun _ => et_not (a := true) (et_B (ev_all ?_))) (fun z => nomatch z) fun _ H2 e2 => ⟨e.trans e2, some (.ref rs[i]), rfl⟩
      · exact ⟨(n : Int), rs[i], _, rfl, (e.trans e') _ _ hr', by rw [List.length_map, List.length_range], q⟩
      · refine el_lcT1 (walk_tup (K := K) (a := rs[i])) (ei_tup (ev_var rfl) (st_of ((e.trans (Ex.refl _)) _ _ hr'))) (by rw [List.length_map, List.length_range]; omega) (fun H1 H2 e z => ex_t e z) fun j x H1 H2 hj e1' ⟨rfl, hx'⟩ => ⟨Ex.refl _, turn_name (fun _ => rfl) et_yes fun _ => ep_bl ?_⟩
        have hj' : j < n := by rw [List.length_map, List.length_range] at hj; exact hj
        rw [rowAt hj'] at hx'
        obtain rfl := Option.some.inj hx'
        refine ev_is (ev_call (ea_cons (ev_un ev_c ru_neg) (ea_cons (ev_var rfl) (ea_cons ev_c ea_nil))) fun H1 e Q q E => ⟨-1, u i j, 1, rfl, q⟩) ?_
        have hb : -1 ≤ u i j ∧ u i j ≤ 1 := by
          by_cases hij : i = j
          · subst hij
            rw [g.diag i hj']
            omega
          · rcases g.off i j (by omega) hj' hij with z | z <;> rw [z] <;> omega
        rw [decide_eq_true hb.1, decide_eq_true hb.2]
        rfl
    · subst hσ
      refine ev_lenW (hw.ex e2) (ev_var rfl) H' (Ex.refl _) _ fun H3 e3 => ⟨_, rfl, fun q hq => ?_⟩
      have e4 : Ex H (upd H3 q (.rng 0 n)) := (e2.trans e3).trans (Ex.new hq)
      have hq' : (upd H3 q (.rng 0 n)) q = some (.rng 0 (n : Int)) := upd_same
      generalize upd H3 q (.rng 0 n) = H4 at e4 hq'
      have hw4 := hw.ex e4
      have e00 : ∀ i : Nat, (0 : Int) + (i : Int) = (i : Int) := fun i => Int.zero_add _
      have en : ((n : Int) - 0).toNat = n := by omega
      refine q_asg (v := .bl true) (ev_all (el_lc2T (n := ((n : Int) - 0).toNat) walk_range (ei_rng (ev_var rfl) hq' (by omega)) (by omega) fun i hi H2 k0 hk => ?_)) fun H5 e5 => ?_
      · rw [e00 i]
        refine hk _ rfl ⟨i, fun j => .int ((0 : Int) + (j : Int)), by omega, Itr 0 i, ei_range1 (n := (i : Int)) (ea_cons (ev_var rfl) ea_nil) (by omega), walk_range, fun j hj H3 k1 hk1 => ?_⟩
        refine hk1 _ rfl (ev_is (ev_op (x := .int (u i j)) (y := .int (u j i)) (ev_web hw4 (by omega) (by omega) (ev_var rfl) (ev_var rfl) (ev_var (e00 j ▸ rfl))) (ev_web hw4 (by omega) (by omega) (ev_var rfl) (ev_var (e00 j ▸ rfl)) (ev_var rfl)) (rv_eq rfl)) ?_)
        rw [g.sym i j (by omega) (by omega), decide_eq_true rfl]
      · refine s_ret (v := .bl true) (ev_andV (a := true) (b := true) (ev_var rfl) fun _ => ev_all (el_lcT1 (n := ((n : Int) - 0).toNat) walk_range (ei_rng (ev_var rfl) (e5 _ _ hq') (by omega)) (by omega) (fun _ _ _ z => z) fun i x H1 H2 hi e1' ⟨h1, h2⟩ => ?_)) fun H6 e6 => k H6 ((e4.trans e5).trans e6)
        have h2 : x = .int ((0 : Int) + (i : Int)) := h2
        subst h1 h2
        rw [e00 i]
        refine ⟨Ex.refl _, turn_name (fun _ => rfl) et_yes fun _ => ep_bl (ev_is (ev_op (x := .int (u i i)) (y := .int 0) (ev_web ((hw4.ex e5).ex e1') (by omega) (by omega) (ev_var rfl) (ev_var rfl) (ev_var rfl)) ev_c (rv_eq rfl)) ?_)⟩
        rw [g.diag i (by omega), decide_eq_true rfl]
def spCheckWeb : Sp := fun vs H Q _ => ∃ (p : Addr) (n : Nat) (u : Wf), vs = [.ref p] ∧ WebAt H p n u ∧ Good n u ∧ RetV .non H Q
abbrev n_check_web : List Str := ["value"]
theorem sc_check_web : FnScope n_check_web ["value"] (defScope q_check_web) := ⟨rfl, rfl, rfl, by decide +kernel, rfl, by decide +kernel, by decide +kernel⟩
theorem ok_check_web (T : Txt K mg) (D : DefAt K mg "check_web" q_check_web) (c_is_web : Fc P w K mg base 3 "is_web" ["value"] spIsWeb) : Fc P w K mg base 4 "check_web" ["value"] spCheckWeb := by
  refine mk_fc D sc_check_web (fun _ _ _ _ _ _ us hl => match us, hl with | [_], _ => rfl) (fun _ _ _ _ _ _ us hl => match us, hl with | [_], _ => rfl) (fun vs H Q E h => ?_) (fun f cdv A outer s H vs Q E hr h => ?_)
  · obtain ⟨p, n, u, rfl, _⟩ := h
    rfl
  · obtain ⟨p, n, u, rfl, hw, g, k⟩ := h
    have nd := sc_check_web.nd
    refine ⟨_, (pss_one (ps_if (pt_not (pt_val (pe_f c_is_web hr (by decide) rfl (pa_cons (pv 0) pa_nil))))
        (pss_one ps_never) pss_nil)), ?_⟩
    exact s_when (b := false) (et_not (a := true) (et_B (ev_call (ea_cons (ev_var rfl) ea_nil) fun H1 e Q q E => ⟨p, n, u, rfl, hw.ex e, g, q⟩))) (fun z => nomatch z) fun _ H1 e => k H1 e
end
end Sw

set_option Elab.async false
set_option linter.all false
set_option maxRecDepth 100000
set_option maxHeartbeats 4000000
/-! Tools for webs that are made. -/
namespace Sw
open PySem PySem.Spec PyProof.Rows L2 Evl SW
/-- the line i of w -/
def rowV (n : Nat) (w : Wf) (i : Nat) : List V := (List.range n).map fun j => V.int (w i j)
theorem rowV_len (n : Nat) (w : Wf) (i : Nat) : (rowV n w i).length = n := by unfold rowV; rw [List.length_map, List.length_range]
/-- at rs stand the lines of w -/
def RowsAt (c : List V → HO) (H : Hp) (rs : List Addr) (n : Nat) (w : Wf) : Prop := rs.length = n ∧ ∀ i r, rs[i]? = some r → H r = some (c (rowV n w i))
theorem webAt_of {H : Hp} {p : Addr} {rs : List Addr} {n : Nat} {w : Wf} (h : RowsAt .tup H rs n w) (hp : H p = some (.tup (rs.map V.ref))) : WebAt H p n w := ⟨rs, h.1, hp, h.2⟩
def RetW (n : Nat) (w : Wf) (H : Hp) (Q : VK) : Prop := ∀ p H2, Ex H H2 → WebAt H2 p n w → Q (.ref p) H2
def EvW (te : TE) (σ : L2.St) (H : Hp) (n : Nat) (w : Wf) : Prop := ∀ H1, Ex H H1 → ∀ Q : VK, (∀ p H2, Ex H1 H2 → WebAt H2 p n w → Q (.ref p) H2) → te σ H1 Q
theorem kept_all (n : Nat) : kept n (fun _ => true) = List.range n := List.filter_eq_self.mpr fun _ _ => rfl
theorem given_all (n : Nat) (v : Nat → V) : given n (fun _ => true) v = (List.range n).map v := by
  unfold given
  rw [List.filter_eq_self.mpr fun _ _ => rfl]
theorem paired_at {α β : Type} {F : α → β → Prop} : ∀ {as : List α} {bs : List β}, Paired F as bs → ∀ {i : Nat} {a : α} {b : β}, as[i]? = some a → bs[i]? = some b → F a b
  | _, _, .cons r t, 0, a, b, h1, h2 => by
    simp only [List.getElem?_cons_zero, Option.some.injEq] at h1 h2
    subst h1 h2
    exact r
  | _, _, .cons r t, i + 1, a, b, h1, h2 => paired_at t (by simpa using h1) (by simpa using h2)
/-- things at addresses -/
def PR (c : List V → HO) (n : Nat) (w : Wf) (H0 : Hp) : Nat → V → Hp → Prop := fun i v H => ∃ r, v = .ref r ∧ H0 r = none ∧ H r = some (c (rowV n w i))
theorem stb_PR_tup {n : Nat} {w : Wf} {H0 : Hp} : Stb (PR .tup n w H0) :=
  ⟨fun i v H1 H2 e ⟨p, h1, h0, h2⟩ => ⟨p, h1, h0, e p _ h2⟩, fun i v H D xs ys hD hv ⟨p, h1, h0, h2⟩ => ⟨p, h1, h0, by rw [upd_ne (fun z => hv (by rw [h1, z]))]; exact h2⟩⟩
theorem stb_PR_lst {n : Nat} {w : Wf} {H0 : Hp} : Stb (PR .lst n w H0) :=
  ⟨fun i v H1 H2 e ⟨p, h1, h0, h2⟩ => ⟨p, h1, h0, e p _ h2⟩, fun i v H D xs ys hD hv ⟨p, h1, h0, h2⟩ => ⟨p, h1, h0, by rw [upd_ne (fun z => hv (by rw [h1, z]))]; exact h2⟩⟩
theorem made_refs {c : List V → HO} {n : Nat} {w : Wf} {H0 H : Hp} : ∀ {is : List Nat} {xs : List V}, Made (PR c n w H0) is xs H → ∃ rs : List Addr, xs = rs.map V.ref ∧ Paired (fun i r => H0 r = none ∧ H r = some (c (rowV n w i))) is rs
  | [], _, .nil => ⟨[], rfl, .nil⟩
  | i :: is, v :: xs, .cons r t => by
    obtain ⟨rs, h1, h2⟩ := made_refs (is := is) (xs := xs) t
    obtain ⟨p, e, h0, h⟩ : PR c n w H0 i v H := r
    exact ⟨p :: rs, by rw [h1, e]; rfl, .cons ⟨h0, h⟩ h2⟩
theorem made_rows {c : List V → HO} {n : Nat} {w : Wf} {H0 H : Hp} {xs : List V} (h : Made (PR c n w H0) (kept n fun _ => true) xs H) : ∃ rs : List Addr, xs = rs.map V.ref ∧ RowsAt c H rs n w ∧ ∀ r ∈ rs, H0 r = none := by
  rw [kept_all] at h
  obtain ⟨rs, h1, h2⟩ := made_refs h
  have hl : rs.length = n := by rw [← Paired.length h2, List.length_range]
  refine ⟨rs, h1, ⟨hl, fun i r hr => ?_⟩, fun r hr => ?_⟩
  · have hi : i < n := by have := (List.getElem?_eq_some_iff.mp hr).1; omega
    exact (paired_at h2 (List.getElem?_range hi) hr).2
  · obtain ⟨i, hi⟩ := List.getElem?_of_mem hr
    have hi' : i < n := by have := (List.getElem?_eq_some_iff.mp hi).1; omega
    exact (paired_at h2 (List.getElem?_range hi') hi).1
section
variable {K : PySem.W.Frag} {σ : L2.St} {H : Hp} {te : TE} {t : TT} {g : TG} {v : V} {P : V → Hp → Prop}
theorem ep_UF {xs : List V} (h : EvU te σ H xs) (hp : ∀ p H1, H p = none → Ex H H1 → H1 p = some (.tup xs) → P (.ref p) H1) : EvP te σ H P := fun H1 e Q q => h H1 e Q fun p H2 hn e2 h2 => q _ H2 e2 (nw_new hn) (hp p H2 (fresh_back e hn) (e.trans e2) h2)
theorem ep_LF {xs : List V} (h : EvL te σ H xs) (hp : ∀ p H1, H p = none → Ex H H1 → H1 p = some (.lst xs) → P (.ref p) H1) : EvP te σ H P := fun H1 e Q q => h H1 e Q fun p H2 hn e2 h2 => q _ H2 e2 (nw_new hn) (hp p H2 (fresh_back e hn) (e.trans e2) h2)
/-- tuple(xs) of a list -/
theorem eu_tupQ {xs : List V} (h : EvL te σ H xs) : EvU (tCB (rTupQ K) (tCons te tNil)) σ H xs := fun H1 e Q q =>
  h H1 e _ fun p H2 hn e2 hp => ⟨p, xs, rfl, .inl ⟨sq_of hp, fun l hl => q l _ (fresh_back e2 hl) (e2.trans (Ex.new hl)) upd_same⟩⟩
theorem eu_tupL {xs : List V} {p : Addr} (h : Ev te σ H (.ref p)) (hp : SqL K H p xs) : EvU (tCB (rTupQ K) (tCons te tNil)) σ H xs := fun H1 e Q q =>
  h H1 e _ fun H2 e2 => ⟨p, xs, rfl, .inl ⟨ex_l (e.trans e2) hp, fun l hl => q l _ (fresh_back e2 hl) (e2.trans (Ex.new hl)) upd_same⟩⟩
theorem el_listQ {p : Addr} {xs : List V} (ha : Ev te σ H (.ref p)) (h : SqL K H p xs ∨ SqT K H p xs) : EvL (tCB (rListQ K) (tCons te tNil)) σ H xs := fun H1 e Q q =>
  ha H1 e _ fun H2 e2 => ⟨p, xs, rfl, h.imp (ex_l (e.trans e2)) (ex_t (e.trans e2)), fun l hl => q l _ (fresh_back e2 hl) (e2.trans (Ex.new hl)) upd_same⟩
/-- len of a new list -/
theorem ev_lenQN {xs : List V} (ha : EvL te σ H xs) : Ev (tCB (rLenQ K) (tCons te tNil)) σ H (.int (xs.length : Int)) := fun H1 e Q q =>
  ha H1 e _ fun p H2 _ e2 hp => ⟨p, xs, rfl, .inl (sq_of hp), q H2 e2⟩
theorem ev_lenQL {p : Addr} {xs : List V} (ha : Ev te σ H (.ref p)) (h : SqL K H p xs) : Ev (tCB (rLenQ K) (tCons te tNil)) σ H (.int (xs.length : Int)) := fun H1 e Q q =>
  ha H1 e _ fun H2 e2 => ⟨p, xs, rfl, .inl (ex_l (e.trans e2) h), q H2 e2⟩
/-- [.. for .. in ..] of lines, all kept -/
theorem er_lc {wi : TI} {vs : List Nat} {J : It} {n : Nat} {G : Hp → Prop} {Y : Nat → Hp → V → Hp → Prop} (c : List V → HO) (w : Wf) (hc : c = .tup ∨ c = .lst) (wk : Walk J n G Y) (hi : EvI wi σ H J G) (hn : n ≤ 40000) (hG : ∀ H1 H2, Ex H1 H2 → G H1 → G H2)
    (hy : ∀ H0, Ex H H0 → ∀ i x H1 H2, i < n → Ex H0 H1 → Y i H1 x H2 → Ex H1 H2 ∧ TurnP g t te vs σ x H2 true (PR c n w H0 i)) :
    ∀ H0, Ex H H0 → ∀ Q : VK, (∀ p rs H2, H0 p = none → (∀ r ∈ rs, H0 r = none) → Ex H0 H2 → H2 p = some (.lst (rs.map V.ref)) → RowsAt c H2 rs n w → Q (.ref p) H2) → tLc wi g t te vs σ H0 Q := fun H0 e Q q =>
  el_lcW (H := H0) (fun _ => true) (PR c n w H0) (by rcases hc with rfl | rfl; exact stb_PR_tup; exact stb_PR_lst) wk (fun H1 e1 => hi H1 (e.trans e1)) hn hG (hy H0 e) H0 (Ex.refl H0) Q fun p xs H2 h1 h2 h3 m => by
    obtain ⟨rs, rfl, h4, h5⟩ := made_rows m
    exact q p rs H2 h1 h5 h2 h3 h4
/-- tuple([.. of lines ..]) is a web -/
theorem ew_tup {n : Nat} {w : Wf} (h : ∀ H0, Ex H H0 → ∀ Q : VK, (∀ p rs H2, H0 p = none → (∀ r ∈ rs, H0 r = none) → Ex H0 H2 → H2 p = some (.lst (rs.map V.ref)) → RowsAt .tup H2 rs n w → Q (.ref p) H2) → te σ H0 Q) :
    EvW (tCB (rTupQ K) (tCons te tNil)) σ H n w := fun H1 e Q q => h H1 e _ fun p rs H2 h1 _ e2 h3 h4 => ⟨p, rs.map V.ref, rfl, .inl ⟨sq_of h3, fun l hl => q l _ (e2.trans (Ex.new hl)) (webAt_of ⟨h4.1, fun i r hr => (Ex.new hl) r _ (h4.2 i r hr)⟩ upd_same)⟩⟩
theorem s_retW {n : Nat} {w : Wf} {D : Ends} (h : EvW te σ H n w) (k : ∀ p H2, Ex H H2 → WebAt H2 p n w → D.rt (.ref p) H2) : tRet te D σ H := h H (Ex.refl H) _ k
/-- names of several parts -/
theorem turn_two {i j : Nat} {vs : List Nat} {b : Bool} {T : Addr} {x y : V} (hT : H T = some (.tup [x, y])) (hw : wipe (((wipe σ vs).set i (some x)).set j (some y)) vs = wipe σ vs)
    (ht : EvT t (((wipe σ vs).set i (some x)).set j (some y)) H b) (he : b = true → EvP te (((wipe σ vs).set i (some x)).set j (some y)) H P) : TurnP (gTup K 2 (gCons (gName i) (gCons (gName j) gNil))) t te vs σ (.ref T) H b P :=
  fun k hk => ⟨T, [x, y], rfl, st_of hT, rfl, x, [y], rfl, y, [], rfl, rfl, hk _ hw ht he⟩
theorem r_ret {D : Ends} (h : te σ H D.rt) : tRet te D σ H := h
theorem r_cb {r : List V → Hp → VK → Prop} {ta : TA} {Q : VK} (h : ta σ H fun vs H1 => r vs H1 Q) : tCB r ta σ H Q := h
theorem r_call {sp : Sp} {E : XK} {ta : TA} {Q : VK} (h : ta σ H fun vs H1 => sp (vs ++ []) H1 Q E) : tCall sp [] E ta σ H Q := h
theorem r_cons {tr : TA} {Q : List V → Hp → Prop} (h : te σ H fun x H1 => tr σ H1 fun xs H2 => Q (x :: xs) H2) : tCons te tr σ H Q := h
theorem r_nil {Q : List V → Hp → Prop} (h : Q [] H) : tNil σ H Q := h
theorem r_ev {Q : VK} (h : Ev te σ H v) (k : ∀ H1, Ex H H1 → Q v H1) : te σ H Q := h H (Ex.refl H) Q k
theorem r_evA {ta : TA} {vs : List V} {Q : List V → Hp → Prop} (h : EvA ta σ H vs) (k : ∀ H1, Ex H H1 → Q vs H1) : ta σ H Q := h H (Ex.refl H) Q k
theorem r_evL {Q : VK} {xs : List V} (h : EvL te σ H xs) (k : ∀ p H1, H p = none → Ex H H1 → H1 p = some (.lst xs) → Q (.ref p) H1) : te σ H Q := h H (Ex.refl H) Q k
theorem r_evU {Q : VK} {xs : List V} (h : EvU te σ H xs) (k : ∀ p H1, H p = none → Ex H H1 → H1 p = some (.tup xs) → Q (.ref p) H1) : te σ H Q := h H (Ex.refl H) Q k
theorem r_lcL {te0 : TE} {vs : List Nat} {Q : VK} (h : te0 σ H fun x H1 => tLc (iList K (tC x)) g t te vs σ H1 Q) : tLc (iList K te0) g t te vs σ H Q := h
theorem r_seqA {i : Nat} {tz : TS} {D : Ends} (h : te σ H fun x H1 => tz D (σ.set i (some x)) H1) : tSeq (tAsg te (gName i)) tz D σ H := h
theorem r_test {tt : TE} {Q : Bool → Hp → Prop} (h : te σ H fun x H1 => ∃ k, x = .bl k ∧ Q k H1) : tTest te σ H Q := h
theorem r_op {r : R2} {ta tb : TE} {Q : VK} (h : ta σ H fun x H1 => tb σ H1 fun y H2 => r x y H2 Q) : tOp r ta tb σ H Q := h
end
end Sw

set_option Elab.async false
set_option linter.all false
set_option maxRecDepth 100000
set_option maxHeartbeats 4000000
/-! The webs' defs. -/
namespace Sw
open PySem PySem.Spec PyProof.Rows L2 Evl SW
def nV : Nat → V := fun k => V.int (k : Int)
theorem inV_nat (i : Nat) (lot : List Nat) : inV (.int (i : Int)) (lot.map nV) = decide (i ∈ lot) := by
  rw [Bool.eq_iff_iff, decide_eq_true_eq]
  unfold inV
  rw [List.any_map, List.any_eq_true]
  constructor
  · rintro ⟨k, hk, e⟩
    have e : eqV (.int (k : Int)) (.int (i : Int)) = true := e
    simp [eqV] at e
    have : k = i := by omega
    exact this ▸ hk
  · intro h
    exact ⟨i, h, by simp [eqV, nV]⟩
theorem flat_nats (lot : List Nat) : (lot.map nV).all flatV = true := by
  rw [List.all_map, List.all_eq_true]
  intro k _
  rfl
theorem _root_.SW.Good.small {n : Nat} {u : Wf} (g : Good n u) {x y : Nat} (hx : x < n) (hy : y < n) : -1 ≤ u x y ∧ u x y ≤ 1 := by
  by_cases e : x = y
  · subst e
    rw [g.diag x hx]
    omega
  · rcases g.off x y hx hy e with z | z <;> rw [z] <;> omega
theorem cm_l {i j : Int} (h : -1 ≤ i ∧ i ≤ 1) : CMul i j := .inl ⟨by omega, by omega⟩
theorem cm_r {i j : Int} (h : -1 ≤ j ∧ j ≤ 1) : CMul i j := .inr ⟨by omega, by omega⟩
/-- values of kept places, over anything that is walked -/
theorem el_lcV {wi : TI} {g : TG} {t : TT} {te : TE} {σ : L2.St} {H : Hp} {vs : List Nat} {J : It} {n : Nat} {G : Hp → Prop} {Y : Nat → Hp → V → Hp → Prop} (f : Nat → Bool) (v : Nat → V) (w : Walk J n G Y) (hi : EvI wi σ H J G) (hn : n ≤ 40000) (hG : ∀ H1 H2, Ex H1 H2 → G H1 → G H2)
    (hy : ∀ i x H1 H2, i < n → Ex H H1 → Y i H1 x H2 → Ex H1 H2 ∧ TurnP g t te vs σ x H2 (f i) (fun y _ => y = v i)) : EvL (tLc wi g t te vs) σ H ((kept n f).map v) := fun H0 e0 Q q =>
  el_lcW f (fun i y _ => y = v i) (stb_eq v) w hi hn hG hy H0 e0 Q fun p xs H2 h1 h2 h3 m => q p H2 h1 h2 (by rw [h3, made_eq m])
theorem el_is {te : TE} {σ : L2.St} {H : Hp} {xs ys : List V} (h : EvL te σ H xs) (e : xs = ys) : EvL te σ H ys := e ▸ h
theorem ep_ev {te : TE} {σ : L2.St} {H : Hp} {i : Int} {v : V} (h : Ev te σ H (.int i)) (e : V.int i = v) : EvP te σ H fun y _ => y = v := ep_of h (fun H1 _ => nw_int H1 i) fun _ _ => e
section
variable {P : Program} {w : World} {K : PySem.W.Frag} {mg : Str → Option Value} {base : Heap}
def spTurned : Sp := fun vs H Q _ => ∃ (p q : Addr) (n : Nat) (u : Wf) (lot : List Nat), vs = [.ref p, .ref q] ∧ WebAt H p n u ∧ Good n u ∧ H q = some (.tup (lot.map nV)) ∧ RetW n (turn u lot) H Q
abbrev n_turned_web : List Str := ["web", "lot", "place", "sides", "x", "line", "y", "sign"]
theorem sc_turned_web : FnScope n_turned_web ["web", "lot"] (defScope q_turned_web) := ⟨rfl, rfl, rfl, by decide +kernel, rfl, by decide +kernel, by decide +kernel⟩
theorem ok_turned_web (T : Txt K mg) (D : DefAt K mg "turned_web" q_turned_web) : Fc P w K mg base 1 "turned_web" ["web", "lot"] spTurned := by
  refine mk_fc D sc_turned_web (fun _ _ _ _ _ _ us hl => match us, hl with | [_, _], _ => rfl) (fun _ _ _ _ _ _ us hl => match us, hl with | [_, _], _ => rfl) (fun vs H Q E h => ?_) (fun f cdv A outer s H vs Q E hr h => ?_)
  · obtain ⟨p, q, n, u, lot, rfl, _⟩ := h
    rfl
  · obtain ⟨p, q, n, u, lot, rfl, hw, g, hq, k⟩ := h
    have nd := sc_turned_web.nd
    refine ⟨_, (pss_cons (ps_set (i := 3) nd rfl (by first | exact Or.inl rfl | exact Or.inr rfl) (pe_lc (own := [("place", 2)]) rfl nd (pi_range1 (by rfl) T.range (pa_cons (pe_callB (lenQ (K := K)) (by rfl) T.len PySem.boot_len (pa_cons (pv 0) pa_nil)) pa_nil)) (blkOk_by (own := [("place", 2)]) (N := n_turned_web) (sc := defScope q_turned_web) (by decide +kernel)) (fun _ _ _ _ _ => (pg_name (i := 2) nd rfl (by first | exact Or.inl rfl | exact Or.inr rfl))) (fun _ _ _ _ _ => pts_nil) (fun _ _ _ _ _ => (pe_ifExp (pt_cmpR (inS (K := K)) (pv 2) (pv 1) (by with_unfolding_all rfl)) (pe_un un_neg pe_int) pe_int))))
        (pss_one (ps_ret (pe_callTy (tupQ (K := K)) (by rfl) T.tuple (by decide +kernel) (pa_cons (pe_lc (own := [("x", 4), ("line", 5)]) rfl nd (piE (K := K) (by rfl) T.enum (pa_cons (pv 0) pa_nil)) (blkOk_by (own := [("x", 4), ("line", 5)]) (N := n_turned_web) (sc := defScope q_turned_web) (by decide +kernel)) (fun _ _ _ _ _ => (pgT (K := K) (n := 2) rfl (pgs_cons (pg_name (i := 4) nd rfl (by first | exact Or.inl rfl | exact Or.inr rfl)) (pgs_cons (pg_name (i := 5) nd rfl (by first | exact Or.inl rfl | exact Or.inr rfl)) pgs_nil)))) (fun _ _ _ _ _ => pts_nil) (fun _ _ _ _ _ => (pe_callTy (tupQ (K := K)) (by rfl) T.tuple (by decide +kernel) (pa_cons (pe_lc (own := [("y", 6), ("sign", 7)]) rfl nd (piE (K := K) (by rfl) T.enum (pa_cons (pv 5) pa_nil)) (blkOk_by (own := [("y", 6), ("sign", 7)]) (N := n_turned_web) (sc := relS _ (defScope q_turned_web)) (by decide +kernel)) (fun _ _ _ _ _ => (pgT (K := K) (n := 2) rfl (pgs_cons (pg_name (i := 6) nd rfl (by first | exact Or.inl rfl | exact Or.inr rfl)) (pgs_cons (pg_name (i := 7) nd rfl (by first | exact Or.inl rfl | exact Or.inr rfl)) pgs_nil)))) (fun _ _ _ _ _ => pts_nil) (fun _ _ _ _ _ => (pe_op op_mul (pe_op op_mul (pv 7) (pe_ix (ixL (K := K)) (pv 3) (pv 4) (fun _ _ => rfl))) (pe_ix (ixL (K := K)) (pv 3) (pv 6) (fun _ _ => rfl))))) pa_nil)))) pa_nil))))), ?_⟩
    have hn1 := g.lo
    have hn2 := g.hi
    refine q_asgL (xs := (List.range n).map fun i => V.int (side lot i)) ?_ fun p3 H1 hp3 e1 h3 => ?_
    · refine el_is (el_lcR1 (n := (n : Int)) (fun _ => true) (fun i => V.int (side lot i)) (ea_cons (ev_lenW hw (ev_var rfl)) ea_nil) (by omega) (fun _ => rfl) (fun i H1 e hi => et_yes) fun i H1 e hi _ => ?_) (given_all _ _)
      · refine ev_if (b := decide (i ∈ lot)) (et_test (ev_is (ev_op (ev_var rfl) (ev_var rfl) (rv_isT (st_of (e q _ hq)) rfl (flat_nats lot))) (by rw [inV_nat]))) (fun hb => ?_) fun hb => ?_
        · refine ev_is (ev_un ev_c ru_neg) ?_
          unfold side
          rw [if_pos (of_decide_eq_true hb)]
        · refine ev_is ev_c ?_
          unfold side
          rw [if_neg (of_decide_eq_false hb)]
    · obtain ⟨rs, hl, hp, hrow⟩ := id (hw.ex e1)
      refine s_retW (n := n) (w := turn u lot) (ew_tup (er_lc .tup (turn u lot) (.inl rfl) (n := n) (by have z := walk_enumT (K := K) (a := p) (xs := rs.map V.ref); rw [List.length_map, hl] at z; exact z) (ei_enumT (ea_cons (ev_var rfl) ea_nil) (st_of hp)) (by omega) (fun H1 H2 e z => ex_t e z) fun H0 e0 i x H2 H3 hi e2 hx => ?_)) fun p2 H2 e2 h2 => k p2 H2 (e1.trans e2) h2
      obtain ⟨Tt, a, b, rfl, hT, rfl, ha, hb⟩ := hx
      obtain rfl := Option.some.inj ha
      have hi' : i < rs.length := by omega
      have hb : (rs.map V.ref)[i]? = some b := hb
      rw [List.getElem?_map, List.getElem?_eq_getElem hi'] at hb
      obtain rfl := Option.some.inj hb
      have e4 : Ex H1 (upd H2 Tt (.tup [.int (i : Nat), .ref rs[i]])) := (e0.trans e2).trans (Ex.new hT)
      have e5 : Ex H0 (upd H2 Tt (.tup [.int (i : Nat), .ref rs[i]])) := e2.trans (Ex.new hT)
      refine ⟨Ex.new hT, turn_two upd_same rfl et_yes fun _ => ?_⟩
      generalize upd H2 Tt (.tup [.int (i : Nat), .ref rs[i]]) = H4 at e4 e5
      have hrow' := e4 _ _ (hrow i _ (List.getElem?_eq_getElem hi'))
      refine ep_UF (xs := rowV n (turn u lot) i) (eu_tupQ ?_) fun r H5 hr e6 h6 => ⟨r, rfl, fresh_back e5 hr, h6⟩
      refine el_is (el_lcV (fun _ => true) (fun j => V.int (turn u lot i j)) (walk_enumT (K := K) (a := rs[i])) (ei_enumT (ea_cons (ev_var rfl) ea_nil) (st_of hrow')) (by rw [List.length_map, List.length_range]; omega) (fun H1 H2 e z => ex_t e z) fun j x H5 H6 hj e5 hx => ?_) (by rw [kept_all, List.length_map, List.length_range]; rfl)
      · have hj' : j < n := by rw [List.length_map, List.length_range] at hj; exact hj
        obtain ⟨T2, a, b, rfl, hT2, rfl, ha, hb⟩ := hx
        obtain rfl := Option.some.inj ha
        have hb : ((List.range n).map fun j => V.int (u i j))[j]? = some b := hb
        rw [rowAt hj'] at hb
        obtain rfl := Option.some.inj hb
        refine ⟨Ex.new hT2, turn_two upd_same rfl et_yes fun _ => ?_⟩
        have h3' := sq_of (K := K) ((e4.trans (e5.trans (Ex.new (o := .tup [.int (j : Nat), .int (u i j)]) hT2))) _ _ h3)
        exact ep_ev (ev_op (ev_op (ev_var rfl) (ev_op (ev_var rfl) (ev_var rfl) (rv_ixL h3' (atI_nat (rowAt hi)))) (rv_I (cm_l (g.small hi hj')))) (ev_op (ev_var rfl) (ev_var rfl) (rv_ixL h3' (atI_nat (rowAt hj')))) (rv_I (cm_r (by unfold side; split <;> omega)))) rfl
end
end Sw

set_option Elab.async false
set_option linter.all false
set_option maxRecDepth 100000
set_option maxHeartbeats 4000000
/-! Threes and counts. -/
namespace Sw
open PySem PySem.Spec PyProof.Rows L2 Evl SW
def tv (t : Nat × Nat × Nat) : List V := [nV t.1, nV t.2.1, nV t.2.2]
/-- at xs stand tuples -/
def TupsAt (cs : List (List V)) (xs : List V) (H : Hp) : Prop := Paired (fun c v => ∃ t, v = V.ref t ∧ H t = some (.tup c)) cs xs
theorem TupsAt.ex {cs : List (List V)} {xs : List V} {H H' : Hp} (e : Ex H H') (h : TupsAt cs xs H) : TupsAt cs xs H' := Paired.mapP h fun c v ⟨t, a, b⟩ => ⟨t, a, e t _ b⟩
theorem trs_eq (n : Nat) : ((List.range n).flatMap fun i => (List.range (n - (i + 1))).flatMap fun j => (List.range (n - (i + 1 + j + 1))).map fun l : Nat => [V.int (i : Int), V.int ((i : Int) + 1 + (j : Int)), V.int ((i : Int) + 1 + (j : Int) + 1 + (l : Int))]) = (trs n).map tv := by
  unfold trs up
  rw [List.map_flatMap]
  congr 1
  funext i
  rw [List.map_flatMap, List.flatMap_map]
  congr 1
  funext j
  rw [List.map_map, List.map_map]
  apply List.map_congr_left
  intro l _
  show [V.int (i : Int), V.int ((i : Int) + 1 + (j : Int)), V.int ((i : Int) + 1 + (j : Int) + 1 + (l : Int))] = tv (i, i + 1 + j, i + 1 + j + 1 + l)
  unfold tv nV
  simp
theorem q_unp {K : PySem.W.Frag} {ta : TE} {σ : L2.St} {H : Hp} {a : Addr} {xs : List V} {n : Nat} {gs : TGs} {tz : TS} {D : Ends} (h : Ev ta σ H (.ref a)) (hx : SqT K H a xs) (hn : xs.length = n) (k : ∀ H1, Ex H H1 → gs xs σ H1 (tz D)) : tSeq (tAsg ta (gTup K n gs)) tz D σ H :=
  h H (Ex.refl H) _ fun H1 e => ⟨a, xs, rfl, ex_t e hx, hn, k H1 e⟩
theorem keep_set {σ : L2.St} {j : Nat} {x : Option V} (h : σ[j]? = some none) : Keep σ (σ.set j x) := by
  refine ⟨List.length_set .., fun i v hi => ?_⟩
  by_cases e : j = i
  · subst e
    rw [h] at hi
    cases hi
  · rw [List.getElem?_set_ne e]
    exact hi
section
variable {P : Program} {w : World} {K : PySem.W.Frag} {mg : Str → Option Value} {base : Heap}
def spThrees : Sp := fun vs H Q _ => ∃ n : Nat, vs = [.int (n : Int)] ∧ n ≤ 10 ∧ ∀ p xs H2, H p = none → Ex H H2 → H2 p = some (.lst xs) → TupsAt ((trs n).map tv) xs H2 → Q (.ref p) H2
abbrev n_threes_of : List Str := ["many", "x", "y", "z"]
theorem sc_threes_of : FnScope n_threes_of ["many"] (defScope q_threes_of) := ⟨rfl, rfl, rfl, by decide +kernel, rfl, by decide +kernel, by decide +kernel⟩
theorem ok_threes_of (T : Txt K mg) (D : DefAt K mg "threes_of" q_threes_of) : Fc P w K mg base 1 "threes_of" ["many"] spThrees := by
  refine mk_fc D sc_threes_of (fun _ _ _ _ _ _ us hl => match us, hl with | [_], _ => rfl) (fun _ _ _ _ _ _ us hl => match us, hl with | [_], _ => rfl) (fun vs H Q E h => ?_) (fun f cdv A outer s H vs Q E hr h => ?_)
  · obtain ⟨n, rfl, _⟩ := h
    rfl
  · obtain ⟨n, rfl, hn, k⟩ := h
    have nd := sc_threes_of.nd
    refine ⟨_, (pss_one (ps_ret (pe_lc3 (own := [("x", 1), ("y", 2), ("z", 3)]) (vs1 := [2, 3]) (vs2 := [3]) rfl nd (pi_range1 (by rfl) T.range (pa_cons (pv 0) pa_nil)) (blkOk_by (own := [("x", 1), ("y", 2), ("z", 3)]) (N := n_threes_of) (sc := defScope q_threes_of) (by decide +kernel)) (by decide) (by decide) (by decide) (fun _ _ _ _ _ => (pg_name (i := 1) nd rfl (by first | exact Or.inl rfl | exact Or.inr rfl))) (fun _ _ _ _ _ => pts_nil) (fun _ _ _ _ _ => (pi_range2 (by rfl) T.range (pa_cons (pe_op op_add (pv 1) pe_int) (pa_cons (pv 0) pa_nil)))) (fun _ _ _ _ _ => (pg_name (i := 2) nd rfl (by first | exact Or.inl rfl | exact Or.inr rfl))) (fun _ _ _ _ _ => pts_nil) (fun _ _ _ _ _ => (pi_range2 (by rfl) T.range (pa_cons (pe_op op_add (pv 2) pe_int) (pa_cons (pv 0) pa_nil)))) (fun _ _ _ _ _ => (pg_name (i := 3) nd rfl (by first | exact Or.inl rfl | exact Or.inr rfl))) (fun _ _ _ _ _ => pts_nil) (fun _ _ _ _ _ => (pe_tup (pa_cons (pv 1) (pa_cons (pv 2) (pa_cons (pv 3) pa_nil)))))))), ?_⟩
    have e00 : ∀ i : Nat, (0 : Int) + (i : Int) = (i : Int) := fun i => Int.zero_add _
    refine el_lc3 (n := n) (m1 := fun i => n - (i + 1)) (m2 := fun i j => n - (i + 1 + j + 1)) (f1 := fun i j => .int (((i : Int) + 1) + (j : Int))) (f2 := fun i j l => .int (((i : Int) + 1 + (j : Int) + 1) + (l : Int))) (el := fun i j l => [V.int (i : Int), V.int ((i : Int) + 1 + (j : Int)), V.int ((i : Int) + 1 + (j : Int) + 1 + (l : Int))])
      walk_range (ei_range1 (n := (n : Int)) (ea_cons (ev_var rfl) ea_nil) (by omega)) (by omega) (fun i => by omega) (fun i j => by omega) (fun i hi H2 k0 hk => ?_) H (Ex.refl H) _ fun p xs H2 hp e h m => k p xs H2 hp e h (by rw [← trs_eq]; exact m)
    rw [e00 i]
    refine hk _ (keep_set rfl) ⟨Itr ((i : Int) + 1) ((n : Int) - ((i : Int) + 1)).toNat, ei_range2 (ea_cons (ev_op (ev_var rfl) ev_c rv_I0) (ea_cons (ev_var rfl) ea_nil)) (by omega), by have q := walk_range (lo := (i : Int) + 1) (n := ((n : Int) - ((i : Int) + 1)).toNat); rw [show ((n : Int) - ((i : Int) + 1)).toNat = n - (i + 1) by omega] at q ⊢; exact q, fun j hj H3 k1 hk1 => ?_⟩
    refine hk1 _ (keep_set rfl) ⟨Itr ((i : Int) + 1 + (j : Int) + 1) ((n : Int) - ((i : Int) + 1 + (j : Int) + 1)).toNat, ei_range2 (ea_cons (ev_op (ev_var rfl) ev_c rv_I0) (ea_cons (ev_var rfl) ea_nil)) (by omega), by have q := walk_range (lo := (i : Int) + 1 + (j : Int) + 1) (n := ((n : Int) - ((i : Int) + 1 + (j : Int) + 1)).toNat); rw [show ((n : Int) - ((i : Int) + 1 + (j : Int) + 1)).toNat = n - (i + 1 + j + 1) by omega] at q ⊢; exact q, fun l hl H4 k2 hk2 => ?_⟩
    exact hk2 _ (keep_set rfl) (eu_tup (ea_cons (ev_var rfl) (ea_cons (ev_var rfl) (ea_cons (ev_var rfl) ea_nil))) (show 3 ≤ 100000 by decide))
def spTied : Sp := fun vs H Q _ => ∃ (p : Addr) (n : Nat) (u : Wf), vs = [.ref p] ∧ WebAt H p n u ∧ Good n u ∧ RetV .non H Q
abbrev n_check_all_tied : List Str := ["web", "x", "y"]
theorem sc_check_all_tied : FnScope n_check_all_tied ["web"] (defScope q_check_all_tied) := ⟨rfl, rfl, rfl, by decide +kernel, rfl, by decide +kernel, by decide +kernel⟩
theorem ok_check_all_tied (T : Txt K mg) (D : DefAt K mg "check_all_tied" q_check_all_tied) : Fc P w K mg base 1 "check_all_tied" ["web"] spTied := by
  refine mk_fc D sc_check_all_tied (fun _ _ _ _ _ _ us hl => match us, hl with | [_], _ => rfl) (fun _ _ _ _ _ _ us hl => match us, hl with | [_], _ => rfl) (fun vs H Q E h => ?_) (fun f cdv A outer s H vs Q E hr h => ?_)
  · obtain ⟨p, n, u, rfl, _⟩ := h
    rfl
  · obtain ⟨p, n, u, rfl, hw, g, k⟩ := h
    have nd := sc_check_all_tied.nd
    refine ⟨_, (pss_one (ps_for PassesOwn.never rfl (pi_range1 (by rfl) T.range (pa_cons (pe_callB (lenQ (K := K)) (by rfl) T.len PySem.boot_len (pa_cons (pv 0) pa_nil)) pa_nil)) (pg_name (i := 1) nd rfl (by first | exact Or.inl rfl | exact Or.inr rfl))
        (pss_one (ps_for PassesOwn.never rfl (pi_range2 (by rfl) T.range (pa_cons (pe_op op_add (pv 1) pe_int) (pa_cons (pe_callB (lenQ (K := K)) (by rfl) T.len PySem.boot_len (pa_cons (pv 0) pa_nil)) pa_nil))) (pg_name (i := 2) nd rfl (by first | exact Or.inl rfl | exact Or.inr rfl))
        (pss_one (ps_if (pt_cmpR op_eq (pe_ix (ixT (K := K)) (pe_ix (ixT (K := K)) (pv 0) (pv 1) (fun _ _ => rfl)) (pv 2) (fun _ _ => rfl)) pe_int (nomark _))
        (pss_one ps_never) pss_nil)))))), ?_⟩
    have hn1 := g.lo
    have hn2 := g.hi
    refine s_forR1 (n := (n : Int)) (ea_cons (ev_lenW hw (ev_var rfl)) ea_nil) (by omega) (fun _ σ' H' => Ex H H' ∧ ∃ a b, σ' = [some (.ref p), a, b]) (fun H1 e => ⟨e, _, _, rfl⟩) (fun i σ' H' hi ⟨e, a, b, hσ⟩ => ?_) fun σ' H' ⟨e, _⟩ => k H' e
    subst hσ
    refine s_forR2 (lo := (i : Int) + 1) (n := (n : Int)) (ea_cons (ev_op (ev_var rfl) ev_c rv_I0) (ea_cons (ev_lenW (hw.ex e) (ev_var rfl)) ea_nil)) (by omega) (fun _ σ' H' => Ex H H' ∧ ∃ b, σ' = [some (.ref p), some (.int (i : Int)), b]) (fun H1 e1 => ⟨e.trans e1, _, rfl⟩) (fun j σ' H' hj ⟨e1, b, hσ⟩ => ?_) fun σ' H' ⟨e1, b, hσ⟩ => ⟨e1, _, _, hσ⟩
    subst hσ
    have ej : ((i : Int) + 1 + (j : Int)) = ((i + 1 + j : Nat) : Int) := by omega
    rw [ej]
    refine s_when (b := false) (et_is (et_test (ev_op (x := .int (u i (i + 1 + j))) (y := .int 0) (ev_web (hw.ex e1) (by omega) (by omega) (ev_var rfl) (ev_var rfl) (ev_var rfl)) ev_c (rv_eq rfl))) ?_) (fun z => nomatch z) fun _ H2 e2 => ⟨e1.trans e2, _, rfl⟩
    rw [decide_eq_false]
    rcases g.off i (i + 1 + j) (by omega) (by omega) (by omega) with z | z <;> rw [z] <;> exact fun z => nomatch z
def spBad3 (K : PySem.W.Frag) : Sp := fun vs H Q _ => ∃ (p t : Addr) (n : Nat) (u : Wf) (x y z : Nat), vs = [.ref p, .ref t] ∧ WebAt H p n u ∧ Good n u ∧ H t = some (.tup (tv (x, y, z))) ∧ x < n ∧ y < n ∧ z < n ∧ RetV (.bl (bad u x y z)) H Q
abbrev n_is_bad_three : List Str := ["web", "three", "x", "y", "z"]
theorem sc_is_bad_three : FnScope n_is_bad_three ["web", "three"] (defScope q_is_bad_three) := ⟨rfl, rfl, rfl, by decide +kernel, rfl, by decide +kernel, by decide +kernel⟩
theorem ok_is_bad_three (T : Txt K mg) (D : DefAt K mg "is_bad_three" q_is_bad_three) : Fc P w K mg base 1 "is_bad_three" ["web", "three"] (spBad3 K) := by
  refine mk_fc D sc_is_bad_three (fun _ _ _ _ _ _ us hl => match us, hl with | [_, _], _ => rfl) (fun _ _ _ _ _ _ us hl => match us, hl with | [_, _], _ => rfl) (fun vs H Q E h => ?_) (fun f cdv A outer s H vs Q E hr h => ?_)
  · obtain ⟨p, t, n, u, x, y, z, rfl, _⟩ := h
    rfl
  · obtain ⟨p, t, n, u, x, y, z, rfl, hw, g, ht, hx, hy, hz, k⟩ := h
    have nd := sc_is_bad_three.nd
    refine ⟨_, (pss_cons (ps_asg (pv 1) (pgT (K := K) (n := 3) rfl (pgs_cons (pg_name (i := 2) nd rfl (by first | exact Or.inl rfl | exact Or.inr rfl)) (pgs_cons (pg_name (i := 3) nd rfl (by first | exact Or.inl rfl | exact Or.inr rfl)) (pgs_cons (pg_name (i := 4) nd rfl (by first | exact Or.inl rfl | exact Or.inr rfl)) pgs_nil)))))
        (pss_one (ps_ret (pe_cmpR op_eq (pe_op op_mul (pe_op op_mul (pe_ix (ixT (K := K)) (pe_ix (ixT (K := K)) (pv 0) (pv 2) (fun _ _ => rfl)) (pv 3) (fun _ _ => rfl)) (pe_ix (ixT (K := K)) (pe_ix (ixT (K := K)) (pv 0) (pv 2) (fun _ _ => rfl)) (pv 4) (fun _ _ => rfl))) (pe_ix (ixT (K := K)) (pe_ix (ixT (K := K)) (pv 0) (pv 3) (fun _ _ => rfl)) (pv 4) (fun _ _ => rfl))) (pe_un un_neg pe_int) (nomark _))))), ?_⟩
    refine q_unp (ev_var rfl) (st_of ht) rfl fun H1 e1 => ⟨nV x, [nV y, nV z], rfl, nV y, [nV z], rfl, nV z, [], rfl, rfl, ?_⟩
    have hw1 := hw.ex e1
    refine s_ret (ev_is (ev_op (x := .int (u x y * u x z * u y z)) (y := .int (-1)) (ev_op (ev_op (ev_web hw1 hx hy (ev_var rfl) (ev_var rfl) (ev_var rfl)) (ev_web hw1 hx hz (ev_var rfl) (ev_var rfl) (ev_var rfl)) (rv_I (cm_l (g.small hx hy)))) (ev_web hw1 hy hz (ev_var rfl) (ev_var rfl) (ev_var rfl)) (rv_I (cm_r (g.small hy hz)))) (ev_un ev_c ru_neg) (rv_eq rfl)) ?_) fun H2 e2 => k H2 (e1.trans e2)
    unfold bad
    rw [V.bl.injEq, Bool.eq_iff_iff, decide_eq_true_eq, decide_eq_true_eq, V.int.injEq]
end
end Sw

set_option Elab.async false
set_option linter.all false
set_option maxRecDepth 100000
set_option maxHeartbeats 4000000
/-! Bad threes, counts, steady. -/
namespace Sw
open PySem PySem.Spec PyProof.Rows L2 Evl SW
theorem filter_at {α : Type} (d : α) (p : α → Bool) (l : List α) : (kept l.length fun i => p (l.getD i d)).length = (l.filter p).length := by
  have e : l = (List.range l.length).map fun i => l.getD i d := by
    apply List.ext_getElem
    · simp
    · intro i h1 h2
      simp [List.getD_eq_getElem?_getD, h1]
  conv => rhs; rw [e]
  rw [List.filter_map, List.length_map]
  rfl
theorem stb_true : Stb fun _ _ _ => True := ⟨fun _ _ _ _ _ _ => trivial, fun _ _ _ _ _ _ _ _ _ => trivial⟩
theorem tups_at {cs : List (List V)} {xs : List V} {H : Hp} (h : TupsAt cs xs H) {i : Nat} {c : List V} {x : V} (h1 : cs[i]? = some c) (h2 : xs[i]? = some x) : ∃ t, x = .ref t ∧ H t = some (.tup c) := paired_at h h1 h2
/-- the counts as ints -/
def cI (n : Nat) (u : Wf) : List Int := (cnts n u).map Int.ofNat
theorem cI_V (n : Nat) (u : Wf) : (cI n u).map V.int = (cnts n u).map nV := by
  unfold cI
  rw [List.map_map]
  rfl
theorem allI_iff (n : Nat) (u : Wf) : AllI (cI n u) ↔ AllEq (cnts n u) := by
  unfold AllI AllEq cI
  constructor
  · intro h a ha b hb
    have := h a (List.mem_map.mpr ⟨a, ha, rfl⟩) b (List.mem_map.mpr ⟨b, hb, rfl⟩)
    omega
  · intro h a ha b hb
    obtain ⟨a', ha', rfl⟩ := List.mem_map.mp ha
    obtain ⟨b', hb', rfl⟩ := List.mem_map.mp hb
    rw [h a' ha' b' hb']
theorem trs_len (n : Nat) (h : n ≤ 10) : (trs n).length ≤ 120 := by
  have h : ((List.range 11).all fun n => decide ((trs n).length ≤ 120)) = true := by decide +kernel
  exact of_decide_eq_true (List.all_eq_true.mp h n (List.mem_range.mpr (by omega)))
theorem prs_len (n : Nat) (h : n ≤ 10) : (prs n).length ≤ 45 := by
  have h : ((List.range 11).all fun n => decide ((prs n).length ≤ 45)) = true := by decide +kernel
  exact of_decide_eq_true (List.all_eq_true.mp h n (List.mem_range.mpr (by omega)))
theorem cI_len (n : Nat) (u : Wf) (h : n ≤ 10) : (cI n u).length ≤ 45 := by
  unfold cI cnts
  rw [List.length_map, List.length_map]
  exact prs_len n h
section
variable {P : Program} {w : World} {K : PySem.W.Frag} {mg : Str → Option Value} {base : Heap}
def spBads : Sp := fun vs H Q _ => ∃ (p : Addr) (n : Nat) (u : Wf), vs = [.ref p] ∧ WebAt H p n u ∧ Good n u ∧ ∀ q xs H2, Ex H H2 → H2 q = some (.tup xs) → xs.length = (badT n u).length → Q (.ref q) H2
abbrev n_bad_threes : List Str := ["web", "three"]
theorem sc_bad_threes : FnScope n_bad_threes ["web"] (defScope q_bad_threes) := ⟨rfl, rfl, rfl, by decide +kernel, rfl, by decide +kernel, by decide +kernel⟩
theorem ok_bad_threes (T : Txt K mg) (D : DefAt K mg "bad_threes" q_bad_threes) (c_check_web : Fc P w K mg base 4 "check_web" ["value"] spCheckWeb) (c_check_all_tied : Fc P w K mg base 1 "check_all_tied" ["web"] spTied)
    (c_threes_of : Fc P w K mg base 1 "threes_of" ["many"] spThrees) (c_is_bad_three : Fc P w K mg base 1 "is_bad_three" ["web", "three"] (spBad3 K)) : Fc P w K mg base 5 "bad_threes" ["web"] spBads := by
  refine mk_fc D sc_bad_threes (fun _ _ _ _ _ _ us hl => match us, hl with | [_], _ => rfl) (fun _ _ _ _ _ _ us hl => match us, hl with | [_], _ => rfl) (fun vs H Q E h => ?_) (fun f cdv A outer s H vs Q E hr h => ?_)
  · obtain ⟨p, n, u, rfl, _⟩ := h
    rfl
  · obtain ⟨p, n, u, rfl, hw, g, k⟩ := h
    have nd := sc_bad_threes.nd
    refine ⟨_, (pss_cons (ps_expr (pe_f c_check_web hr (by decide) rfl (pa_cons (pv 0) pa_nil)))
        (pss_cons (ps_expr (pe_f c_check_all_tied hr (by decide) rfl (pa_cons (pv 0) pa_nil)))
        (pss_one (ps_ret (pe_callTy (tupQ (K := K)) (by rfl) T.tuple (by decide +kernel) (pa_cons (pe_lc (own := [("three", 1)]) rfl nd (piL (K := K) (pe_f c_threes_of hr (by decide) rfl (pa_cons (pe_callB (lenQ (K := K)) (by rfl) T.len PySem.boot_len (pa_cons (pv 0) pa_nil)) pa_nil))) (blkOk_by (own := [("three", 1)]) (N := n_bad_threes) (sc := defScope q_bad_threes) (by decide +kernel)) (fun _ _ _ _ _ => (pg_name (i := 1) nd rfl (by first | exact Or.inl rfl | exact Or.inr rfl))) (fun _ _ _ _ _ => (pts_one (pt_val (pe_f c_is_bad_three hr (by decide) rfl (pa_cons (pv 0) (pa_cons (pv 1) pa_nil)))))) (fun _ _ _ _ _ => (pv 1))) pa_nil)))))), ?_⟩
    have hn2 := g.hi
    refine q_drop (ev_call (ea_cons (ev_var rfl) ea_nil) fun H1 e Q q E => ⟨p, n, u, rfl, hw.ex e, g, q⟩) fun H1 e1 => ?_
    refine q_drop (ev_call (ea_cons (ev_var rfl) ea_nil) fun H2 e Q q E => ⟨p, n, u, rfl, hw.ex (e1.trans e), g, q⟩) fun H2 e2 => ?_
    refine r_ret (r_cb (r_cons (r_lcL (r_call (r_evA (ea_cons (ev_lenW (hw.ex (e1.trans e2)) (ev_var rfl)) ea_nil) fun H3 e3 => ⟨n, rfl, hn2, fun q xs H4 hq e4 h4 tz => ?_⟩)))))
    have e14 : Ex H H4 := ((e1.trans e2).trans e3).trans e4
    have hw4 := hw.ex e14
    have hlen : (trs n).length = xs.length := by have z := Paired.length tz; rw [List.length_map] at z; exact z
    refine el_lcW (wi := iList K (tC (.ref q))) (fun i => (fun t : Nat × Nat × Nat => bad u t.1 t.2.1 t.2.2) ((trs n).getD i (0, 0, 0))) (fun _ _ _ => True) stb_true (walk_list (K := K) (a := q) (xs := xs)) (ei_list ev_c (sq_of h4)) (by have := trs_len n hn2; omega) (fun H1 H2 e z => ex_l e z) (fun i x H5 H6 hi e5 hx => ?_) H4 (Ex.refl H4) _ fun D ys H5 hD e5 h5 m => ?_
    · obtain ⟨rfl, hx⟩ := hx
      have hi' : i < (trs n).length := by omega
      obtain ⟨t, rfl, ht⟩ := tups_at (tz.ex e5) (by rw [List.getElem?_map, List.getElem?_eq_getElem hi']; rfl) hx
      refine ⟨Ex.refl _, turn_name (fun _ => rfl) (et_B (ev_call (ea_cons (ev_var rfl) (ea_cons (ev_var rfl) ea_nil)) fun H1 e Q q E => ?_)) fun _ => ep_of (ev_var rfl) (fun H1 e => nw_tup (e _ _ ht)) fun _ _ => trivial⟩
      have hm := mem_trs.mp (List.getElem_mem hi')
      refine ⟨p, t, n, u, (trs n)[i].1, (trs n)[i].2.1, (trs n)[i].2.2, rfl, hw4.ex (e5.trans e), g, e _ _ ht, by omega, by omega, by omega, ?_⟩
      have eg : (trs n).getD i (0, 0, 0) = (trs n)[i] := by rw [List.getD_eq_getElem?_getD, List.getElem?_eq_getElem hi']; rfl
      rw [eg] at q
      exact q
    · refine ⟨D, ys, rfl, .inl ⟨sq_of h5, fun l hl => k l ys _ ((e14.trans e5).trans (Ex.new hl)) upd_same ?_⟩⟩
      have z := Paired.length m
      rw [← z, ← hlen]
      exact filter_at (0, 0, 0) (fun t : Nat × Nat × Nat => bad u t.1 t.2.1 t.2.2) (trs n)
def spSeen : Sp := fun vs H Q _ => ∃ (p : Addr) (n : Nat) (u : Wf) (x : Nat), vs = [.ref p, .int (x : Int)] ∧ WebAt H p n u ∧ Good n u ∧ x < n ∧ RetW n (turn u (lotOf n u x)) H Q
abbrev n_seen_from : List Str := ["web", "place", "y"]
theorem sc_seen_from : FnScope n_seen_from ["web", "place"] (defScope q_seen_from) := ⟨rfl, rfl, rfl, by decide +kernel, rfl, by decide +kernel, by decide +kernel⟩
theorem ok_seen_from (T : Txt K mg) (D : DefAt K mg "seen_from" q_seen_from) (c_check_web : Fc P w K mg base 4 "check_web" ["value"] spCheckWeb) (c_check_place : Fc P w K mg base 3 "check_place" ["many", "value"] spCheckPlace)
    (c_check_all_tied : Fc P w K mg base 1 "check_all_tied" ["web"] spTied) (c_turned_web : Fc P w K mg base 1 "turned_web" ["web", "lot"] spTurned) : Fc P w K mg base 5 "seen_from" ["web", "place"] spSeen := by
  refine mk_fc D sc_seen_from (fun _ _ _ _ _ _ us hl => match us, hl with | [_, _], _ => rfl) (fun _ _ _ _ _ _ us hl => match us, hl with | [_, _], _ => rfl) (fun vs H Q E h => ?_) (fun f cdv A outer s H vs Q E hr h => ?_)
  · obtain ⟨p, n, u, x, rfl, _⟩ := h
    rfl
  · obtain ⟨p, n, u, x, rfl, hw, g, hx, k⟩ := h
    have nd := sc_seen_from.nd
    refine ⟨_, (pss_cons (ps_expr (pe_f c_check_web hr (by decide) rfl (pa_cons (pv 0) pa_nil)))
        (pss_cons (ps_expr (pe_f c_check_place hr (by decide) rfl (pa_cons (pe_callB (lenQ (K := K)) (by rfl) T.len PySem.boot_len (pa_cons (pv 0) pa_nil)) (pa_cons (pv 1) pa_nil))))
        (pss_cons (ps_expr (pe_f c_check_all_tied hr (by decide) rfl (pa_cons (pv 0) pa_nil)))
        (pss_one (ps_ret (pe_f c_turned_web hr (by decide) rfl (pa_cons (pv 0) (pa_cons (pe_callTy (tupQ (K := K)) (by rfl) T.tuple (by decide +kernel) (pa_cons (pe_lc (own := [("y", 2)]) rfl nd (pi_range1 (by rfl) T.range (pa_cons (pe_callB (lenQ (K := K)) (by rfl) T.len PySem.boot_len (pa_cons (pv 0) pa_nil)) pa_nil)) (blkOk_by (own := [("y", 2)]) (N := n_seen_from) (sc := defScope q_seen_from) (by decide +kernel)) (fun _ _ _ _ _ => (pg_name (i := 2) nd rfl (by first | exact Or.inl rfl | exact Or.inr rfl))) (fun _ _ _ _ _ => (pts_one (pt_cmpR op_eq (pe_ix (ixT (K := K)) (pe_ix (ixT (K := K)) (pv 0) (pv 1) (fun _ _ => rfl)) (pv 2) (fun _ _ => rfl)) (pe_un un_neg pe_int) (nomark _)))) (fun _ _ _ _ _ => (pv 2))) pa_nil)) pa_nil)))))))), ?_⟩
    have hn2 := g.hi
    refine q_drop (ev_call (ea_cons (ev_var rfl) ea_nil) fun H1 e Q q E => ⟨p, n, u, rfl, hw.ex e, g, q⟩) fun H1 e1 => ?_
    refine q_drop (ev_call (ea_cons (ev_lenW (hw.ex e1) (ev_var rfl)) (ea_cons (ev_var rfl) ea_nil)) fun H2 e Q q E => ⟨n, x, rfl, by omega, by omega, q⟩) fun H2 e2 => ?_
    refine q_drop (ev_call (ea_cons (ev_var rfl) ea_nil) fun H3 e Q q E => ⟨p, n, u, rfl, hw.ex ((e1.trans e2).trans e), g, q⟩) fun H3 e3 => ?_
    have e13 := (e1.trans e2).trans e3
    have hw3 := hw.ex e13
    refine r_ret (r_call (r_cons (r_ev (ev_var (v := .ref p) rfl) fun H4 e4 => r_cons (r_evU (eu_tupQ (xs := (lotOf n u x).map nV) (el_is (el_lcR1 (n := (n : Int)) (fun y => decide (u x y = -1)) nV (ea_cons (ev_lenW (hw3.ex e4) (ev_var rfl)) ea_nil) (by omega) (fun _ => rfl) (fun y H5 e5 hy => ?_) fun y H5 e5 hy _ => ev_var rfl) rfl)) fun q H5 _ e5 hq => ?_))))
    · exact et_is (et_test (ev_op (x := .int (u x y)) (y := .int (-1)) (ev_web (hw3.ex (e4.trans e5)) hx (by omega) (ev_var rfl) (ev_var rfl) (ev_var rfl)) (ev_un ev_c ru_neg) (rv_eq rfl))) (by rw [Bool.eq_iff_iff, decide_eq_true_eq, decide_eq_true_eq, V.int.injEq])
    · exact ⟨p, q, n, u, lotOf n u x, rfl, hw3.ex (e4.trans e5), g, hq, fun r H6 e6 h6 => k r H6 ((e13.trans (e4.trans e5)).trans e6) h6⟩
end
end Sw

set_option Elab.async false
set_option linter.all false
set_option maxRecDepth 100000
set_option maxHeartbeats 4000000
/-! Counts, steady. -/
namespace Sw
open PySem PySem.Spec PyProof.Rows L2 Evl SW
section
variable (n : Nat) (f : Nat → Nat → V)
/-- pairs in their order, up to the line i -/
def pairsTo (i : Nat) : List V := (List.range i).flatMap fun x => (up n x).map fun y => f x y
def lineTo (i j : Nat) : List V := (List.range j).map fun l => f i (i + 1 + l)
theorem pairsTo_zero : pairsTo n f 0 = [] := rfl
theorem pairsTo_succ (i : Nat) : pairsTo n f (i + 1) = pairsTo n f i ++ lineTo f i (n - (i + 1)) := by
  unfold pairsTo lineTo up
  rw [List.range_succ, List.flatMap_append]
  simp only [List.flatMap_cons, List.flatMap_nil, List.append_nil, List.map_map]
  rfl
theorem lineTo_succ (i j : Nat) : lineTo f i (j + 1) = lineTo f i j ++ [f i (i + 1 + j)] := by
  unfold lineTo
  rw [List.range_succ, List.map_append]
  rfl
theorem pairsTo_all : pairsTo n f n = (prs n).map fun p => f p.1 p.2 := by
  unfold pairsTo prs
  rw [List.map_flatMap]
  congr 1
  funext x
  rw [List.map_map]
  rfl
theorem pairsTo_len (hn : n ≤ 10) : ∀ i, i ≤ n → (pairsTo n f i).length ≤ 10 * i
  | 0, _ => Nat.zero_le _
  | i + 1, h => by
    have := pairsTo_len hn i (by omega)
    rw [pairsTo_succ, List.length_append]
    unfold lineTo
    rw [List.length_map, List.length_range]
    omega
end
theorem cnts_to (n : Nat) (u : Wf) : pairsTo n (fun x y => nV (kk n u x y)) n = (cI n u).map V.int := by
  rw [pairsTo_all, cI_V]
  unfold cnts
  rw [List.map_map]
  rfl
section
variable {P : Program} {w : World} {K : PySem.W.Frag} {mg : Str → Option Value} {base : Heap}
def spCounts : Sp := fun vs H Q _ => ∃ (p : Addr) (n : Nat) (u : Wf), vs = [.ref p] ∧ WebAt H p n u ∧ Good n u ∧ RetL ((cI n u).map V.int) H Q
abbrev n_bad_counts : List Str := ["web", "many", "found", "x", "y", "z", "bad"]
theorem sc_bad_counts : FnScope n_bad_counts ["web"] (defScope q_bad_counts) := ⟨rfl, rfl, rfl, by decide +kernel, rfl, by decide +kernel, by decide +kernel⟩
theorem ok_bad_counts (T : Txt K mg) (D : DefAt K mg "bad_counts" q_bad_counts) : Fc P w K mg base 1 "bad_counts" ["web"] spCounts := by
  refine mk_fc D sc_bad_counts (fun _ _ _ _ _ _ us hl => match us, hl with | [_], _ => rfl) (fun _ _ _ _ _ _ us hl => match us, hl with | [_], _ => rfl) (fun vs H Q E h => ?_) (fun f cdv A outer s H vs Q E hr h => ?_)
  · obtain ⟨p, n, u, rfl, _⟩ := h
    rfl
  · obtain ⟨p, n, u, rfl, hw, g, k⟩ := h
    have nd := sc_bad_counts.nd
    refine ⟨_, (pss_cons (ps_set (i := 1) nd rfl (by first | exact Or.inl rfl | exact Or.inr rfl) (pe_callB (lenQ (K := K)) (by rfl) T.len PySem.boot_len (pa_cons (pv 0) pa_nil)))
        (pss_cons (ps_set (i := 2) nd rfl (by first | exact Or.inl rfl | exact Or.inr rfl) (pe_lst pa_nil))
        (pss_cons (ps_for PassesOwn.never rfl (pi_range1 (by rfl) T.range (pa_cons (pv 1) pa_nil)) (pg_name (i := 3) nd rfl (by first | exact Or.inl rfl | exact Or.inr rfl))
        (pss_one (ps_for PassesOwn.never rfl (pi_range2 (by rfl) T.range (pa_cons (pe_op op_add (pv 3) pe_int) (pa_cons (pv 1) pa_nil))) (pg_name (i := 4) nd rfl (by first | exact Or.inl rfl | exact Or.inr rfl))
        (pss_cons (ps_setLc (i := 6) (own := [("z", 5)]) rfl nd rfl rfl (sw_true rfl rfl rfl (by decide +kernel)) (pi_range1 (by rfl) T.range (pa_cons (pv 1) pa_nil)) (blkOk_by (own := [("z", 5)]) (N := n_bad_counts) (sc := defScope q_bad_counts) (by decide +kernel)) (fun _ _ _ _ _ => (pg_name (i := 5) nd rfl (by first | exact Or.inl rfl | exact Or.inr rfl))) (fun _ _ _ _ _ => (pts_one (PW.pt (pw_and (pt_cmpR (niS (K := K)) (pv 5) (pe_tup (pa_cons (pv 3) (pa_cons (pv 4) pa_nil))) (by with_unfolding_all rfl)) (pw_and1 (pt_cmpR op_eq (pe_op op_mul (pe_op op_mul (pe_ix (ixT (K := K)) (pe_ix (ixT (K := K)) (pv 0) (pv 3) (fun _ _ => rfl)) (pv 4) (fun _ _ => rfl)) (pe_ix (ixT (K := K)) (pe_ix (ixT (K := K)) (pv 0) (pv 3) (fun _ _ => rfl)) (pv 5) (fun _ _ => rfl))) (pe_ix (ixT (K := K)) (pe_ix (ixT (K := K)) (pv 0) (pv 4) (fun _ _ => rfl)) (pv 5) (fun _ _ => rfl))) (pe_un un_neg pe_int) (nomark _))))))) (fun _ _ _ _ _ => (pv 5)))
        (pss_one (ps_expr (pe_bm PySem.F.plainAttrs_list PySem.F.slot_list_append PySem.F.type_list_append mt_append (pv 2) (pa_cons (pe_callB (lenQ (K := K)) (by rfl) T.len PySem.boot_len (pa_cons (pv 6) pa_nil)) pa_nil))))))))
        (pss_one (ps_ret (pv 2)))))), ?_⟩
    have hn1 := g.lo
    have hn2 := g.hi
    refine q_asg (ev_lenW hw (ev_var rfl)) fun H1 e1 => q_asgL (el_lst ea_nil (by decide)) fun l H2 hl e2 h2 => ?_
    have hl0 : H l = none := fresh_back e1 hl
    refine q_forR1 (n := (n : Int)) (ea_cons (ev_var rfl) ea_nil) (by omega) (fun i σ' H' => Ex H H' ∧ H' l = some (.lst (pairsTo n (fun x y => nV (kk n u x y)) i)) ∧ ∃ a b c d, σ' = [some (.ref p), some (.int (n : Int)), some (.ref l), a, b, c, d]) (fun H3 e3 => ⟨(e1.trans e2).trans e3, e3 _ _ h2, _, _, _, _, rfl⟩) (fun i σ' H' hi ⟨e, hL, a, b, c, d, hσ⟩ => ?_) fun σ' H' ⟨e, hL, a, b, c, d, hσ⟩ => ?_
    · subst hσ
      refine s_forR2 (lo := (i : Int) + 1) (n := (n : Int)) (ea_cons (ev_op (ev_var rfl) ev_c rv_I0) (ea_cons (ev_var rfl) ea_nil)) (by omega) (fun j σ' H' => Ex H H' ∧ H' l = some (.lst (pairsTo n (fun x y => nV (kk n u x y)) i ++ lineTo (fun x y => nV (kk n u x y)) i j)) ∧ ∃ b c d, σ' = [some (.ref p), some (.int (n : Int)), some (.ref l), some (.int (i : Int)), b, c, d])
        (fun H3 e3 => ⟨e.trans e3, by unfold lineTo; rw [List.range_zero, List.map_nil, List.append_nil]; exact e3 _ _ hL, _, _, _, rfl⟩) (fun j σ' H' hj ⟨e, hL, b, c, d, hσ⟩ => ?_) fun σ' H' ⟨e, hL, b, c, d, hσ⟩ => ⟨e, by rw [pairsTo_succ]; rw [show ((n : Int) - ((i : Int) + 1)).toNat = n - (i + 1) by omega] at hL; exact hL, _, _, _, _, hσ⟩
      subst hσ
      have ej : ((i : Int) + 1 + (j : Int)) = ((i + 1 + j : Nat) : Int) := by omega
      rw [ej]
      refine q_asgL (xs := given n (fun z => (decide (z ≠ i) && decide (z ≠ i + 1 + j)) && bad u i (i + 1 + j) z) nV) (el_lcR1 (n := (n : Int)) _ nV (ea_cons (ev_var rfl) ea_nil) (by omega) (fun _ => rfl) (fun z H3 e3 hz => ?_) fun z H3 e3 hz _ => ev_var rfl) fun q H3 hq e3 h3 => ?_
      · have hw3 := hw.ex (e.trans e3)
        refine et_and (et_test (ev_is (ev_niU (ev_var rfl) (eu_tup (vs := [nV i, nV (i + 1 + j)]) (ea_cons (ev_var rfl) (ea_cons (ev_var rfl) ea_nil)) (show 2 ≤ 100000 by decide)) rfl rfl) ?_)) fun _ => ?_
        · rw [show [nV i, nV (i + 1 + j)] = [i, i + 1 + j].map nV from rfl, inV_nat]
          by_cases h1 : z = i <;> by_cases h2 : z = i + 1 + j <;> simp [h1, h2]
        · refine et_is (et_test (ev_op (x := .int (u i (i + 1 + j) * u i z * u (i + 1 + j) z)) (y := .int (-1)) (ev_op (ev_op (ev_web hw3 (by omega) (by omega) (ev_var rfl) (ev_var rfl) (ev_var rfl)) (ev_web hw3 (by omega) (by omega) (ev_var rfl) (ev_var rfl) (ev_var rfl)) (rv_I (cm_l (g.small (by omega) (by omega))))) (ev_web hw3 (by omega) (by omega) (ev_var rfl) (ev_var rfl) (ev_var rfl)) (rv_I (cm_r (g.small (by omega) (by omega))))) (ev_un ev_c ru_neg) (rv_eq rfl))) ?_
          unfold bad
          rw [Bool.eq_iff_iff, decide_eq_true_eq, decide_eq_true_eq, V.int.injEq]
      · have hl4 := pairsTo_len n (fun x y => nV (kk n u x y)) hn2 i (by omega)
        refine s_app (e3 _ _ hL) (ev_var rfl) (ev_lenQL (ev_var rfl) (sq_of h3)) (by rw [List.length_append]; unfold lineTo; rw [List.length_map, List.length_range]; omega) fun H4 e4 => ⟨Ex.mut ((e.trans e3).trans e4) hl0, ?_, _, _, _, rfl⟩
        rw [upd_same, lineTo_succ, List.append_assoc]
        have hk : (given n (fun z => (decide (z ≠ i) && decide (z ≠ i + 1 + j)) && bad u i (i + 1 + j) z) nV).length = kk n u i (i + 1 + j) := by
          unfold given kk oth
          rw [List.length_map, List.filter_filter]
          congr 1
          apply List.filter_congr
          intro z _
          rw [Bool.and_comm]
        rw [hk]
        rfl
    · subst hσ
      refine s_ret (ev_var rfl) fun H3 e3 => k l H3 hl0 (e.trans e3) (e3 _ _ (by rw [← cnts_to]; exact hL))
def spTies : Sp := fun vs H Q _ => ∃ (p : Addr) (n : Nat) (u : Wf), vs = [.ref p] ∧ WebAt H p n u ∧ Good n u ∧ ∀ q H2, Ex H H2 → H2 q = some (.tup ((cI n u).map V.int)) → Q (.ref q) H2
abbrev n_bad_at_ties : List Str := ["web"]
theorem sc_bad_at_ties : FnScope n_bad_at_ties ["web"] (defScope q_bad_at_ties) := ⟨rfl, rfl, rfl, by decide +kernel, rfl, by decide +kernel, by decide +kernel⟩
theorem ok_bad_at_ties (T : Txt K mg) (D : DefAt K mg "bad_at_ties" q_bad_at_ties) (c_check_web : Fc P w K mg base 4 "check_web" ["value"] spCheckWeb) (c_check_all_tied : Fc P w K mg base 1 "check_all_tied" ["web"] spTied)
    (c_bad_counts : Fc P w K mg base 1 "bad_counts" ["web"] spCounts) : Fc P w K mg base 5 "bad_at_ties" ["web"] spTies := by
  refine mk_fc D sc_bad_at_ties (fun _ _ _ _ _ _ us hl => match us, hl with | [_], _ => rfl) (fun _ _ _ _ _ _ us hl => match us, hl with | [_], _ => rfl) (fun vs H Q E h => ?_) (fun f cdv A outer s H vs Q E hr h => ?_)
  · obtain ⟨p, n, u, rfl, _⟩ := h
    rfl
  · obtain ⟨p, n, u, rfl, hw, g, k⟩ := h
    have nd := sc_bad_at_ties.nd
    refine ⟨_, (pss_cons (ps_expr (pe_f c_check_web hr (by decide) rfl (pa_cons (pv 0) pa_nil)))
        (pss_cons (ps_expr (pe_f c_check_all_tied hr (by decide) rfl (pa_cons (pv 0) pa_nil)))
        (pss_one (ps_ret (pe_callTy (tupQ (K := K)) (by rfl) T.tuple (by decide +kernel) (pa_cons (pe_f c_bad_counts hr (by decide) rfl (pa_cons (pv 0) pa_nil)) pa_nil)))))), ?_⟩
    refine q_drop (ev_call (ea_cons (ev_var rfl) ea_nil) fun H1 e Q q E => ⟨p, n, u, rfl, hw.ex e, g, q⟩) fun H1 e1 => ?_
    refine q_drop (ev_call (ea_cons (ev_var rfl) ea_nil) fun H2 e Q q E => ⟨p, n, u, rfl, hw.ex (e1.trans e), g, q⟩) fun H2 e2 => ?_
    exact s_retU (eu_tupQ (el_call (ea_cons (ev_var rfl) ea_nil) fun H3 e Q q E => ⟨p, n, u, rfl, hw.ex ((e1.trans e2).trans e), g, q⟩)) fun q H3 _ e3 h3 => k q H3 ((e1.trans e2).trans e3) h3
def spSteady : Sp := fun vs H Q _ => ∃ (p : Addr) (n : Nat) (u : Wf), vs = [.ref p] ∧ WebAt H p n u ∧ Good n u ∧ ∀ b : Bool, (b = true ↔ AllEq (cnts n u)) → RetV (.bl b) H Q
abbrev n_is_steady : List Str := ["web"]
theorem sc_is_steady : FnScope n_is_steady ["web"] (defScope q_is_steady) := ⟨rfl, rfl, rfl, by decide +kernel, rfl, by decide +kernel, by decide +kernel⟩
theorem ok_is_steady (T : Txt K mg) (D : DefAt K mg "is_steady" q_is_steady) (c_check_web : Fc P w K mg base 4 "check_web" ["value"] spCheckWeb) (c_check_all_tied : Fc P w K mg base 1 "check_all_tied" ["web"] spTied)
    (c_bad_counts : Fc P w K mg base 1 "bad_counts" ["web"] spCounts) : Fc P w K mg base 5 "is_steady" ["web"] spSteady := by
  refine mk_fc D sc_is_steady (fun _ _ _ _ _ _ us hl => match us, hl with | [_], _ => rfl) (fun _ _ _ _ _ _ us hl => match us, hl with | [_], _ => rfl) (fun vs H Q E h => ?_) (fun f cdv A outer s H vs Q E hr h => ?_)
  · obtain ⟨p, n, u, rfl, _⟩ := h
    rfl
  · obtain ⟨p, n, u, rfl, hw, g, k⟩ := h
    have nd := sc_is_steady.nd
    refine ⟨_, (pss_cons (ps_expr (pe_f c_check_web hr (by decide) rfl (pa_cons (pv 0) pa_nil)))
        (pss_cons (ps_expr (pe_f c_check_all_tied hr (by decide) rfl (pa_cons (pv 0) pa_nil)))
        (pss_one (ps_ret (pe_cmpR op_lt (pe_callB call_lenS (by rfl) T.len PySem.boot_len (pa_cons (pe_callTy (setQ (K := K) rfl) (by rfl) T.set (by decide +kernel) (pa_cons (pe_f c_bad_counts hr (by decide) rfl (pa_cons (pv 0) pa_nil)) pa_nil)) pa_nil)) pe_int (nomark _)))))), ?_⟩
    refine q_drop (ev_call (ea_cons (ev_var rfl) ea_nil) fun H1 e Q q E => ⟨p, n, u, rfl, hw.ex e, g, q⟩) fun H1 e1 => ?_
    refine q_drop (ev_call (ea_cons (ev_var rfl) ea_nil) fun H2 e Q q E => ⟨p, n, u, rfl, hw.ex (e1.trans e), g, q⟩) fun H2 e2 => ?_
    refine r_ret (r_op (r_cb (r_cons (r_cb (r_cons (r_evL (el_call (ea_cons (ev_var rfl) ea_nil) fun H3 e Q q E => ⟨p, n, u, rfl, hw.ex ((e1.trans e2).trans e), g, q⟩) fun q H3 _ e3 h3 => r_nil ⟨q, cI n u, rfl, .inl (sq_of h3), by have := cI_len n u g.hi; omega, fun r m hr2 sz => r_nil ⟨r, _, m, rfl, upd_same, ⟨_, _, rfl, rfl, ?_⟩⟩⟩))))))
    refine k (decide ((m : Int) < 2)) ?_ _ (((e1.trans e2).trans e3).trans (Ex.new hr2))
    rw [decide_eq_true_eq, ← allI_iff, ← sz.1]
    omega
end
end Sw

set_option Elab.async false
set_option linter.all false
set_option maxRecDepth 100000
set_option maxHeartbeats 4000000
/-! The law's own looks: bad threes, counts. -/
namespace Sw
open PySem PySem.Spec PyProof.Rows L2 Evl SW
section
variable {K : PySem.W.Frag} {σ : L2.St} {H : Hp} {te : TE} {t : TT} {g : TG}
theorem r_asg {i : Nat} {D : Ends} (h : te σ H fun x H1 => D.nx (σ.set i (some x)) H1) : tAsg te (gName i) D σ H := h
/-- len([..]) -/
theorem ev_lenLc {wi : TI} {vs : List Nat} {J : It} {n : Nat} {G : Hp → Prop} {Y : Nat → Hp → V → Hp → Prop} (f : Nat → Bool) (c : Nat) (hc : (kept n f).length = c) (w : Walk J n G Y) (hi : EvI wi σ H J G) (hn : n ≤ 40000) (hG : ∀ H1 H2, Ex H1 H2 → G H1 → G H2)
    (hy : ∀ i x H1 H2, i < n → Ex H H1 → Y i H1 x H2 → Ex H1 H2 ∧ TurnP g t te vs σ x H2 (f i) (fun _ _ => True)) : Ev (tCB (rLenQ K) (tCons (tLc wi g t te vs) tNil)) σ H (.int (c : Int)) := fun H1 e Q q =>
  r_cb (r_cons (el_lcW f (fun _ _ _ => True) stb_true w hi hn hG hy H1 e _ fun p xs H2 _ e2 h2 m => r_nil ⟨p, xs, rfl, .inl (sq_of h2), by rw [← Paired.length m, hc]; exact q H2 e2⟩))
end
theorem made_tups {H : Hp} (F : Nat → List V) : ∀ {is : List Nat} {xs : List V}, Made (fun i v H => ∃ p, v = V.ref p ∧ H p = some (.tup (F i))) is xs H → TupsAt (is.map F) xs H
  | [], _, .nil => .nil
  | i :: is, v :: xs, .cons r t => .cons r (made_tups F t)
/-- the bad threes in their order -/
def btRow (n : Nat) (u : Wf) (x y : Nat) : List (List V) := ((up n y).filter fun z => bad u x y z).map fun z => tv (x, y, z)
def btLine (n : Nat) (u : Wf) (x j : Nat) : List (List V) := (List.range j).flatMap fun l => btRow n u x (x + 1 + l)
def btTo (n : Nat) (u : Wf) (i : Nat) : List (List V) := (List.range i).flatMap fun x => btLine n u x (n - (x + 1))
theorem btTo_succ (n : Nat) (u : Wf) (i : Nat) : btTo n u (i + 1) = btTo n u i ++ btLine n u i (n - (i + 1)) := by
  unfold btTo
  rw [List.range_succ, List.flatMap_append]
  simp only [List.flatMap_cons, List.flatMap_nil, List.append_nil]
theorem btLine_succ (n : Nat) (u : Wf) (x j : Nat) : btLine n u x (j + 1) = btLine n u x j ++ btRow n u x (x + 1 + j) := by
  unfold btLine
  rw [List.range_succ, List.flatMap_append]
  simp only [List.flatMap_cons, List.flatMap_nil, List.append_nil]
theorem btRow_len (n : Nat) (u : Wf) (x y : Nat) : (btRow n u x y).length ≤ n := by
  unfold btRow up
  rw [List.length_map]
  have h := List.length_filter_le (fun z => bad u x y z) ((List.range (n - (y + 1))).map fun i => y + 1 + i)
  rw [List.length_map, List.length_range] at h
  omega
theorem btLine_len (n : Nat) (u : Wf) (x : Nat) : ∀ j, (btLine n u x j).length ≤ n * j
  | 0 => Nat.zero_le _
  | j + 1 => by
    have h1 := btLine_len n u x j
    have h2 := btRow_len n u x (x + 1 + j)
    rw [btLine_succ, List.length_append, Nat.mul_succ]
    omega
theorem btTo_len (n : Nat) (u : Wf) (hn : n ≤ 10) : ∀ i, (btTo n u i).length ≤ 100 * i
  | 0 => Nat.zero_le _
  | i + 1 => by
    have h1 := btTo_len n u hn i
    have h2 := btLine_len n u i (n - (i + 1))
    have h3 : n * (n - (i + 1)) ≤ 10 * 10 := Nat.mul_le_mul hn (by omega)
    rw [btTo_succ, List.length_append]
    omega
theorem bt_all (n : Nat) (u : Wf) : btTo n u n = (badT n u).map tv := by
  unfold btTo btLine btRow badT trs
  rw [List.filter_flatMap, List.map_flatMap]
  congr 1
  funext x
  rw [List.filter_flatMap, List.map_flatMap]
  conv => rhs; rw [show up n x = (List.range (n - (x + 1))).map fun i => x + 1 + i from rfl]
  rw [List.flatMap_map]
  congr 1
  funext l
  rw [List.filter_map, List.map_map]
  rfl
theorem tups_app {cs ds : List (List V)} {xs ys : List V} {H : Hp} (h1 : TupsAt cs xs H) (h2 : TupsAt ds ys H) : TupsAt (cs ++ ds) (xs ++ ys) H := paired_append h1 h2
theorem badT_len (n : Nat) (u : Wf) (h : n ≤ 10) : (badT n u).length ≤ 120 := by
  unfold badT
  exact Nat.le_trans (List.length_filter_le ..) (trs_len n h)
section
variable {P : Program} {w : World} {K : PySem.W.Frag} {mg : Str → Option Value} {base : Heap}
def spLawBads : Sp := fun vs H Q _ => ∃ (p : Addr) (n : Nat) (u : Wf), vs = [.ref p] ∧ WebAt H p n u ∧ Good n u ∧ ∀ q xs H2, Ex H H2 → H2 q = some (.tup xs) → TupsAt ((badT n u).map tv) xs H2 → Q (.ref q) H2
abbrev n_law_bad_threes : List Str := ["_law_web", "_law_found", "_law_x", "_law_y", "_law_z"]
theorem sc_law_bad_threes : FnScope n_law_bad_threes ["_law_web"] (defScope q_law_bad_threes) := ⟨rfl, rfl, rfl, by decide +kernel, rfl, by decide +kernel, by decide +kernel⟩
theorem ok_law_bad_threes (T : Txt K mg) (D : DefAt K mg "_law_bad_threes" q_law_bad_threes) : Fc P w K mg base 1 "_law_bad_threes" ["_law_web"] spLawBads := by
  refine mk_fc D sc_law_bad_threes (fun _ _ _ _ _ _ us hl => match us, hl with | [_], _ => rfl) (fun _ _ _ _ _ _ us hl => match us, hl with | [_], _ => rfl) (fun vs H Q E h => ?_) (fun f cdv A outer s H vs Q E hr h => ?_)
  · obtain ⟨p, n, u, rfl, _⟩ := h
    rfl
  · obtain ⟨p, n, u, rfl, hw, g, k⟩ := h
    have nd := sc_law_bad_threes.nd
    refine ⟨_, (pss_cons (ps_set (i := 1) nd rfl (by first | exact Or.inl rfl | exact Or.inr rfl) (pe_lst pa_nil))
        (pss_cons (ps_for PassesOwn.never rfl (pi_range1 (by rfl) T.range (pa_cons (pe_callB (lenQ (K := K)) (by rfl) T.len PySem.boot_len (pa_cons (pv 0) pa_nil)) pa_nil)) (pg_name (i := 2) nd rfl (by first | exact Or.inl rfl | exact Or.inr rfl))
        (pss_one (ps_for PassesOwn.never rfl (pi_range2 (by rfl) T.range (pa_cons (pe_op op_add (pv 2) pe_int) (pa_cons (pe_callB (lenQ (K := K)) (by rfl) T.len PySem.boot_len (pa_cons (pv 0) pa_nil)) pa_nil))) (pg_name (i := 3) nd rfl (by first | exact Or.inl rfl | exact Or.inr rfl))
        (pss_one (ps_set (i := 1) nd rfl (by first | exact Or.inl rfl | exact Or.inr rfl) (pe_op op_cat (pv 1) (pe_lc (own := [("_law_z", 4)]) rfl nd (pi_range2 (by rfl) T.range (pa_cons (pe_op op_add (pv 3) pe_int) (pa_cons (pe_callB (lenQ (K := K)) (by rfl) T.len PySem.boot_len (pa_cons (pv 0) pa_nil)) pa_nil))) (blkOk_by (own := [("_law_z", 4)]) (N := n_law_bad_threes) (sc := defScope q_law_bad_threes) (by decide +kernel)) (fun _ _ _ _ _ => (pg_name (i := 4) nd rfl (by first | exact Or.inl rfl | exact Or.inr rfl))) (fun _ _ _ _ _ => (pts_one (pt_cmpR op_eq (pe_op op_mul (pe_op op_mul (pe_ix (ixT (K := K)) (pe_ix (ixT (K := K)) (pv 0) (pv 2) (fun _ _ => rfl)) (pv 3) (fun _ _ => rfl)) (pe_ix (ixT (K := K)) (pe_ix (ixT (K := K)) (pv 0) (pv 2) (fun _ _ => rfl)) (pv 4) (fun _ _ => rfl))) (pe_ix (ixT (K := K)) (pe_ix (ixT (K := K)) (pv 0) (pv 3) (fun _ _ => rfl)) (pv 4) (fun _ _ => rfl))) (pe_un un_neg pe_int) (nomark _)))) (fun _ _ _ _ _ => (pe_tup (pa_cons (pv 2) (pa_cons (pv 3) (pa_cons (pv 4) pa_nil))))))))))))
        (pss_one (ps_ret (pe_callTy (tupQ (K := K)) (by rfl) T.tuple (by decide +kernel) (pa_cons (pv 1) pa_nil)))))), ?_⟩
    have hn2 := g.hi
    refine q_asgL (el_lst ea_nil (by decide)) fun l H1 hl e1 h1 => ?_
    refine q_forR1 (n := (n : Int)) (ea_cons (ev_lenW (hw.ex e1) (ev_var rfl)) ea_nil) (by omega) (fun i σ' H' => Ex H H' ∧ ∃ l xs, H' l = some (.lst xs) ∧ TupsAt (btTo n u i) xs H' ∧ ∃ a b c, σ' = [some (.ref p), some (.ref l), a, b, c]) (fun H2 e2 => ⟨e1.trans e2, l, [], e2 _ _ h1, .nil, _, _, _, rfl⟩) (fun i σ' H' hi ⟨e, l, xs, hL, tz, a, b, c, hσ⟩ => ?_) fun σ' H' ⟨e, l, xs, hL, tz, a, b, c, hσ⟩ => ?_
    · subst hσ
      refine s_forR2 (lo := (i : Int) + 1) (n := (n : Int)) (ea_cons (ev_op (ev_var rfl) ev_c rv_I0) (ea_cons (ev_lenW (hw.ex e) (ev_var rfl)) ea_nil)) (by omega) (fun j σ' H' => Ex H H' ∧ ∃ l xs, H' l = some (.lst xs) ∧ TupsAt (btTo n u i ++ btLine n u i j) xs H' ∧ ∃ b c, σ' = [some (.ref p), some (.ref l), some (.int (i : Int)), b, c])
        (fun H2 e2 => ⟨e.trans e2, l, xs, e2 _ _ hL, by unfold btLine; rw [List.range_zero, List.flatMap_nil, List.append_nil]; exact tz.ex e2, _, _, rfl⟩) (fun j σ' H' hj ⟨e, l, xs, hL, tz, b, c, hσ⟩ => ?_) fun σ' H' ⟨e, l, xs, hL, tz, b, c, hσ⟩ => ⟨e, l, xs, hL, by rw [btTo_succ]; rw [show ((n : Int) - ((i : Int) + 1)).toNat = n - (i + 1) by omega] at tz; exact tz, _, _, _, hσ⟩
      subst hσ
      have ej : ((i : Int) + 1 + (j : Int)) = ((i + 1 + j : Nat) : Int) := by omega
      rw [ej]
      have lL := btTo_len n u hn2 i
      have lL2 := btLine_len n u i j
      have lL3 : n * j ≤ 10 * 10 := Nat.mul_le_mul hn2 (by omega)
      have lz := Paired.length tz
      rw [List.length_append] at lz
      have en : ((n : Int) - (((i + 1 + j : Nat) : Int) + 1)).toNat = n - (i + 1 + j + 1) := by omega
      refine r_asg (r_op (r_ev (ev_var rfl) fun H2 e2 => el_lcW (fun l => bad u i (i + 1 + j) (i + 1 + j + 1 + l)) (fun l v H => ∃ p, v = V.ref p ∧ H p = some (.tup (tv (i, i + 1 + j, i + 1 + j + 1 + l)))) (stb_tup _) walk_range (ei_range2 (lo := ((i + 1 + j : Nat) : Int) + 1) (n := (n : Int)) (ea_cons (ev_op (ev_var rfl) ev_c rv_I0) (ea_cons (ev_lenW (hw.ex (e.trans e2)) (ev_var rfl)) ea_nil)) (by omega)) (by omega) (fun _ _ _ z => z) (fun z x H3 H4 hz e3 hx => ?_) H2 (Ex.refl H2) _ fun q ys H3 hq e3 h3 m => ?_))
      · obtain ⟨rfl, hx⟩ := hx
        have hx : x = .int (((i + 1 + j : Nat) : Int) + 1 + (z : Int)) := hx
        subst hx
        have ez : ((i + 1 + j : Nat) : Int) + 1 + (z : Int) = ((i + 1 + j + 1 + z : Nat) : Int) := by omega
        rw [ez]
        have hw3 := hw.ex ((e.trans e2).trans e3)
        refine ⟨Ex.refl _, turn_name (fun _ => rfl) ?_ fun _ => ep_UF (eu_tup (vs := tv (i, i + 1 + j, i + 1 + j + 1 + z)) (ea_cons (ev_var rfl) (ea_cons (ev_var rfl) (ea_cons (ev_var rfl) ea_nil))) (show 3 ≤ 100000 by decide)) fun r H5 _ _ h5 => ⟨r, rfl, h5⟩⟩
        refine et_is (et_test (ev_op (x := .int (u i (i + 1 + j) * u i (i + 1 + j + 1 + z) * u (i + 1 + j) (i + 1 + j + 1 + z))) (y := .int (-1)) (ev_op (ev_op (ev_web hw3 (by omega) (by omega) (ev_var rfl) (ev_var rfl) (ev_var rfl)) (ev_web hw3 (by omega) (by omega) (ev_var rfl) (ev_var rfl) (ev_var rfl)) (rv_I (cm_l (g.small (by omega) (by omega))))) (ev_web hw3 (by omega) (by omega) (ev_var rfl) (ev_var rfl) (ev_var rfl)) (rv_I (cm_r (g.small (by omega) (by omega))))) (ev_un ev_c ru_neg) (rv_eq rfl))) ?_
        unfold bad
        rw [Bool.eq_iff_iff, decide_eq_true_eq, decide_eq_true_eq, V.int.injEq]
      · have ml := Paired.length m
        have mk := kept_len ((n : Int) - (((i + 1 + j : Nat) : Int) + 1)).toNat fun l => bad u i (i + 1 + j) (i + 1 + j + 1 + l)
        refine ⟨l, q, xs, ys, rfl, rfl, e3 _ _ (e2 _ _ hL), h3, sz_of (by omega), fun r hr => ⟨((e.trans e2).trans e3).trans (Ex.new hr), r, xs ++ ys, upd_same, ?_, _, _, rfl⟩⟩
        have e23 := (e2.trans e3).trans (Ex.new (o := .lst (xs ++ ys)) hr)
        rw [btLine_succ, ← List.append_assoc]
        refine tups_app (tz.ex e23) ?_
        have z := (made_tups (fun l => tv (i, i + 1 + j, i + 1 + j + 1 + l)) m).ex (Ex.new (o := .lst (xs ++ ys)) hr)
        have ee : btRow n u i (i + 1 + j) = (kept ((n : Int) - (((i + 1 + j : Nat) : Int) + 1)).toNat fun l => bad u i (i + 1 + j) (i + 1 + j + 1 + l)).map fun l => tv (i, i + 1 + j, i + 1 + j + 1 + l) := by
          unfold btRow up kept
          rw [en, List.filter_map, List.map_map]
          rfl
        rw [ee]
        exact z
    · subst hσ
      refine s_retU (eu_tupL (ev_var rfl) (sq_of hL)) fun q H2 _ e2 h2 => k q xs H2 (e.trans e2) h2 ?_
      rw [← bt_all]
      exact tz.ex e2
theorem in_tv (i : Nat) (t : Nat × Nat × Nat) : inV (.int (i : Int)) (tv t) = inT i t := by
  rw [show tv t = [t.1, t.2.1, t.2.2].map nV from rfl, inV_nat]
  unfold inT
  rw [Bool.eq_iff_iff]
  simp [or_assoc]
theorem flat_tv (t : Nat × Nat × Nat) : (tv t).all flatV = true := rfl
theorem lawcnts_to (n : Nat) (u : Wf) (g : Good n u) : pairsTo n (fun x y => nV ((badT n u).filter fun t => inT x t && inT y t).length) n = (cI n u).map V.int := by
  rw [pairsTo_all, cI_V, ← cnts_eq g]
  unfold lawcnts
  rw [List.map_map]
  rfl
def spLawCounts : Sp := fun vs H Q _ => ∃ (p : Addr) (n : Nat) (u : Wf), vs = [.ref p] ∧ WebAt H p n u ∧ Good n u ∧ ∀ q H2, Ex H H2 → H2 q = some (.tup ((cI n u).map V.int)) → Q (.ref q) H2
abbrev n_law_counts : List Str := ["_law_web", "_law_many", "_law_threes", "_law_found", "_law_x", "_law_y", "_law_one"]
theorem sc_law_counts : FnScope n_law_counts ["_law_web"] (defScope q_law_counts) := ⟨rfl, rfl, rfl, by decide +kernel, rfl, by decide +kernel, by decide +kernel⟩
theorem ok_law_counts (T : Txt K mg) (D : DefAt K mg "_law_counts" q_law_counts) (c_law_bad_threes : Fc P w K mg base 1 "_law_bad_threes" ["_law_web"] spLawBads) : Fc P w K mg base 2 "_law_counts" ["_law_web"] spLawCounts := by
  refine mk_fc D sc_law_counts (fun _ _ _ _ _ _ us hl => match us, hl with | [_], _ => rfl) (fun _ _ _ _ _ _ us hl => match us, hl with | [_], _ => rfl) (fun vs H Q E h => ?_) (fun f cdv A outer s H vs Q E hr h => ?_)
  · obtain ⟨p, n, u, rfl, _⟩ := h
    rfl
  · obtain ⟨p, n, u, rfl, hw, g, k⟩ := h
    have nd := sc_law_counts.nd
    refine ⟨_, (pss_cons (ps_set (i := 1) nd rfl (by first | exact Or.inl rfl | exact Or.inr rfl) (pe_callB (lenQ (K := K)) (by rfl) T.len PySem.boot_len (pa_cons (pv 0) pa_nil)))
        (pss_cons (ps_set (i := 2) nd rfl (by first | exact Or.inl rfl | exact Or.inr rfl) (pe_f c_law_bad_threes hr (by decide) rfl (pa_cons (pv 0) pa_nil)))
        (pss_cons (ps_set (i := 3) nd rfl (by first | exact Or.inl rfl | exact Or.inr rfl) (pe_lst pa_nil))
        (pss_cons (ps_for PassesOwn.never rfl (pi_range1 (by rfl) T.range (pa_cons (pv 1) pa_nil)) (pg_name (i := 4) nd rfl (by first | exact Or.inl rfl | exact Or.inr rfl))
        (pss_one (ps_for PassesOwn.never rfl (pi_range2 (by rfl) T.range (pa_cons (pe_op op_add (pv 4) pe_int) (pa_cons (pv 1) pa_nil))) (pg_name (i := 5) nd rfl (by first | exact Or.inl rfl | exact Or.inr rfl))
        (pss_one (ps_expr (pe_bm PySem.F.plainAttrs_list PySem.F.slot_list_append PySem.F.type_list_append mt_append (pv 3) (pa_cons (pe_callB (lenQ (K := K)) (by rfl) T.len PySem.boot_len (pa_cons (pe_lc (own := [("_law_one", 6)]) rfl nd (piT (K := K) (pv 2)) (blkOk_by (own := [("_law_one", 6)]) (N := n_law_counts) (sc := defScope q_law_counts) (by decide +kernel)) (fun _ _ _ _ _ => (pg_name (i := 6) nd rfl (by first | exact Or.inl rfl | exact Or.inr rfl))) (fun _ _ _ _ _ => (pts_one (PW.pt (pw_and (pt_cmpR (inS (K := K)) (pv 4) (pv 6) (by with_unfolding_all rfl)) (pw_and1 (pt_cmpR (inS (K := K)) (pv 5) (pv 6) (by with_unfolding_all rfl))))))) (fun _ _ _ _ _ => (pv 6))) pa_nil)) pa_nil)))))))
        (pss_one (ps_ret (pe_callTy (tupQ (K := K)) (by rfl) T.tuple (by decide +kernel) (pa_cons (pv 3) pa_nil)))))))), ?_⟩
    have hn2 := g.hi
    refine q_asg (ev_lenW hw (ev_var rfl)) fun H1 e1 => r_seqA (r_call (r_cons (r_ev (ev_var rfl) fun H2 e2 => r_nil ⟨p, n, u, rfl, hw.ex (e1.trans e2), g, fun q xs H3 e3 h3 tz => ?_⟩)))
    have e13 := (e1.trans e2).trans e3
    have hlen : (badT n u).length = xs.length := by have z := Paired.length tz; rw [List.length_map] at z; exact z
    have hb120 := badT_len n u hn2
    refine q_asgL (el_lst ea_nil (by decide)) fun l H4 hl e4 h4 => ?_
    have hl0 : H l = none := fresh_back e13 hl
    have h3' := e4 _ _ h3
    have tz' := tz.ex e4
    have e14 := e13.trans e4
    refine q_forR1 (n := (n : Int)) (ea_cons (ev_var rfl) ea_nil) (by omega) (fun i σ' H' => Ex H H' ∧ H' q = some (.tup xs) ∧ TupsAt ((badT n u).map tv) xs H' ∧ H' l = some (.lst (pairsTo n (fun x y => nV ((badT n u).filter fun t => inT x t && inT y t).length) i)) ∧ ∃ a b c, σ' = [some (.ref p), some (.int (n : Int)), some (.ref q), some (.ref l), a, b, c])
      (fun H5 e5 => ⟨e14.trans e5, e5 _ _ h3', tz'.ex e5, e5 _ _ h4, _, _, _, rfl⟩) (fun i σ' H' hi ⟨e, hq, tz, hL, a, b, c, hσ⟩ => ?_) fun σ' H' ⟨e, hq, tz, hL, a, b, c, hσ⟩ => ?_
    · subst hσ
      refine s_forR2 (lo := (i : Int) + 1) (n := (n : Int)) (ea_cons (ev_op (ev_var rfl) ev_c rv_I0) (ea_cons (ev_var rfl) ea_nil)) (by omega) (fun j σ' H' => Ex H H' ∧ H' q = some (.tup xs) ∧ TupsAt ((badT n u).map tv) xs H' ∧ H' l = some (.lst (pairsTo n (fun x y => nV ((badT n u).filter fun t => inT x t && inT y t).length) i ++ lineTo (fun x y => nV ((badT n u).filter fun t => inT x t && inT y t).length) i j)) ∧ ∃ b c, σ' = [some (.ref p), some (.int (n : Int)), some (.ref q), some (.ref l), some (.int (i : Int)), b, c])
        (fun H3 e3 => ⟨e.trans e3, e3 _ _ hq, tz.ex e3, by unfold lineTo; rw [List.range_zero, List.map_nil, List.append_nil]; exact e3 _ _ hL, _, _, rfl⟩) (fun j σ' H' hj ⟨e, hq, tz, hL, b, c, hσ⟩ => ?_) fun σ' H' ⟨e, hq, tz, hL, b, c, hσ⟩ => ⟨e, hq, tz, by rw [pairsTo_succ]; rw [show ((n : Int) - ((i : Int) + 1)).toNat = n - (i + 1) by omega] at hL; exact hL, _, _, _, hσ⟩
      subst hσ
      have ej : ((i : Int) + 1 + (j : Int)) = ((i + 1 + j : Nat) : Int) := by omega
      rw [ej]
      have hl4 := pairsTo_len n (fun x y => nV ((badT n u).filter fun t => inT x t && inT y t).length) hn2 i (by omega)
      refine s_app hL (ev_var rfl) (ev_lenLc (fun k => (fun t : Nat × Nat × Nat => inT i t && inT (i + 1 + j) t) ((badT n u).getD k (0, 0, 0))) ((badT n u).filter fun t => inT i t && inT (i + 1 + j) t).length (n := xs.length) (by rw [← hlen]; exact filter_at (0, 0, 0) (fun t : Nat × Nat × Nat => inT i t && inT (i + 1 + j) t) (badT n u)) (walk_tup (K := K) (a := q)) (ei_tup (ev_var rfl) (st_of hq)) (by omega) (fun H1 H2 e z => ex_t e z) fun y x H5 H6 hy e5 hx => ?_) (by rw [List.length_append]; unfold lineTo; rw [List.length_map, List.length_range]; omega) fun H4 e4 => ?_
      · obtain ⟨rfl, hx⟩ := hx
        have hy' : y < (badT n u).length := by omega
        obtain ⟨t, rfl, ht⟩ := tups_at (tz.ex e5) (by rw [List.getElem?_map, List.getElem?_eq_getElem hy']; rfl) hx
        have eg : (badT n u).getD y (0, 0, 0) = (badT n u)[y] := by rw [List.getD_eq_getElem?_getD, List.getElem?_eq_getElem hy']; rfl
        rw [eg]
        refine ⟨Ex.refl _, turn_name (fun _ => rfl) (et_and (a := inT i (badT n u)[y]) (b := inT (i + 1 + j) (badT n u)[y]) (et_test (ev_is (ev_op (ev_var rfl) (ev_var rfl) (rv_isT (st_of ht) rfl (flat_tv _))) (by rw [in_tv]))) fun _ => et_test (ev_is (ev_op (ev_var rfl) (ev_var rfl) (rv_isT (st_of ht) rfl (flat_tv _))) (by rw [in_tv]))) fun _ => ep_of (ev_var rfl) (fun H1 e => nw_tup (e _ _ ht)) fun _ _ => trivial⟩
      · have ql : l ≠ q := fun z => by rw [z, hq] at hL; cases hL
        refine ⟨Ex.mut (e.trans e4) hl0, by rw [upd_ne (Ne.symm ql)]; exact e4 _ _ hq, ?_, by rw [upd_same, lineTo_succ, List.append_assoc]; rfl, _, _, rfl⟩
        exact Paired.mapP (tz.ex e4) fun c v ⟨t, a, b⟩ => ⟨t, a, by rw [upd_ne (fun z => by rw [z, e4 _ _ hL] at b; cases b)]; exact b⟩
    · subst hσ
      refine s_retU (eu_tupL (ev_var rfl) (sq_of hL)) fun q H2 _ e2 h2 => k q H2 (e.trans e2) ?_
      rw [← lawcnts_to n u g]
      exact h2
end
end Sw

set_option Elab.async false
set_option linter.all false
set_option maxRecDepth 100000
set_option maxHeartbeats 4000000
/-! The products, the foes seen. -/
namespace Sw
open PySem PySem.Spec PyProof.Rows L2 Evl SW
theorem pairsTo_lenS (n : Nat) (f : Nat → Nat → V) (i : Nat) : (pairsTo n f (i + 1)).length = (pairsTo n f i).length + (n - (i + 1)) := by
  rw [pairsTo_succ, List.length_append]
  unfold lineTo
  rw [List.length_map, List.length_range]
theorem pairsTo_at (n : Nat) (f : Nat → Nat → V) (i j : Nat) (hj : i + 1 + j < n) : ∀ m, i < m → m ≤ n → (pairsTo n f m)[(pairsTo n f i).length + j]? = some (f i (i + 1 + j))
  | 0, h, _ => by omega
  | m + 1, h, hm => by
    rw [pairsTo_succ]
    by_cases e : i = m
    · subst e
      rw [List.getElem?_append_right (by omega), Nat.add_sub_cancel_left]
      unfold lineTo
      rw [List.getElem?_map, List.getElem?_range (by omega)]
      rfl
    · have q := pairsTo_at n f i j hj m (by omega) (by omega)
      rw [List.getElem?_append_left (List.getElem?_eq_some_iff.mp q).1]
      exact q
theorem given_is {n : Nat} {f : Nat → Bool} {v : Nat → V} {ns : List Int} {vi : Nat → Int} (hv : ∀ i, v i = .int (vi i)) (h : ((List.range n).filter f).map vi = ns) : given n f v = ns.map V.int := by
  unfold given
  rw [← h, List.map_map]
  apply List.map_congr_left
  intro i _
  exact hv i
theorem seen_to (n : Nat) (u : Wf) (i : Nat) : ((List.range (i + 1)).flatMap fun p => ((List.range n).filter fun y => decide (y ≠ p)).map fun y => nV (kk n u p y)) = ((List.range i).flatMap fun p => ((List.range n).filter fun y => decide (y ≠ p)).map fun y => nV (kk n u p y)) ++ ((List.range n).filter fun y => decide (y ≠ i)).map fun y => nV (kk n u i y) := by
  rw [List.range_succ, List.flatMap_append]
  simp only [List.flatMap_cons, List.flatMap_nil, List.append_nil]
def seenV (n : Nat) (u : Wf) (i : Nat) : List V := (List.range i).flatMap fun p => ((List.range n).filter fun y => decide (y ≠ p)).map fun y => nV (kk n u p y)
theorem seenV_len (n : Nat) (u : Wf) : ∀ i, (seenV n u i).length ≤ n * i
  | 0 => Nat.zero_le _
  | i + 1 => by
    have h := seenV_len n u i
    have h2 := List.length_filter_le (fun y => decide (y ≠ i)) (List.range n)
    rw [List.length_range] at h2
    unfold seenV at h ⊢
    rw [seen_to, List.length_append, List.length_map, Nat.mul_succ]
    omega
def seenI (n : Nat) (u : Wf) : List Int := (SW.seen n u).map Int.ofNat
theorem seenV_all (n : Nat) (u : Wf) : seenV n u n = (seenI n u).map V.int := by
  unfold seenV seenI SW.seen
  rw [List.map_map, List.map_flatMap]
  congr 1
  funext p
  rw [List.map_map]
  rfl
section
variable {P : Program} {w : World} {K : PySem.W.Frag} {mg : Str → Option Value} {base : Heap}
def spProd : Sp := fun vs H Q _ => ∃ (p q : Addr) (n : Nat) (u : Wf), vs = [.ref p, .ref q] ∧ WebAt H p n u ∧ Good n u ∧ H q = some (.tup ((cI n u).map V.int)) ∧ RetV (.bl true) H Q
abbrev n_law_products_right : List Str := ["_law_web", "_law_counts_here", "_law_many", "_law_at", "_law_x", "_law_y", "_law_z", "_law_total"]
theorem sc_law_products_right : FnScope n_law_products_right ["_law_web", "_law_counts_here"] (defScope q_law_products_right) := ⟨rfl, rfl, rfl, by decide +kernel, rfl, by decide +kernel, by decide +kernel⟩
theorem ok_law_products_right (T : Txt K mg) (D : DefAt K mg "_law_products_right" q_law_products_right) : Fc P w K mg base 1 "_law_products_right" ["_law_web", "_law_counts_here"] spProd := by
  refine mk_fc D sc_law_products_right (fun _ _ _ _ _ _ us hl => match us, hl with | [_, _], _ => rfl) (fun _ _ _ _ _ _ us hl => match us, hl with | [_, _], _ => rfl) (fun vs H Q E h => ?_) (fun f cdv A outer s H vs Q E hr h => ?_)
  · obtain ⟨p, q, n, u, rfl, _⟩ := h
    rfl
  · obtain ⟨p, q, n, u, rfl, hw, g, hq, k⟩ := h
    have nd := sc_law_products_right.nd
    refine ⟨_, (pss_cons (ps_set (i := 2) nd rfl (by first | exact Or.inl rfl | exact Or.inr rfl) (pe_callB (lenQ (K := K)) (by rfl) T.len PySem.boot_len (pa_cons (pv 0) pa_nil)))
        (pss_cons (ps_set (i := 3) nd rfl (by first | exact Or.inl rfl | exact Or.inr rfl) pe_int)
        (pss_cons (ps_for PassesOwn.never rfl (pi_range1 (by rfl) T.range (pa_cons (pv 2) pa_nil)) (pg_name (i := 4) nd rfl (by first | exact Or.inl rfl | exact Or.inr rfl))
        (pss_one (ps_for PassesOwn.never rfl (pi_range2 (by rfl) T.range (pa_cons (pe_op op_add (pv 4) pe_int) (pa_cons (pv 2) pa_nil))) (pg_name (i := 5) nd rfl (by first | exact Or.inl rfl | exact Or.inr rfl))
        (pss_cons (ps_set (i := 7) nd rfl (by first | exact Or.inl rfl | exact Or.inr rfl) (pe_callB (sumQ (K := K) rfl) (by rfl) T.sum (by decide +kernel) (pa_cons (pe_lc (own := [("_law_z", 6)]) rfl nd (pi_range1 (by rfl) T.range (pa_cons (pv 2) pa_nil)) (blkOk_by (own := [("_law_z", 6)]) (N := n_law_products_right) (sc := defScope q_law_products_right) (by decide +kernel)) (fun _ _ _ _ _ => (pg_name (i := 6) nd rfl (by first | exact Or.inl rfl | exact Or.inr rfl))) (fun _ _ _ _ _ => (pts_one (PW.pt (pw_and (pt_cmpR op_ne (pv 6) (pv 4) (nomark _)) (pw_and1 (pt_cmpR op_ne (pv 6) (pv 5) (nomark _))))))) (fun _ _ _ _ _ => (pe_op op_mul (pe_ix (ixT (K := K)) (pe_ix (ixT (K := K)) (pv 0) (pv 4) (fun _ _ => rfl)) (pv 6) (fun _ _ => rfl)) (pe_ix (ixT (K := K)) (pe_ix (ixT (K := K)) (pv 0) (pv 6) (fun _ _ => rfl)) (pv 5) (fun _ _ => rfl))))) pa_nil)))
        (pss_cons (ps_if (pt_cmpR op_ne (pv 7) (pe_op op_mul (pe_ix (ixT (K := K)) (pe_ix (ixT (K := K)) (pv 0) (pv 4) (fun _ _ => rfl)) (pv 5) (fun _ _ => rfl)) (pe_op op_sub (pe_op op_sub (pv 2) pe_int) (pe_op op_mul pe_int (pe_ix (ixT (K := K)) (pv 1) (pv 3) (fun _ _ => rfl))))) (nomark _))
        (pss_one (ps_ret pe_bl)) pss_nil)
        (pss_one (ps_set (i := 3) nd rfl (by first | exact Or.inl rfl | exact Or.inr rfl) (pe_op op_add (pv 3) pe_int))))))))
        (pss_one (ps_ret pe_bl))))), ?_⟩
    have hn2 := g.hi
    refine q_asg (ev_lenW hw (ev_var rfl)) fun H1 e1 => q_asg ev_c fun H2 e2 => ?_
    refine q_forR1 (n := (n : Int)) (ea_cons (ev_var rfl) ea_nil) (by omega) (fun i σ' H' => Ex H H' ∧ ∃ a b c d, σ' = [some (.ref p), some (.ref q), some (.int (n : Int)), some (.int ((pairsTo n (fun x y => nV (kk n u x y)) i).length : Int)), a, b, c, d])
      (fun H3 e3 => ⟨(e1.trans e2).trans e3, _, _, _, _, rfl⟩) (fun i σ' H' hi ⟨e, a, b, c, d, hσ⟩ => ?_) fun σ' H' ⟨e, a, b, c, d, hσ⟩ => ?_
    · subst hσ
      refine s_forR2 (lo := (i : Int) + 1) (n := (n : Int)) (ea_cons (ev_op (ev_var rfl) ev_c rv_I0) (ea_cons (ev_var rfl) ea_nil)) (by omega) (fun j σ' H' => Ex H H' ∧ ∃ b c d, σ' = [some (.ref p), some (.ref q), some (.int (n : Int)), some (.int (((pairsTo n (fun x y => nV (kk n u x y)) i).length + j : Nat) : Int)), some (.int (i : Int)), b, c, d])
        (fun H3 e3 => ⟨e.trans e3, _, _, _, rfl⟩) (fun j σ' H' hj ⟨e, b, c, d, hσ⟩ => ?_) fun σ' H' ⟨e, b, c, d, hσ⟩ => ⟨e, _, _, _, _, by rw [pairsTo_lenS]; rw [show ((n : Int) - ((i : Int) + 1)).toNat = n - (i + 1) by omega] at hσ; exact hσ⟩
      subst hσ
      have ej : ((i : Int) + 1 + (j : Int)) = ((i + 1 + j : Nat) : Int) := by omega
      rw [ej]
      have hij : i + 1 + j < n := by omega
      have hp := prod_eq g (p := (i, i + 1 + j)) (mem_prs.mpr ⟨by show i < i + 1 + j; omega, hij⟩)
      refine q_asg (v := .int (((oth n i (i + 1 + j)).map fun z => u i z * u z (i + 1 + j)).sum)) ?_ fun H4 e4 => ?_
      · refine fun H3 e3 Q q => r_cb (r_cons (r_evL (el_is (el_lcR1 (n := (n : Int)) (fun z => decide (z ≠ i) && decide (z ≠ i + 1 + j)) (fun z => V.int (u i z * u z (i + 1 + j))) (ea_cons (ev_var rfl) ea_nil) (by omega) (fun _ => rfl) (fun z H4 e4 hz => ?_) fun z H4 e4 hz _ => ?_) (given_is (vi := fun z => u i z * u z (i + 1 + j)) (fun _ => rfl) rfl)) fun r H4 hr e4 h4 => r_nil ⟨r, _, rfl, sq_of h4, q H4 e4⟩))
        · exact et_and (et_test (ev_is (ev_op (x := .int (z : Int)) (y := .int (i : Int)) (ev_var rfl) (ev_var rfl) (rv_ne rfl)) (by by_cases h : z = i <;> simp [h]; omega))) fun _ => et_test (ev_is (ev_op (x := .int (z : Int)) (y := .int ((i + 1 + j : Nat) : Int)) (ev_var rfl) (ev_var rfl) (rv_ne rfl)) (by by_cases h : z = i + 1 + j <;> simp [h]; omega))
        · have hw4 := hw.ex ((e.trans e3).trans e4)
          exact ev_op (ev_web hw4 (by omega) (by omega) (ev_var rfl) (ev_var rfl) (ev_var rfl)) (ev_web hw4 (by omega) hij (ev_var rfl) (ev_var rfl) (ev_var rfl)) (rv_I (cm_l (g.small (by omega) (by omega))))
      · have hw4 := hw.ex (e.trans e4)
        have hq4 := st_of (K := K) ((e.trans e4) _ _ hq)
        have ha : atI ((cI n u).map V.int) (((pairsTo n (fun x y => nV (kk n u x y)) i).length + j : Nat) : Int) = some (nV (kk n u i (i + 1 + j))) := atI_nat (by rw [← cnts_to]; exact pairsTo_at n _ i j hij n (by omega) (Nat.le_refl _))
        refine q_when (b := false) (et_is (et_test (ev_op (x := .int (((oth n i (i + 1 + j)).map fun z => u i z * u z (i + 1 + j)).sum)) (y := .int (u i (i + 1 + j) * ((n : Int) - 2 - 2 * (kk n u i (i + 1 + j) : Int)))) (ev_var rfl) (ev_op (ev_web hw4 (by omega) hij (ev_var rfl) (ev_var rfl) (ev_var rfl)) (ev_op (ev_op (ev_var rfl) ev_c rv_I0) (ev_op ev_c (ev_op (ev_var rfl) (ev_var rfl) (rv_ixT hq4 ha)) (rv_I (.inl ⟨by omega, by omega⟩))) rv_I0) (rv_I (cm_l (g.small (by omega) hij)))) (rv_ne rfl))) ?_) (fun z => nomatch z) fun _ H5 e5 => ?_
        · rw [hp]
          simp
        · exact s_asg (ev_op (ev_var rfl) ev_c rv_I0) fun H6 e6 => ⟨((e.trans e4).trans e5).trans e6, _, _, _, rfl⟩
    · subst hσ
      exact s_ret ev_c fun H3 e3 => k H3 (e.trans e3)
def spSeenFoes : Sp := fun vs H Q _ => ∃ (p : Addr) (n : Nat) (u : Wf), vs = [.ref p] ∧ WebAt H p n u ∧ Good n u ∧ ∀ q H2, Ex H H2 → H2 q = some (.lst ((seenI n u).map V.int)) → Q (.ref q) H2
abbrev n_law_seen_foes : List Str := ["_law_web", "_law_found", "_law_place", "_law_told", "_law_y", "_law_s"]
theorem sc_law_seen_foes : FnScope n_law_seen_foes ["_law_web"] (defScope q_law_seen_foes) := ⟨rfl, rfl, rfl, by decide +kernel, rfl, by decide +kernel, by decide +kernel⟩
theorem ok_law_seen_foes (T : Txt K mg) (D : DefAt K mg "_law_seen_foes" q_law_seen_foes) (c_seen_from : Fc P w K mg base 5 "seen_from" ["web", "place"] spSeen) : Fc P w K mg base 6 "_law_seen_foes" ["_law_web"] spSeenFoes := by
  refine mk_fc D sc_law_seen_foes (fun _ _ _ _ _ _ us hl => match us, hl with | [_], _ => rfl) (fun _ _ _ _ _ _ us hl => match us, hl with | [_], _ => rfl) (fun vs H Q E h => ?_) (fun f cdv A outer s H vs Q E hr h => ?_)
  · obtain ⟨p, n, u, rfl, _⟩ := h
    rfl
  · obtain ⟨p, n, u, rfl, hw, g, k⟩ := h
    have nd := sc_law_seen_foes.nd
    refine ⟨_, (pss_cons (ps_set (i := 1) nd rfl (by first | exact Or.inl rfl | exact Or.inr rfl) (pe_lst pa_nil))
        (pss_cons (ps_for PassesOwn.never rfl (pi_range1 (by rfl) T.range (pa_cons (pe_callB (lenQ (K := K)) (by rfl) T.len PySem.boot_len (pa_cons (pv 0) pa_nil)) pa_nil)) (pg_name (i := 2) nd rfl (by first | exact Or.inl rfl | exact Or.inr rfl))
        (pss_cons (ps_set (i := 3) nd rfl (by first | exact Or.inl rfl | exact Or.inr rfl) (pe_f c_seen_from hr (by decide) rfl (pa_cons (pv 0) (pa_cons (pv 2) pa_nil))))
        (pss_one (ps_set (i := 1) nd rfl (by first | exact Or.inl rfl | exact Or.inr rfl) (pe_op op_cat (pv 1) (pe_lc (own := [("_law_y", 4)]) rfl nd (pi_range1 (by rfl) T.range (pa_cons (pe_callB (lenQ (K := K)) (by rfl) T.len PySem.boot_len (pa_cons (pv 0) pa_nil)) pa_nil)) (blkOk_by (own := [("_law_y", 4)]) (N := n_law_seen_foes) (sc := defScope q_law_seen_foes) (by decide +kernel)) (fun _ _ _ _ _ => (pg_name (i := 4) nd rfl (by first | exact Or.inl rfl | exact Or.inr rfl))) (fun _ _ _ _ _ => (pts_one (pt_cmpR op_ne (pv 4) (pv 2) (nomark _)))) (fun _ _ _ _ _ => (pe_callB (lenQ (K := K)) (by rfl) T.len PySem.boot_len (pa_cons (pe_lc (own := [("_law_s", 5)]) rfl nd (piT (K := K) (pe_ix (ixT (K := K)) (pv 3) (pv 4) (fun _ _ => rfl))) (blkOk_by (own := [("_law_s", 5)]) (N := n_law_seen_foes) (sc := relS _ (defScope q_law_seen_foes)) (by decide +kernel)) (fun _ _ _ _ _ => (pg_name (i := 5) nd rfl (by first | exact Or.inl rfl | exact Or.inr rfl))) (fun _ _ _ _ _ => (pts_one (pt_cmpR op_eq (pv 5) (pe_un un_neg pe_int) (nomark _)))) (fun _ _ _ _ _ => (pv 5))) pa_nil)))))))))
        (pss_one (ps_ret (pv 1))))), ?_⟩
    have hn2 := g.hi
    refine q_asgL (el_lst ea_nil (by decide)) fun l H1 hl e1 h1 => ?_
    refine q_forR1 (n := (n : Int)) (ea_cons (ev_lenW (hw.ex e1) (ev_var rfl)) ea_nil) (by omega) (fun i σ' H' => Ex H H' ∧ ∃ l, H' l = some (.lst (seenV n u i)) ∧ ∃ a b c d, σ' = [some (.ref p), some (.ref l), a, b, c, d]) (fun H2 e2 => ⟨e1.trans e2, l, e2 _ _ h1, _, _, _, _, rfl⟩) (fun i σ' H' hi ⟨e, l, hL, a, b, c, d, hσ⟩ => ?_) fun σ' H' ⟨e, l, hL, a, b, c, d, hσ⟩ => ?_
    · subst hσ
      have hi' : i < n := by omega
      refine r_seqA (r_call (r_evA (ea_cons (ev_var rfl) (ea_cons (ev_var rfl) ea_nil)) fun H2 e2 => ⟨p, n, u, i, rfl, hw.ex (e.trans e2), g, hi', fun r H3 e3 h3 => ?_⟩))
      have hlen := seenV_len n u i
      have hl2 : n * i ≤ 10 * 10 := Nat.mul_le_mul hn2 (by omega)
      have e13 := (e.trans e2).trans e3
      refine r_asg (r_op (r_ev (ev_var rfl) fun H4 e4 => r_evL (el_lcR1 (n := (n : Int)) (fun y => decide (y ≠ i)) (fun y => nV (kk n u i y)) (ea_cons (ev_lenW (hw.ex (e13.trans e4)) (ev_var rfl)) ea_nil) (by omega) (fun _ => rfl) (fun y H5 e5 hy => ?_) fun y H5 e5 hy hne => ?_) fun q H5 hq e5 h5 => ?_))
      · exact et_test (ev_is (ev_op (x := .int (y : Int)) (y := .int (i : Int)) (ev_var rfl) (ev_var rfl) (rv_ne rfl)) (by by_cases h : y = i <;> simp [h]; omega))
      · have hy' : y < n := by omega
        obtain ⟨ra, hra, hev⟩ := (h3.ex (e4.trans e5)).row (K := K) hy' (tw := tVar 3) (tx := tVar 4) (σ := ((wipe [some (.ref p), some (.ref l), some (.int (i : Int)), some (.ref r), c, d] [4]).set 4 (some (.int (y : Int))))) (ev_var rfl) (ev_var rfl)
        refine ev_lenLc (fun z => decide (turn u (lotOf n u i) y z = -1)) (kk n u i y) (n := n) (seen_count g hi' hy' (of_decide_eq_true hne)) (by have z := walk_tup (K := K) (a := ra) (xs := (List.range n).map fun j => V.int (turn u (lotOf n u i) y j)); rw [List.length_map, List.length_range] at z; exact z) (ei_tup hev (st_of hra)) (by omega) (fun H1 H2 e z => ex_t e z) fun z x H6 H7 hz e6 hx => ?_
        obtain ⟨rfl, hx⟩ := hx
        rw [rowAt hz] at hx
        obtain rfl := Option.some.inj hx
        exact ⟨Ex.refl _, turn_name (fun _ => rfl) (et_is (et_test (ev_op (x := .int (turn u (lotOf n u i) y z)) (y := .int (-1)) (ev_var rfl) (ev_un ev_c ru_neg) (rv_eq rfl))) (by rw [Bool.eq_iff_iff, decide_eq_true_eq, decide_eq_true_eq, V.int.injEq])) fun _ => ep_of (ev_var rfl) (fun H1 _ => nw_int H1 _) fun _ _ => trivial⟩
      · have gl := given_len n (fun y => decide (y ≠ i)) (fun y => nV (kk n u i y))
        refine ⟨l, q, seenV n u i, _, rfl, rfl, e5 _ _ (e4 _ _ (e3 _ _ (e2 _ _ hL))), h5, sz_of (by show (seenV n u i).length + (given n (fun y => decide (y ≠ i)) (fun y => nV (kk n u i y))).length ≤ 100000; omega), fun r2 hr2 => ⟨((e13.trans e4).trans e5).trans (Ex.new hr2), r2, ?_, _, _, _, _, rfl⟩⟩
        rw [upd_same]
        unfold seenV
        rw [seen_to]
        rfl
    · subst hσ
      refine s_ret (ev_var rfl) fun H2 e2 => k l H2 (e.trans e2) ?_
      rw [← seenV_all]
      exact e2 _ _ hL
end
end Sw

set_option Elab.async false
set_option linter.all false
set_option maxRecDepth 100000
set_option maxHeartbeats 4000000
/-! The spring of drawn numbers. -/
namespace Sw
open PySem PySem.Spec PyProof.Rows L2 Evl SW
/-- H' keeps all of H but the list at sp -/
def Sv (sp : Addr) (H H' : Hp) : Prop := ∀ a o, a ≠ sp → H a = some o → H' a = some o
/-- at sp stands a spring of at most m turns -/
def Spr (H : Hp) (sp : Addr) (m : Nat) : Prop := ∃ a b c : Int, H sp = some (.lst [.int a, .int b, .int c]) ∧ 0 ≤ a ∧ 0 ≤ b ∧ b < 3000000000 ∧ 0 ≤ c ∧ c ≤ (m : Int)
section
variable {sp : Addr} {H H' H'' : Hp} {m m' : Nat}
theorem Sv.refl : Sv sp H H := fun _ _ _ h => h
theorem Sv.trans (a : Sv sp H H') (b : Sv sp H' H'') : Sv sp H H'' := fun x o n h => b x o n (a x o n h)
theorem Sv.of (e : Ex H H') : Sv sp H H' := fun x o _ h => e x o h
theorem Spr.ex (e : Ex H H') (h : Spr H sp m) : Spr H' sp m := by
  obtain ⟨a, b, c, h, q⟩ := h
  exact ⟨a, b, c, e _ _ h, q⟩
theorem Spr.le (h : Spr H sp m) (hm : m ≤ m') : Spr H sp m' := by
  obtain ⟨a, b, c, h, q1, q2, q3, q4, q5⟩ := h
  exact ⟨a, b, c, h, q1, q2, q3, q4, by omega⟩
theorem Spr.set {v : HO} {a : Addr} (h : Spr H sp m) (hn : a ≠ sp) : Spr (upd H a v) sp m := by
  obtain ⟨x, y, c, h, q⟩ := h
  exact ⟨x, y, c, by rw [upd_ne (Ne.symm hn)]; exact h, q⟩
/-- an address new in H' is new in H -/
theorem Sv.fresh (e : Sv sp H H') (hs : Spr H' sp m) {p : Addr} (h : H' p = none) : H p = none := by
  cases hp : H p with
  | none => rfl
  | some o =>
    by_cases c : p = sp
    · obtain ⟨a, b, c', hs, _⟩ := hs
      rw [← c, h] at hs
      cases hs
    · rw [e p o c hp] at h
      cases h
theorem Spr.ne_none (hs : Spr H sp m) {p : Addr} (h : H p = none) : p ≠ sp := fun e => by
  obtain ⟨a, b, c, hs, _⟩ := hs
  rw [← e, h] at hs
  cases hs
theorem Spr.ne_tup (hs : Spr H sp m) {p : Addr} {xs : List V} (h : H p = some (.tup xs)) : p ≠ sp := fun e => by
  obtain ⟨a, b, c, hs, _⟩ := hs
  rw [← e, h] at hs
  cases hs
theorem Sv.mut {p : Addr} {o : HO} (e : Sv sp H H') (h : H p = none) : Sv sp H (upd H' p o) := fun a u n ha => by
  by_cases c : a = p
  · rw [c, h] at ha
    cases ha
  · rw [upd_ne c]
    exact e a u n ha
theorem Sv.tup {p : Addr} {xs : List V} (e : Sv sp H H') (hs : Spr H sp m) (h : H p = some (.tup xs)) : H' p = some (.tup xs) := e p _ (hs.ne_tup h) h
theorem WebAt.sv {p : Addr} {n : Nat} {w : Wf} (e : Sv sp H H') (hs : Spr H sp m) (h : WebAt H p n w) : WebAt H' p n w := h.mono fun a xs z => e.tup hs z
end
def rInt1 : List V → Hp → VK → Prop := fun xs H Q => (∃ i, xs = [.int i] ∧ Q (.int i) H) ∨ ∃ k, xs = [.bl k] ∧ Q (.int (if k then 1 else 0)) H
def rAbs1 : List V → Hp → VK → Prop := fun xs H Q => ∃ i, xs = [.int i] ∧ Q (.int (if i < 0 then -i else i)) H
section
variable {K : PySem.W.Frag} {σ : L2.St} {H : Hp} {te : TE}
theorem ev_int1 {i : Int} (h : Ev te σ H (.int i)) : Ev (tCB rInt1 (tCons te tNil)) σ H (.int i) := fun H1 e Q q => r_cb (r_cons (h H1 e _ fun H2 e2 => r_nil (.inl ⟨i, rfl, q H2 e2⟩)))
theorem ev_intB {b : Bool} (h : Ev te σ H (.bl b)) : Ev (tCB rInt1 (tCons te tNil)) σ H (.int (if b then 1 else 0)) := fun H1 e Q q => r_cb (r_cons (h H1 e _ fun H2 e2 => r_nil (.inr ⟨b, rfl, q H2 e2⟩)))
theorem ev_abs1 {i : Int} (h : Ev te σ H (.int i)) : Ev (tCB rAbs1 (tCons te tNil)) σ H (.int (if i < 0 then -i else i)) := fun H1 e Q q => r_cb (r_cons (h H1 e _ fun H2 e2 => r_nil ⟨i, rfl, q H2 e2⟩))
end
section
variable {P : Program} {w : World} {K : PySem.W.Frag} {mg : Str → Option Value} {base : Heap}
def spSpring : Sp := fun vs H Q _ => ∃ i : Int, vs = [.int i] ∧ ∀ p H', H p = none → Ex H H' → Spr H' p 0 → Q (.ref p) H'
abbrev n_law_spring : List Str := ["_law_cell", "_law_size"]
theorem sc_law_spring : FnScope n_law_spring ["_law_cell"] (defScope q_law_spring) := ⟨rfl, rfl, rfl, by decide +kernel, rfl, by decide +kernel, by decide +kernel⟩
theorem ok_law_spring (T : Txt K mg) (D : DefAt K mg "_law_spring" q_law_spring) : Fc P w K mg base 1 "_law_spring" ["_law_cell"] spSpring := by
  refine mk_fc D sc_law_spring (fun _ _ _ _ _ _ us hl => match us, hl with | [_], _ => rfl) (fun _ _ _ _ _ _ us hl => match us, hl with | [_], _ => rfl) (fun vs H Q E h => ?_) (fun f cdv A outer s H vs Q E hr h => ?_)
  · obtain ⟨i, rfl, _⟩ := h
    rfl
  · obtain ⟨i, rfl, k⟩ := h
    have nd := sc_law_spring.nd
    refine ⟨_, (pss_cons (ps_set (i := 1) nd rfl (by first | exact Or.inl rfl | exact Or.inr rfl) (pe_callB call_abs (by rfl) T.abs (by decide +kernel) (pa_cons (pe_callTy call_int1 (by rfl) T.int (by decide +kernel) (pa_cons (pv 0) pa_nil)) pa_nil)))
        (pss_one (ps_ret (pe_lst (pa_cons (pe_ifExp (pt_cmpR op_ge (pv 1) (pe_op op_pow pe_int pe_int) (nomark _)) (pv 1) pe_int) (pa_cons (pe_op op_add (pe_op op_modN (pe_callTy call_int1 (by rfl) T.int (by decide +kernel) (pa_cons (pe_op op_add (pe_op op_mul (pv 0) pe_int) pe_int) pa_nil)) pe_int) pe_int) (pa_cons pe_int pa_nil))))))), ?_⟩
    refine q_asg (ev_abs1 (ev_int1 (ev_var rfl))) fun H1 e1 => ?_
    have hs : 0 ≤ (if i < 0 then -i else i) := by split <;> omega
    generalize (if i < 0 then -i else i) = z at hs
    refine s_retL (el_lst (vs := [.int (if decide ((10 : Int) ^ (18 : Int).toNat ≤ z) = true then z else 0), .int ((i * 2 + 5).fmod 2147483563 + 3), .int 0]) (ea_cons (ev_if (b := decide ((10 : Int) ^ (18 : Int).toNat ≤ z)) (et_test (ev_op (ev_var rfl) (ev_op ev_c ev_c (rv_I ⟨by decide, by decide, by decide⟩)) rv_I0)) (fun h => ev_is (ev_var rfl) (by rw [if_pos h])) (fun h => ev_is ev_c (by rw [h]; rfl)))
      (ea_cons (ev_op (ev_op (ev_int1 (ev_op (ev_op (ev_var rfl) ev_c (rv_I (.inr ⟨by decide, by decide⟩))) ev_c rv_I0)) ev_c (rv_I (by decide))) ev_c rv_I0) (ea_cons ev_c ea_nil))) (show 3 ≤ 100000 by decide)) fun p H2 hp e2 h2 => k p H2 (fresh_back e1 hp) (e1.trans e2) ⟨_, _, _, h2, ?_, ?_, ?_, by decide, by decide⟩
    · split <;> omega
    · have := Int.fmod_nonneg_of_pos (i * 2 + 5) (show (0 : Int) < 2147483563 by decide)
      omega
    · have := Int.fmod_lt_of_pos (i * 2 + 5) (show (0 : Int) < 2147483563 by decide)
      omega
def spSip : Sp := fun vs H Q _ => ∃ (sp : Addr) (m : Nat) (t : Int), vs = [.ref sp, .int t] ∧ Spr H sp m ∧ m ≤ 1000000 ∧ 0 < t ∧ t ≤ 1000 ∧ ∀ H' (r : Nat), Sv sp H H' → Spr H' sp (m + 1) → (r : Int) < t → Q (.int (r : Int)) H'
abbrev n_law_sip : List Str := ["_law_spring_here", "_law_upto", "_law_drawn"]
theorem sc_law_sip : FnScope n_law_sip ["_law_spring_here", "_law_upto"] (defScope q_law_sip) := ⟨rfl, rfl, rfl, by decide +kernel, rfl, by decide +kernel, by decide +kernel⟩
theorem ok_law_sip (T : Txt K mg) (D : DefAt K mg "_law_sip" q_law_sip) : Fc P w K mg base 1 "_law_sip" ["_law_spring_here", "_law_upto"] spSip := by
  refine mk_fc D sc_law_sip (fun _ _ _ _ _ _ us hl => match us, hl with | [_, _], _ => rfl) (fun _ _ _ _ _ _ us hl => match us, hl with | [_, _], _ => rfl) (fun vs H Q E h => ?_) (fun f cdv A outer s H vs Q E hr h => ?_)
  · obtain ⟨sp, m, t, rfl, _⟩ := h
    rfl
  · obtain ⟨sp, m, t, rfl, hs, hm, ht0, ht1, k⟩ := h
    have nd := sc_law_sip.nd
    refine ⟨_, (pss_cons (ps_if (pt_cmpR op_gt (pe_ix (ixL (K := K)) (pv 0) pe_int (fun _ _ => rfl)) pe_int (nomark _))
        (pss_cons (ps_set (i := 2) nd rfl (by first | exact Or.inl rfl | exact Or.inr rfl) (pe_op op_modN (pe_callTy call_int1 (by rfl) T.int (by decide +kernel) (pa_cons (pe_ix (ixL (K := K)) (pv 0) pe_int (fun _ _ => rfl)) pa_nil)) (pv 1)))
        (pss_cons (ps_asg (pe_op op_fdivN (pe_ix (ixL (K := K)) (pv 0) pe_int (fun _ _ => rfl)) (pv 1)) (pg_sub (pv 0) pe_int set_list))
        (pss_one (ps_ret (pv 2))))) pss_nil)
        (pss_cons (ps_asg (pe_op op_add (pe_ix (ixL (K := K)) (pv 0) pe_int (fun _ _ => rfl)) pe_int) (pg_sub (pv 0) pe_int set_list))
        (pss_cons (ps_asg (pe_op op_modN (pe_callTy call_int1 (by rfl) T.int (by decide +kernel) (pa_cons (pe_op op_add (pe_op op_add (pe_op op_mul (pe_ix (ixL (K := K)) (pv 0) pe_int (fun _ _ => rfl)) pe_int) (pe_op op_mul (pe_op op_mul (pe_ix (ixL (K := K)) (pv 0) pe_int (fun _ _ => rfl)) (pe_ix (ixL (K := K)) (pv 0) pe_int (fun _ _ => rfl))) pe_int)) pe_int) pa_nil)) pe_int) (pg_sub (pv 0) pe_int set_list))
        (pss_one (ps_ret (pe_op op_modN (pe_op op_fdivN (pe_op op_modN (pe_callTy call_int1 (by rfl) T.int (by decide +kernel) (pa_cons (pe_op op_mul (pe_ix (ixL (K := K)) (pv 0) pe_int (fun _ _ => rfl)) (pe_op op_add (pe_op op_fdivN (pe_ix (ixL (K := K)) (pv 0) pe_int (fun _ _ => rfl)) pe_int) pe_int)) pa_nil)) pe_int) pe_int) (pv 1))))))), ?_⟩
    obtain ⟨a, b, c, hL, ha, hb0, hb1, hc0, hc1⟩ := hs
    have tn : t ≠ 0 := by omega
    have fin : ∀ (z : Int) (H' : Hp), 0 ≤ z → z < t → Sv sp H H' → Spr H' sp (m + 1) → Q (.int z) H' := fun z H' h0 h1 sv hs => by
      have q := k H' z.toNat sv hs (by omega)
      rw [Int.toNat_of_nonneg h0] at q
      exact q
    have svu : ∀ {H1 : Hp} {o : HO}, Sv sp H H1 → Sv sp H (upd H1 sp o) := fun {H1 o} sv x u n hx => by
      rw [upd_ne n]
      exact sv x u n hx
    refine q_when (b := decide (0 < a)) (et_test (ev_op (ev_op (ev_var rfl) ev_c (rv_ixL (sq_of hL) rfl)) ev_c rv_I0)) (fun _ H1 e1 => ?_) fun _ H1 e1 => ?_
    · have hL1 := e1 _ _ hL
      refine q_asg (ev_op (ev_int1 (ev_op (ev_var rfl) ev_c (rv_ixL (sq_of hL1) rfl))) (ev_var rfl) (rv_I tn)) fun H2 e2 => ?_
      have hL2 := e2 _ _ hL1
      refine q_setL (j := 0) hL2 (ev_op (ev_op (ev_var rfl) ev_c (rv_ixL (sq_of hL2) rfl)) (ev_var rfl) (rv_I ⟨tn, by omega⟩)) (ev_var rfl) ev_c (by simp) fun H3 e3 => ?_
      have n1 := Int.fmod_nonneg_of_pos a ht0
      have n2 := Int.fmod_lt_of_pos a ht0
      have n3 : 0 ≤ a.fdiv t := Int.fdiv_nonneg ha (by omega)
      refine s_ret (ev_var rfl) fun H4 e4 => fin _ H4 n1 n2 ((svu (Sv.of ((e1.trans e2).trans e3))).trans (Sv.of e4)) ⟨a.fdiv t, b, c, e4 _ _ upd_same, n3, hb0, hb1, hc0, by omega⟩
    · have hL1 := e1 _ _ hL
      refine q_setL (j := 2) hL1 (ev_op (ev_op (ev_var rfl) ev_c (rv_ixL (sq_of hL1) rfl)) ev_c rv_I0) (ev_var rfl) ev_c (by simp) fun H2 e2 => ?_
      have hL2 : (upd H2 sp (.lst ([V.int a, .int b, .int c].set 2 (.int (c + 1))))) sp = some (.lst [.int a, .int b, .int (c + 1)]) := upd_same
      have sv2 := svu (o := .lst ([V.int a, .int b, .int c].set 2 (.int (c + 1)))) (Sv.of (e1.trans e2))
      generalize upd H2 sp (.lst ([V.int a, .int b, .int c].set 2 (.int (c + 1)))) = H3 at hL2 sv2
      refine q_setL (j := 1) (v := .int ((b * 40014 + (c + 1) * (c + 1) * 7919 + 12345).fmod 2147483563)) hL2 (ev_op (ev_int1 (ev_op (ev_op (ev_op (ev_op (ev_var rfl) ev_c (rv_ixL (sq_of hL2) rfl)) ev_c (rv_I (.inr ⟨by decide, by decide⟩))) (ev_op (ev_op (ev_op (ev_var rfl) ev_c (rv_ixL (sq_of hL2) rfl)) (ev_op (ev_var rfl) ev_c (rv_ixL (sq_of hL2) rfl)) (rv_I (.inl ⟨by omega, by omega⟩))) ev_c (rv_I (.inr ⟨by decide, by decide⟩))) rv_I0) ev_c rv_I0)) ev_c (rv_I (by decide))) (ev_var rfl) ev_c (by simp) fun H4 e4 => ?_
      have n1 := Int.fmod_nonneg_of_pos (b * 40014 + (c + 1) * (c + 1) * 7919 + 12345) (show (0 : Int) < 2147483563 by decide)
      have n2 := Int.fmod_lt_of_pos (b * 40014 + (c + 1) * (c + 1) * 7919 + 12345) (show (0 : Int) < 2147483563 by decide)
      generalize (b * 40014 + (c + 1) * (c + 1) * 7919 + 12345).fmod 2147483563 = d at n1 n2
      have hL4 : (upd H4 sp (.lst ([V.int a, .int b, .int (c + 1)].set 1 (.int d)))) sp = some (.lst [.int a, .int d, .int (c + 1)]) := upd_same
      have sv4 := svu (o := .lst ([V.int a, .int b, .int (c + 1)].set 1 (.int d))) (sv2.trans (Sv.of e4))
      generalize upd H4 sp (.lst ([V.int a, .int b, .int (c + 1)].set 1 (.int d))) = H5 at hL4 sv4
      have m1 := Int.fmod_nonneg_of_pos (((d * (d.fdiv 97 + 3)).fmod 2147483399).fdiv 128) ht0
      have m2 := Int.fmod_lt_of_pos (((d * (d.fdiv 97 + 3)).fmod 2147483399).fdiv 128) ht0
      refine s_ret (ev_op (ev_op (ev_op (ev_int1 (ev_op (ev_op (ev_var rfl) ev_c (rv_ixL (sq_of hL4) rfl)) (ev_op (ev_op (ev_op (ev_var rfl) ev_c (rv_ixL (sq_of hL4) rfl)) ev_c (rv_I ⟨by decide, by decide⟩)) ev_c rv_I0) (rv_I (.inl ⟨by omega, by omega⟩)))) ev_c (rv_I (by decide))) ev_c (rv_I ⟨by decide, by decide⟩)) (ev_var rfl) (rv_I tn)) fun H6 e6 => fin _ H6 m1 m2 (sv4.trans (Sv.of e6)) ⟨a, d, c + 1, e6 _ _ hL4, ha, n1, by omega, by omega, by omega⟩
end
end Sw

set_option Elab.async false
set_option linter.all false
set_option maxRecDepth 100000
set_option maxHeartbeats 4000000
/-! Drawn rows; alike through and through. -/
namespace Sw
open PySem PySem.Spec PyProof.Rows L2 Evl SW
/-- data that may be shown and compared -/
structure Dok (d : PyData) : Prop where
  shp : SeqAt.shaped d = true
  shw : d.showable = true
  nod : d.hasDict = false
  dep : d.depth ≤ 100
  len : d.shown.length ≤ sizeLine
theorem tupleText_len (ts : List Str) (h : ∀ t ∈ ts, t.length ≤ 10) : (tupleText ts).length ≤ 12 * ts.length + 10 := by
  have h2 : ∀ ts : List Str, (∀ t ∈ ts, t.length ≤ 10) → piled ts ≤ 12 * ts.length := fun ts => by
    induction ts with
    | nil => intro _; exact Nat.zero_le _
    | cons a r ih =>
      intro h
      have h3 := ih fun t ht => h t (List.mem_cons_of_mem _ ht)
      have h4 := h a (List.mem_cons_self ..)
      rw [piled_cons, List.length_cons]
      omega
  have h5 : (Str.join ", " ts).length ≤ 12 * ts.length := by
    cases ts with
    | nil => exact Nat.zero_le _
    | cons a r =>
      have := join_length_add (a :: r) (by simp)
      have := h2 (a :: r) h
      omega
  unfold tupleText
  have e1 : ("(" : Str).length = 1 := rfl
  rw [Str.length_append, Str.length_append, e1]
  have e2 : ((if (ts.length == 1) = true then ",)" else ")" : String) : Str).length ≤ 2 := by split <;> decide
  omega
theorem int_short (k : Nat) (h : k ≤ 20) : (PyData.shown (.int (k : Int))).length ≤ 10 := by
  have h2 : ((List.range 21).all fun k => decide ((PyData.shown (.int (k : Int))).length ≤ 10)) = true := by decide +kernel
  exact of_decide_eq_true (List.all_eq_true.mp h2 k (List.mem_range.mpr (by omega)))
def natD (ks : List Nat) : List PyData := ks.map fun k : Nat => PyData.int (k : Int)
theorem natD_cons (k : Nat) (ks : List Nat) : natD (k :: ks) = .int (k : Int) :: natD ks := rfl
theorem natD_nil : natD [] = [] := rfl
theorem natD_facts : ∀ ks : List Nat, (∀ k ∈ ks, k ≤ 20) → PyData.canLayAll0 (natD ks) = true ∧ PyData.showableAll (natD ks) = true ∧ PyData.hasDictAll (natD ks) = false ∧ PyData.depthAll (natD ks) ≤ 1 ∧ (∀ t ∈ PyData.shownAll (natD ks), t.length ≤ 10) ∧ (PyData.shownAll (natD ks)).length = ks.length
  | [], _ => by
    rw [natD_nil]
    simp [PyData.canLayAll0, PyData.showableAll, PyData.hasDictAll, PyData.depthAll, PyData.shownAll]
  | k :: ks, h => by
    obtain ⟨h1, h2, h3, h4, h5, h6⟩ := natD_facts ks fun x hx => h x (List.mem_cons_of_mem _ hx)
    have hk := h k (List.mem_cons_self ..)
    have hs := int_short k hk
    have hb : (k : Int).natAbs.log2 < 1920 := by
      have : (k : Int).natAbs.log2 ≤ (k : Int).natAbs := Nat.log2_le_self _
      omega
    rw [natD_cons]
    refine ⟨?_, ?_, ?_, ?_, ?_, ?_⟩
    · simp only [PyData.canLayAll0, PyData.canLay0, h1, Bool.and_self]
    · simp only [PyData.showableAll, PyData.showable, h2, decide_eq_true hb, Bool.and_self]
    · simp only [PyData.hasDictAll, PyData.hasDict, h3, Bool.or_self]
    · simp only [PyData.depthAll, PyData.depth]
      omega
    · rw [PyData.shownAll]
      intro t ht
      rcases List.mem_cons.mp ht with e | ht
      · rw [e]; exact hs
      · exact h5 t ht
    · rw [PyData.shownAll, List.length_cons, List.length_cons, h6]
theorem dok_nats (ks : List Nat) (h : ∀ k ∈ ks, k ≤ 20) (hl : ks.length ≤ 1000) : Dok (.tuple (natD ks)) := by
  obtain ⟨h1, h2, h3, h4, h5, h6⟩ := natD_facts ks h
  refine ⟨?_, ?_, ?_, ?_, ?_⟩
  · unfold SeqAt.shaped
    rw [Bool.and_eq_true, decide_eq_true_eq]
    refine ⟨?_, ?_⟩
    · simp only [PyData.canLay0]; exact h1
    · simp only [PyData.depth]; omega
  · simp only [PyData.showable]; exact h2
  · simp only [PyData.hasDict]; exact h3
  · simp only [PyData.depth]; omega
  · simp only [PyData.shown]
    have := tupleText_len _ h5
    exact sz_of (by omega)
theorem dok_bools (a b : Bool) : Dok (.list [.bool a, .bool b]) := by
  cases a <;> cases b <;> exact ⟨by decide +kernel, by decide +kernel, by decide +kernel, by decide +kernel, by decide +kernel⟩
theorem dp_nats {K : PySem.W.Frag} {H : Hp} {q : Addr} (ks : List Nat) (h : SqT K H q (ks.map nV)) : Dp K H (.ref q) (.tuple (natD ks)) := by
  refine .tup h ?_
  clear h
  induction ks with
  | nil => rw [natD_nil]; exact .nil
  | cons k ks ih => rw [natD_cons]; exact .cons (.int _) ih
theorem r_var {σ : L2.St} {H : Hp} {i : Nat} {v : V} {Q : VK} (h : σ[i]? = some (some v)) (k : Q v H) : tVar i σ H Q := ⟨v, h, k⟩
theorem r_andV {σ : L2.St} {H : Hp} {ta tb : TE} {Q : VK} (h : ta σ H fun x H1 => ∃ c, x = .bl c ∧ if c = true then tb σ H1 Q else Q (.bl false) H1) : tAndV ta tb σ H Q := h
section
variable {P : Program} {w : World} {K : PySem.W.Frag} {mg : Str → Option Value} {base : Heap}
def spAlike (K : PySem.W.Frag) : Sp := fun vs H Q _ => ∃ (p q : Addr) (d : PyData), vs = [.ref p, .ref q] ∧ Dok d ∧ Dp K H (.ref p) d ∧ Dp K H (.ref q) d ∧ Q (.bl true) H
abbrev n_law_alike : List Str := ["_law_found", "_law_due"]
theorem sc_law_alike : FnScope n_law_alike ["_law_found", "_law_due"] (defScope q_law_alike) := ⟨rfl, rfl, rfl, by decide +kernel, rfl, by decide +kernel, by decide +kernel⟩
theorem ok_law_alike (T : Txt K mg) (D : DefAt K mg "_law_alike" q_law_alike) : Fcg P w K mg base 2 "_law_alike" ["_law_found", "_law_due"] (spAlike K) := by
  refine mk_fg D sc_law_alike (fun _ _ _ _ _ _ us hl => match us, hl with | [_, _], _ => rfl) (fun vs H Q E h => ?_) (fun f cdv A outer s H vs Q E hr hgd h => ?_)
  · obtain ⟨p, q, d, rfl, _⟩ := h
    rfl
  · obtain ⟨p, q, d, rfl, hd, h1, h2, k⟩ := h
    have nd := sc_law_alike.nd
    refine ⟨_, (pss_one (ps_ret (pe_and (pe_cmpR (op_eqD hr.units) (pv 0) (pv 1) (nomark _)) (pe_one (pe_cmpR op_eq (pe_callB (call_reprD hgd hr) (by rfl) T.repr (by decide +kernel) (pa_cons (pv 0) pa_nil)) (pe_callB (call_reprD hgd hr) (by rfl) T.repr (by decide +kernel) (pa_cons (pv 1) pa_nil)) (nomark _)))))), ?_⟩
    have e : PyData.eqv d d = true := SeqAt.eqv_refl d (SeqAt.canLay_of_shaped hd.shp)
    refine r_ret (r_andV (r_op (r_var (v := .ref p) rfl (r_var (v := .ref q) rfl ⟨d, d, h1, h2, hd.shp, hd.shp, true, by rw [e], ?_⟩))))
    refine iteT (r_op (r_cb (r_cons (r_var (v := .ref p) rfl (r_nil ⟨p, d, rfl, h1, hd.shw, hd.nod, hd.dep, hd.len, r_cb (r_cons (r_var (v := .ref q) rfl (r_nil ⟨q, d, rfl, h2, hd.shw, hd.nod, hd.dep, hd.len, ⟨rfl, ?_⟩⟩)))⟩)))))
    rw [decide_eq_true rfl]
    exact k
end
end Sw

set_option Elab.async false
set_option linter.all false
set_option maxRecDepth 100000
set_option maxHeartbeats 4000000
/-! Drawn rows. -/
namespace Sw
open PySem PySem.Spec PyProof.Rows L2 Evl SW
theorem perm_at : ∀ {l : List Nat} {k : Nat} (hk : k < l.length), (l[k] :: l.eraseIdx k).Perm l
  | a :: l, 0, _ => List.Perm.refl _
  | a :: l, k + 1, hk => by
    have hk' : k < l.length := by simpa using hk
    show (l[k] :: a :: l.eraseIdx k).Perm (a :: l)
    exact (List.Perm.swap ..).trans ((perm_at (l := l) (k := k) hk').cons a)
theorem map_erase {α β : Type} (f : α → β) : ∀ (l : List α) (k : Nat), (l.map f).eraseIdx k = (l.eraseIdx k).map f
  | [], _ => rfl
  | a :: l, 0 => rfl
  | a :: l, k + 1 => by
    show f a :: (l.map f).eraseIdx k = f a :: (l.eraseIdx k).map f
    rw [map_erase f l k]
section
variable {K : PySem.W.Frag} {σ : L2.St} {H : Hp} {ta : TE} {t : TA} {Q : VK}
theorem r_lrg (h : ta σ H fun x H1 => ∃ n, x = .int n ∧ RgOk 0 n ∧ ∀ q, H1 q = none → Q (.ref q) (upd H1 q (.lst (rgV 0 n)))) : tLstRg (tRg1 ta) σ H Q := h
theorem r_tup (h : t σ H fun xs H1 => xs.length ≤ sizeLine ∧ ∀ p, H1 p = none → Q (.ref p) (upd H1 p (.tup xs))) : tTup t σ H Q := h
theorem r_lst (h : t σ H fun xs H1 => xs.length ≤ sizeLine ∧ ∀ p, H1 p = none → Q (.ref p) (upd H1 p (.lst xs))) : tLst t σ H Q := h
theorem r_bm {T : String} {r : V → List V → Hp → VK → Prop} (h : ta σ H fun x H1 => tyV K T x H1 ∧ t σ H1 fun xs H2 => r x xs H2 Q) : tBM K T r ta t σ H Q := h
end
theorem perm_pop {row left : List Nat} {k : Nat} {n : Nat} (h : (row ++ left).Perm (List.range n)) (hk : k < left.length) : ((row ++ [left[k]]) ++ left.eraseIdx k).Perm (List.range n) := by
  refine List.Perm.trans ?_ h
  rw [List.append_assoc]
  exact List.Perm.append_left row (perm_at hk)
section
variable {P : Program} {w : World} {K : PySem.W.Frag} {mg : Str → Option Value} {base : Heap}
def spRow : Sp := fun vs H Q _ => ∃ (sp : Addr) (m n : Nat), vs = [.ref sp, .int (n : Int)] ∧ Spr H sp m ∧ m ≤ 900000 ∧ n ≤ 20 ∧ ∀ q (l : List Nat) H', Sv sp H H' → Spr H' sp (m + n) → H' q = some (.tup (l.map nV)) → l.Perm (List.range n) → Q (.ref q) H'
abbrev n_law_row : List Str := ["_law_spring_here", "_law_many", "_law_left", "_law_row_here", "_law_turn"]
theorem sc_law_row : FnScope n_law_row ["_law_spring_here", "_law_many"] (defScope q_law_row) := ⟨rfl, rfl, rfl, by decide +kernel, rfl, by decide +kernel, by decide +kernel⟩
theorem ok_law_row (T : Txt K mg) (D : DefAt K mg "_law_row" q_law_row) (c_law_sip : Fc P w K mg base 1 "_law_sip" ["_law_spring_here", "_law_upto"] spSip) : Fc P w K mg base 2 "_law_row" ["_law_spring_here", "_law_many"] spRow := by
  refine mk_fc D sc_law_row (fun _ _ _ _ _ _ us hl => match us, hl with | [_, _], _ => rfl) (fun _ _ _ _ _ _ us hl => match us, hl with | [_, _], _ => rfl) (fun vs H Q E h => ?_) (fun f cdv A outer s H vs Q E hr h => ?_)
  · obtain ⟨sp, m, n, rfl, _⟩ := h
    rfl
  · obtain ⟨sp, m, n, rfl, hs, hm, hn, k⟩ := h
    have nd := sc_law_row.nd
    refine ⟨_, (pss_cons (ps_set (i := 2) nd rfl (by first | exact Or.inl rfl | exact Or.inr rfl) (pe_listRg rfl (by rfl) T.list (prg_1 (by rfl) T.range (pv 1))))
        (pss_cons (ps_set (i := 3) nd rfl (by first | exact Or.inl rfl | exact Or.inr rfl) (pe_tup pa_nil))
        (pss_cons (ps_for PassesOwn.never rfl (pi_range1 (by rfl) T.range (pa_cons (pv 1) pa_nil)) (pg_name (i := 4) nd rfl (by first | exact Or.inl rfl | exact Or.inr rfl))
        (pss_one (ps_set (i := 3) nd rfl (by first | exact Or.inl rfl | exact Or.inr rfl) (pe_op op_catA (pv 3) (pe_tup (pa_cons (pe_bm PySem.F.plainAttrs_list PySem.F.slot_list_pop PySem.F.type_list_pop mt_popAt (pv 2) (pa_cons (pe_f c_law_sip hr (by decide) rfl (pa_cons (pv 0) (pa_cons (pe_callB (lenQ (K := K)) (by rfl) T.len PySem.boot_len (pa_cons (pv 2) pa_nil)) pa_nil))) pa_nil)) pa_nil))))))
        (pss_one (ps_ret (pv 3)))))), ?_⟩
    refine r_seqA (r_lrg (r_var (v := .int (n : Int)) rfl ⟨(n : Int), rfl, RgOk.of_le (by omega) (by omega) (by omega) (by omega), fun L hL => ?_⟩))
    have hL1 : (upd H L (.lst (rgV 0 (n : Int)))) L = some (.lst ((List.range n).map nV)) := by
      rw [upd_same]
      unfold rgV
      rw [show ((n : Int) - 0).toNat = n by omega]
      congr 2
      apply List.map_congr_left
      intro i _
      rw [Int.zero_add]
      rfl
    have e1 : Ex H (upd H L (.lst (rgV 0 (n : Int)))) := Ex.new hL
    generalize upd H L (.lst (rgV 0 (n : Int))) = H1 at hL1 e1
    refine q_asgU (eu_tup ea_nil (by decide)) fun q H2 hq e2 h2 => ?_
    have nL : L ≠ sp := hs.ne_none hL
    refine q_forR1 (n := (n : Int)) (ea_cons (ev_var rfl) ea_nil) (by omega) (fun i σ' H' => Sv sp H H' ∧ Spr H' sp (m + i) ∧ ∃ (left row : List Nat) (q : Addr) (a : Option V), row.length = i ∧ H' L = some (.lst (left.map nV)) ∧ H' q = some (.tup (row.map nV)) ∧ (row ++ left).Perm (List.range n) ∧ σ' = [some (.ref sp), some (.int (n : Int)), some (.ref L), some (.ref q), a])
      (fun H3 e3 => ⟨Sv.of ((e1.trans e2).trans e3), hs.ex ((e1.trans e2).trans e3), List.range n, [], q, _, rfl, e3 _ _ (e2 _ _ hL1), e3 _ _ h2, List.Perm.refl _, rfl⟩) (fun i σ' H' hi ⟨sv, hs', left, row, q, a, hl, hLe, hqe, hp, hσ⟩ => ?_) fun σ' H' ⟨sv, hs', left, row, q, a, hl, hLe, hqe, hp, hσ⟩ => ?_
    · subst hσ
      have hll : row.length + left.length = n := by
        have z := hp.length_eq
        rw [List.length_append, List.length_range] at z
        exact z
      refine r_asg (r_op (r_ev (ev_var (v := .ref q) rfl) fun H3 e3 => ?_))
      refine r_tup (r_cons (r_bm (r_ev (ev_var (v := .ref L) rfl) fun H4 e4 => ⟨Or.inl ⟨rfl, _, sq_of (e4 _ _ (e3 _ _ hLe))⟩, r_cons (r_call (r_evA (ea_cons (ev_var rfl) (ea_cons (ev_lenQL (ev_var rfl) (sq_of (e4 _ _ (e3 _ _ hLe)))) ea_nil)) fun H5 e5 => ?_))⟩)))
      have e35 := (e3.trans e4).trans e5
      refine ⟨sp, m + i, (left.map nV).length, rfl, hs'.ex e35, by omega, by rw [List.length_map]; omega, by rw [List.length_map]; omega, fun H6 r sv6 hs6 hr => ?_⟩
      have hr' : r < left.length := by rw [List.length_map] at hr; omega
      have hL6 : H6 L = some (.lst (left.map nV)) := sv6 _ _ nL (e35 _ _ hLe)
      refine ⟨L, left.map nV, (r : Int), r, nV left[r], rfl, rfl, hL6, by omega, by omega, ?_, ?_, ?_⟩
      · unfold seqIndex?
        rw [List.length_map]
        simp
        omega
      · rw [List.getElem?_map, List.getElem?_eq_getElem hr']
        rfl
      · have sv7 : Sv sp H (upd H6 L (.lst ((left.map nV).eraseIdx r))) := ((sv.trans (Sv.of e35)).trans sv6).mut hL
        have hs7 : Spr (upd H6 L (.lst ((left.map nV).eraseIdx r))) sp (m + i + 1) := hs6.set nL
        have hL7 : (upd H6 L (.lst ((left.map nV).eraseIdx r))) L = some (.lst ((left.eraseIdx r).map nV)) := by rw [upd_same, map_erase]
        have hq7 : (upd H6 L (.lst ((left.map nV).eraseIdx r))) q = some (.tup (row.map nV)) := by
          have hq3 := e35 _ _ hqe
          have hq6 := sv6.tup (hs'.ex e35) hq3
          rw [upd_ne (fun z : q = L => by rw [z, hL6] at hq6; cases hq6)]
          exact hq6
        generalize upd H6 L (.lst ((left.map nV).eraseIdx r)) = H7 at sv7 hs7 hL7 hq7
        refine r_nil ⟨show 1 ≤ sizeLine by decide, fun t ht => ⟨q, t, row.map nV, [nV left[r]], rfl, rfl, st_of ((Ex.new ht) _ _ hq7), st_of upd_same, sz_of (by rw [List.length_map]; show row.length + 1 ≤ 100000; omega), fun hnil => ?_, fun _ z => absurd z (by simp), fun _ _ q2 hq2 => ?_⟩⟩
        · have hrow : row = [] := List.map_eq_nil_iff.mp hnil
          subst hrow
          exact ⟨sv7.trans (Sv.of (Ex.new ht)), (hs7.ex (Ex.new ht)), left.eraseIdx r, [left[r]], t, _, by simp at hl; simp [← hl], (Ex.new ht) _ _ hL7, upd_same, perm_pop hp hr', rfl⟩
        · have e8 := (Ex.new (o := .tup [nV left[r]]) ht).trans (Ex.new (o := .tup (row.map nV ++ [nV left[r]])) hq2)
          exact ⟨sv7.trans (Sv.of e8), (hs7.ex e8), left.eraseIdx r, row ++ [left[r]], q2, _, by rw [List.length_append]; show row.length + 1 = i + 1; omega, e8 _ _ hL7, by rw [upd_same, List.map_append]; rfl, perm_pop hp hr', rfl⟩
    · subst hσ
      have hnil : left = [] := by
        have z := hp.length_eq
        rw [List.length_append, List.length_range] at z
        have : (n : Int).toNat = n := by omega
        exact List.length_eq_zero_iff.mp (by omega)
      subst hnil
      rw [List.append_nil] at hp
      exact s_ret (ev_var rfl) fun H3 e3 => k q row H3 (sv.trans (Sv.of e3)) (hs'.ex e3) (e3 _ _ hqe) hp
end
end Sw

set_option Elab.async false
set_option linter.all false
set_option maxRecDepth 100000
set_option maxHeartbeats 4000000
/-! Sides, lines, changed ties. -/
namespace Sw
open PySem PySem.Spec PyProof.Rows L2 Evl SW
section
variable {K : PySem.W.Frag} {σ : L2.St} {H : Hp} {ta : TA} {Q : VK} {sp : Addr} {m n : Nat}
/-- a sip -/
theorem r_sip {te tu : TE} {t : Int} (ha : Ev te σ H (.ref sp)) (hb : Ev tu σ H (.int t)) (hs : Spr H sp m) (hm : m ≤ 1000000) (h0 : 0 < t) (h1 : t ≤ 1000) (k : ∀ H' (r : Nat), Sv sp H H' → Spr H' sp (m + 1) → (r : Int) < t → Q (.int (r : Int)) H') :
    tCall spSip [] E0 (tCons te (tCons tu tNil)) σ H Q :=
  r_call (r_evA (ea_cons ha (ea_cons hb ea_nil)) fun H1 e1 => ⟨sp, m, t, rfl, hs.ex e1, hm, h0, h1, fun H' r sv hs hr => k H' r ((Sv.of e1).trans sv) hs hr⟩)
/-- [1 - 2 * sip(2) for x in range(n)] -/
theorem r_sides {j : Nat} {vs : List Nat} {i0 : Nat} (hn : n ≤ 20) (hm : m ≤ 900000) (hs : Spr H sp m) (ha : EvA ta σ H [.int (n : Int)]) (hw : ∀ x, wipe ((wipe σ vs).set j (some x)) vs = wipe σ vs) (h0 : ∀ x, ((wipe σ vs).set j (some x))[i0]? = some (some (.ref sp)))
    (k : ∀ q (s : Nat → Int) H', Sv sp H H' → Spr H' sp (m + n) → H q = none → H' q = some (.lst ((List.range n).map fun x => V.int (s x))) → (∀ x, x < n → s x = 1 ∨ s x = -1) → Q (.ref q) H') :
    tLc (iRng1 ta) (gName j) tYes (tOp (rI0 fun i j => .int (i - j)) (tC (.int 1)) (tOp (rI CMul fun i j => .int (i * j)) (tC (.int 2)) (tCall spSip [] E0 (tCons (tVar i0) (tCons (tC (.int 2)) tNil))))) vs σ H Q :=
  r_evA ha fun H1 e1 => ⟨(n : Int), rfl, by omega, by omega, fun D hD => by
    have hD0 := fresh_back e1 hD
    refine lc_range (lo := 0) (n := (n : Int).toNat) (fun i H' => Sv sp H H' ∧ Spr H' sp (m + i) ∧ ∃ ss : List Int, ss.length = i ∧ (∀ z ∈ ss, z = 1 ∨ z = -1) ∧ H' D = some (.lst (ss.map V.int))) ⟨Sv.of (e1.trans (Ex.new hD)), hs.ex (e1.trans (Ex.new hD)), [], rfl, (fun _ h => nomatch h), upd_same⟩ (fun i H' hi ⟨sv, hs', ss, hl, hss, hDv⟩ => ?_) fun H' ⟨sv, hs', ss, hl, hss, hDv⟩ => ?_
    · refine ⟨hw _, ?_⟩
      dsimp only [tYes]
      rw [if_pos rfl]
      refine (r_op (r_ev ev_c fun H2 e2 => r_op (r_ev ev_c fun H3 e3 => r_sip (ev_var (h0 _)) ev_c (hs'.ex (e2.trans e3)) (by omega) (by decide) (by decide) fun H4 r sv4 hs4 hr => ⟨2, r, rfl, rfl, .inl ⟨by decide, by decide⟩, 1, 2 * r, rfl, rfl, ?_⟩)))
      have nD : D ≠ sp := hs.ne_none hD0
      refine ⟨ss.map V.int, sv4 _ _ nD ((e2.trans e3) _ _ hDv), sz_lt (by rw [List.length_map]; omega), ((sv.trans (Sv.of (e2.trans e3))).trans sv4).mut hD0, hs4.set nD, ss ++ [1 - 2 * (r : Int)], by rw [List.length_append]; show ss.length + 1 = i + 1; omega, fun z hz => ?_, by rw [upd_same, List.map_append]; rfl⟩
      rcases List.mem_append.mp hz with hz | hz
      · exact hss z hz
      · rw [List.mem_singleton.mp hz]
        omega
    · rw [show (n : Int).toNat = n by omega] at hl hs'
      refine k D (fun x => ss.getD x 0) H' sv hs' hD0 ?_ fun x hx => ?_
      · rw [hDv]
        congr 2
        apply List.ext_getElem
        · simp [hl]
        · intro i h1 h2
          simp only [List.length_map] at h1
          simp [List.getD_eq_getElem?_getD, h1]
      · have hx' : x < ss.length := by omega
        show ss.getD x 0 = 1 ∨ ss.getD x 0 = -1
        rw [List.getD_eq_getElem?_getD, List.getElem?_eq_getElem hx']
        exact hss _ (List.getElem_mem hx')⟩
end

/-! ### lines that are changed -/
/-- at L stands a list of lists: the lines of w -/
structure LinesAt (H : Hp) (L : Addr) (rs : List Addr) (n : Nat) (w : Wf) : Prop where
  at_ : H L = some (.lst (rs.map V.ref))
  rows : RowsAt .lst H rs n w
  nd : rs.Nodup
  pos : 1 ≤ n
theorem LinesAt.ex {H H' : Hp} {L : Addr} {rs : List Addr} {n : Nat} {w : Wf} (e : Ex H H') (h : LinesAt H L rs n w) : LinesAt H' L rs n w := ⟨e _ _ h.at_, ⟨h.rows.1, fun i r hr => e _ _ (h.rows.2 i r hr)⟩, h.nd, h.pos⟩
theorem rowV_ne {n : Nat} {w : Wf} {i : Nat} (hn : 1 ≤ n) {as : List Addr} : rowV n w i ≠ as.map V.ref := by
  intro e
  have h := congrArg (fun l : List V => l[0]?) e
  simp only [rowV, List.getElem?_map] at h
  rw [List.getElem?_range (by omega)] at h
  cases ha : as[0]? with
  | none => rw [ha] at h; cases h
  | some a => rw [ha] at h; cases h
theorem rows_nodup {c : List V → HO} (hc : ∀ a b, c a = c b → a = b) {H : Hp} {rs : List Addr} {n : Nat} {w : Wf} (g : Good n w) (h : RowsAt c H rs n w) : rs.Nodup := by
  refine List.pairwise_iff_getElem.mpr fun i j hi hj hij e => ?_
  have h1 := h.2 i _ (List.getElem?_eq_getElem hi)
  have h2 := h.2 j _ (List.getElem?_eq_getElem hj)
  rw [e, h2] at h1
  have h3 := hc _ _ (Option.some.inj h1)
  have hin : i < n := by have := h.1; omega
  have hjn : j < n := by have := h.1; omega
  have h4 := congrArg (fun l : List V => l[i]?) h3
  simp only [rowV] at h4
  rw [rowAt hin, rowAt hin] at h4
  have h5 : w j i = w i i := by simpa using h4
  rw [g.diag i hin] at h5
  rcases g.off j i hjn hin (by omega) with z | z <;> rw [z] at h5 <;> cases h5
def set1 (w : Wf) (a b : Nat) (v : Int) : Wf := fun x y => if x = a ∧ y = b then v else w x y
theorem flip1_set (w : Wf) (a b : Nat) : set1 (set1 w a b (- w a b)) b a (- w a b) = flip1 w a b := by
  funext x y
  unfold set1 flip1
  by_cases h1 : x = b ∧ y = a
  · rw [if_pos h1, if_pos (.inr h1)]
  · rw [if_neg h1]
    by_cases h2 : x = a ∧ y = b
    · rw [if_pos h2, if_pos (.inl h2)]
    · rw [if_neg h2, if_neg (by rintro (h | h); exact h2 h; exact h1 h)]
theorem rowV_set {n : Nat} {w : Wf} {a b : Nat} {v : Int} : (rowV n w a).set b (.int v) = rowV n (set1 w a b v) a := by
  unfold rowV set1
  apply List.ext_getElem
  · simp
  · intro i h1 h2
    simp only [List.length_set, List.length_map, List.length_range] at h1
    rw [List.getElem_set, List.getElem_map, List.getElem_map, List.getElem_range]
    by_cases e : b = i
    · subst e; simp
    · rw [if_neg e, if_neg (by omega)]
theorem LinesAt.set {H : Hp} {L : Addr} {rs : List Addr} {n : Nat} {w : Wf} (h : LinesAt H L rs n w) {a b : Nat} {v : Int} {r : Addr} (hr : rs[a]? = some r) : LinesAt (upd H r (.lst ((rowV n w a).set b (.int v)))) L rs n (set1 w a b v) := by
  refine ⟨?_, ⟨h.rows.1, fun i q hq => ?_⟩, h.nd, h.pos⟩
  · rw [upd_ne (fun e => ?_)]
    · exact h.at_
    · have h1 := h.rows.2 a r hr
      rw [← e, h.at_] at h1
      exact rowV_ne h.pos (HO.lst.inj (Option.some.inj h1)).symm
  · by_cases e : i = a
    · subst e
      rw [hr] at hq
      obtain rfl := Option.some.inj hq
      rw [upd_same, rowV_set]
    · have nq : q ≠ r := fun z => by
        subst z
        have h1 := (List.getElem?_eq_some_iff.mp hq)
        have h2 := (List.getElem?_eq_some_iff.mp hr)
        obtain ⟨i1, e1⟩ := h1
        obtain ⟨i2, e2⟩ := h2
        exact e ((List.getElem_inj h.nd).mp (e1.trans e2.symm))
      rw [upd_ne nq, h.rows.2 i q hq]
      congr 2
      unfold rowV set1
      apply List.map_congr_left
      intro y _
      rw [if_neg (fun z => e z.1)]
section
variable {K : PySem.W.Frag} {σ : L2.St} {H : Hp} {tl tx ty : TE} {L : Addr} {rs : List Addr} {n : Nat} {w : Wf}
theorem LinesAt.row (h : LinesAt H L rs n w) {x : Nat} (hx : x < n) (hw : Ev tl σ H (.ref L)) (h1 : Ev tx σ H (.int (x : Int))) : ∃ r, rs[x]? = some r ∧ H r = some (.lst (rowV n w x)) ∧ Ev (tOp (rIxL K) tl tx) σ H (.ref r) := by
  have hx' : x < rs.length := by have := h.rows.1; omega
  have e1 : rs[x]? = some rs[x] := List.getElem?_eq_getElem hx'
  refine ⟨rs[x], e1, h.rows.2 x _ e1, ev_op hw h1 (rv_ixL (sq_of h.at_) (atI_nat ?_))⟩
  rw [List.getElem?_map, e1] <;> rfl
theorem LinesAt.cell (h : LinesAt H L rs n w) {x y : Nat} (hx : x < n) (hy : y < n) (hw : Ev tl σ H (.ref L)) (h1 : Ev tx σ H (.int (x : Int))) (h2 : Ev ty σ H (.int (y : Int))) : Ev (tOp (rIxL K) (tOp (rIxL K) tl tx) ty) σ H (.int (w x y)) := by
  obtain ⟨r, _, hr, hev⟩ := h.row (K := K) hx hw h1
  exact ev_op hev h2 (rv_ixL (sq_of hr) (atI_nat (rowAt hy)))
/-- lines[x][y] = v -/
theorem s_cell {te : TE} {D : Ends} {v : Int} {x y : Nat} (h : LinesAt H L rs n w) (hx : x < n) (hy : y < n) (hv : Ev te σ H (.int v)) (hw : Ev tl σ H (.ref L)) (h1 : Ev tx σ H (.int (x : Int))) (h2 : Ev ty σ H (.int (y : Int)))
    (k : ∀ H1 r, Ex H H1 → rs[x]? = some r → LinesAt (upd H1 r (.lst ((rowV n w x).set y (.int v)))) L rs n (set1 w x y v) → D.nx σ (upd H1 r (.lst ((rowV n w x).set y (.int v))))) :
    tAsg te (gSub (tOp (rIxL K) tl tx) ty rSetL) D σ H := by
  obtain ⟨r, hr1, hr, hev⟩ := h.row (K := K) hx hw h1
  exact s_setL (j := y) hr hv hev h2 (by rw [rowV_len]; exact hy) fun H1 e1 => k H1 r e1 hr1 ((h.ex e1).set hr1)
theorem q_cell {te : TE} {D : Ends} {tz : TS} {v : Int} {x y : Nat} (h : LinesAt H L rs n w) (hx : x < n) (hy : y < n) (hv : Ev te σ H (.int v)) (hw : Ev tl σ H (.ref L)) (h1 : Ev tx σ H (.int (x : Int))) (h2 : Ev ty σ H (.int (y : Int)))
    (k : ∀ H1 r, Ex H H1 → rs[x]? = some r → LinesAt (upd H1 r (.lst ((rowV n w x).set y (.int v)))) L rs n (set1 w x y v) → tz D σ (upd H1 r (.lst ((rowV n w x).set y (.int v))))) :
    tSeq (tAsg te (gSub (tOp (rIxL K) tl tx) ty rSetL)) tz D σ H := s_cell (D := { D with nx := tz D }) h hx hy hv hw h1 h2 k
end
end Sw

set_option Elab.async false
set_option linter.all false
set_option maxRecDepth 100000
set_option maxHeartbeats 4000000
/-! The loop that changes ties; webs of lines. -/
namespace Sw
open PySem PySem.Spec PyProof.Rows L2 Evl SW
abbrev tFlip (K : PySem.W.Frag) (jl jr jx jy : Nat) : TS :=
  tSeq (tAsg (tUn (rU fun i => .int (-i)) (tOp (rIxL K) (tOp (rIxL K) (tVar jl) (tOp (rIxT K) (tVar jr) (tVar jx))) (tOp (rIxT K) (tVar jr) (tVar jy)))) (gSub (tOp (rIxL K) (tVar jl) (tOp (rIxT K) (tVar jr) (tVar jx))) (tOp (rIxT K) (tVar jr) (tVar jy)) rSetL))
    (tAsg (tOp (rIxL K) (tOp (rIxL K) (tVar jl) (tOp (rIxT K) (tVar jr) (tVar jx))) (tOp (rIxT K) (tVar jr) (tVar jy))) (gSub (tOp (rIxL K) (tVar jl) (tOp (rIxT K) (tVar jr) (tVar jy))) (tOp (rIxT K) (tVar jr) (tVar jx)) rSetL))
theorem flips_succ {row : Nat → Nat} {fs : List (Nat × Nat)} {w : Wf} {i : Nat} {p : Nat × Nat} (h : fs[i]? = some p) : flips row (fs.take (i + 1)) w = flip1 (flips row (fs.take i) w) (row p.1) (row p.2) := by
  unfold flips
  rw [List.take_add_one, h, List.foldl_append]
  rfl
section
variable {K : PySem.W.Frag} {σ : L2.St} {H H0 : Hp} {tz : TS} {D : Ends} {sp L R F : Addr} {rs : List Addr} {m n : Nat} {w : Wf} {jl jr jf jx jy : Nat} {l : List Nat} {fs : List (Nat × Nat)} {xs : List V}
theorem q_flips (hl : LinesAt H L rs n w) (hfs : ∀ p ∈ fs, p.1 < n ∧ p.2 < n ∧ p.1 ≠ p.2) (hF : H F = some (.lst xs)) (hT : TupsAt (fs.map fun p => [nV p.1, nV p.2]) xs H) (hR : H R = some (.tup (l.map nV))) (hp : l.Perm (List.range n))
    (hr0 : ∀ r ∈ rs, H0 r = none) (h0s : Spr H0 sp m') (sv : Sv sp H0 H) (hs : Spr H sp m) (h0 : ∃ a b, σ = (σ.set jx a).set jy b) (hss : ∀ a b c d, ((((σ.set jx a).set jy b).set jx c).set jy d) = (σ.set jx c).set jy d)
    (hjf : σ[jf]? = some (some (.ref F))) (hjl : ∀ a b, ((σ.set jx a).set jy b)[jl]? = some (some (.ref L))) (hjr : ∀ a b, ((σ.set jx a).set jy b)[jr]? = some (some (.ref R))) (hjx : ∀ a b, ((σ.set jx a).set jy b)[jx]? = some a) (hjy : ∀ a b, ((σ.set jx a).set jy b)[jy]? = some b)
    (k : ∀ a b H', Sv sp H0 H' → Spr H' sp m → LinesAt H' L rs n (flips (fun a => l.getD a 0) fs w) → tz D ((σ.set jx a).set jy b) H') :
    tSeq (tFor (iList K (tVar jf)) (gTup K 2 (gCons (gName jx) (gCons (gName jy) gNil))) (tFlip K jl jr jx jy)) tz D σ H := by
  obtain ⟨r1, r2, r3, r4⟩ := row_facts hp
  have hll : l.length = n := by rw [hp.length_eq, List.length_range]
  have hlen : fs.length = xs.length := by have z := Paired.length hT; rw [List.length_map] at z; exact z
  refine q_forL (ev_var hjf) (sq_of hF) (fun i σ' H' => Sv sp H0 H' ∧ Spr H' sp m ∧ LinesAt H' L rs n (flips (fun a => l.getD a 0) (fs.take i) w) ∧ H' F = some (.lst xs) ∧ TupsAt (fs.map fun p => [nV p.1, nV p.2]) xs H' ∧ H' R = some (.tup (l.map nV)) ∧ ∃ a b, σ' = (σ.set jx a).set jy b)
    (fun H1 e1 => ⟨sv.trans (Sv.of e1), hs.ex e1, hl.ex e1, e1 _ _ hF, hT.ex e1, e1 _ _ hR, h0⟩) (fun i σ' H' _ z => sq_of z.2.2.2.1) (fun i x σ' H' hx ⟨sv, hs, hl, hF, hT, hR, a, b, hσ⟩ => ?_) fun σ' H' ⟨sv, hs, hl, hF, hT, hR, a, b, hσ⟩ => ?_
  · subst hσ
    have hi : i < fs.length := by have := (List.getElem?_eq_some_iff.mp hx).1; omega
    have hfi : fs[i]? = some fs[i] := List.getElem?_eq_getElem hi
    obtain ⟨t, rfl, ht⟩ := tups_at hT (c := [nV fs[i].1, nV fs[i].2]) (by rw [List.getElem?_map, hfi]; rfl) hx
    obtain ⟨p1, p2, p3⟩ := hfs _ (List.getElem_mem hi)
    refine ⟨t, _, rfl, st_of ht, rfl, nV fs[i].1, [nV fs[i].2], rfl, nV fs[i].2, [], rfl, rfl, ?_⟩
    show tFlip K jl jr jx jy _ ((((σ.set jx a).set jy b).set jx (some (nV fs[i].1))).set jy (some (nV fs[i].2))) H'
    rw [hss]
    have vl := hjl (some (nV fs[i].1)) (some (nV fs[i].2))
    have vr := hjr (some (nV fs[i].1)) (some (nV fs[i].2))
    have vx := hjx (some (nV fs[i].1)) (some (nV fs[i].2))
    have vy := hjy (some (nV fs[i].1)) (some (nV fs[i].2))
    have back : ∃ a b, (σ.set jx (some (nV fs[i].1))).set jy (some (nV fs[i].2)) = (σ.set jx a).set jy b := ⟨_, _, rfl⟩
    generalize (σ.set jx (some (nV fs[i].1))).set jy (some (nV fs[i].2)) = σ2 at vl vr vx vy back
    have rd : ∀ {H2 : Hp} {j : Nat} {a : Nat}, H2 R = some (.tup (l.map nV)) → σ2[j]? = some (some (nV a)) → a < n → Ev (tOp (rIxT K) (tVar jr) (tVar j)) σ2 H2 (.int ((l.getD a 0 : Nat) : Int)) := fun {H2 j a} hR hj ha => ev_op (ev_var vr) (ev_var hj) (rv_ixT (st_of hR) (atI_nat (by rw [List.getElem?_map, List.getElem?_eq_getElem (by omega), List.getD_eq_getElem?_getD, List.getElem?_eq_getElem (by omega)]; rfl)))
    have upR : ∀ {H2 : Hp} {r : Addr} {c : Nat} {u ws : Wf}, LinesAt H2 L rs n u → rs[c]? = some r → H2 R = some (.tup (l.map nV)) → ∀ o, (upd H2 r o) R = some (.tup (l.map nV)) := fun {H2 r c u ws} hl hr hR o => by
      rw [upd_ne (fun z => by have := hl.rows.2 c r hr; rw [← z, hR] at this; cases this)]
      exact hR
    have upF : ∀ {H2 : Hp} {r : Addr} {c : Nat} {u ws : Wf}, LinesAt H2 L rs n u → rs[c]? = some r → H2 F = some (.lst xs) → ∀ o, (upd H2 r o) F = some (.lst xs) := fun {H2 r c u ws} hl hr hF o => by
      rw [upd_ne (fun z => ?_)]
      · exact hF
      · have h1 := hl.rows.2 c r hr
        rw [← z, hF] at h1
        have h2 := HO.lst.inj (Option.some.inj h1)
        rw [h2] at hx
        unfold rowV at hx
        rw [List.getElem?_map] at hx
        cases hr : (List.range n)[i]? with
        | none => rw [hr] at hx; cases hx
        | some y => rw [hr] at hx; cases hx
    have upT : ∀ {H2 : Hp} {r : Addr} {c : Nat} {u ws : Wf}, LinesAt H2 L rs n u → rs[c]? = some r → TupsAt (fs.map fun p => [nV p.1, nV p.2]) xs H2 → ∀ o, TupsAt (fs.map fun p => [nV p.1, nV p.2]) xs (upd H2 r o) := fun {H2 r c u ws} hl hr hT o =>
      Paired.mapP hT fun c' v ⟨t, a, b⟩ => ⟨t, a, by rw [upd_ne (fun z => by have := hl.rows.2 c r hr; rw [← z, b] at this; cases this)]; exact b⟩
    have svU : ∀ {H2 : Hp} {r : Addr} {c : Nat}, rs[c]? = some r → Sv sp H0 H2 → ∀ o, Sv sp H0 (upd H2 r o) := fun {H2 r c} hr sv o => sv.mut (hr0 _ (List.mem_of_getElem? hr))
    have hsU : ∀ {H2 : Hp} {r : Addr} {c : Nat}, rs[c]? = some r → Spr H2 sp m → ∀ o, Spr (upd H2 r o) sp m := fun {H2 r c} hr hs o => hs.set (h0s.ne_none (hr0 _ (List.mem_of_getElem? hr)))
    have ha := r1 _ p1
    have hb := r1 _ p2
    refine q_cell hl ha hb (ev_un (hl.cell ha hb (ev_var vl) (rd hR vx p1) (rd hR vy p2)) ru_neg) (ev_var vl) (rd hR vx p1) (rd hR vy p2) fun H1 r e1 hr hl2 => ?_
    have hl1 := hl.ex e1
    have hR2 := upR (ws := w) hl1 hr (e1 _ _ hR) (.lst ((rowV n (flips (fun a => l.getD a 0) (fs.take i) w) (l.getD fs[i].1 0)).set (l.getD fs[i].2 0) (.int (-(flips (fun a => l.getD a 0) (fs.take i) w (l.getD fs[i].1 0) (l.getD fs[i].2 0))))))
    have hF2 := upF (ws := w) hl1 hr (e1 _ _ hF) (.lst ((rowV n (flips (fun a => l.getD a 0) (fs.take i) w) (l.getD fs[i].1 0)).set (l.getD fs[i].2 0) (.int (-(flips (fun a => l.getD a 0) (fs.take i) w (l.getD fs[i].1 0) (l.getD fs[i].2 0))))))
    have hT2 := upT (ws := w) hl1 hr (hT.ex e1) (.lst ((rowV n (flips (fun a => l.getD a 0) (fs.take i) w) (l.getD fs[i].1 0)).set (l.getD fs[i].2 0) (.int (-(flips (fun a => l.getD a 0) (fs.take i) w (l.getD fs[i].1 0) (l.getD fs[i].2 0))))))
    have sv2 := svU hr (sv.trans (Sv.of e1)) (.lst ((rowV n (flips (fun a => l.getD a 0) (fs.take i) w) (l.getD fs[i].1 0)).set (l.getD fs[i].2 0) (.int (-(flips (fun a => l.getD a 0) (fs.take i) w (l.getD fs[i].1 0) (l.getD fs[i].2 0))))))
    have hs2 := hsU hr (hs.ex e1) (.lst ((rowV n (flips (fun a => l.getD a 0) (fs.take i) w) (l.getD fs[i].1 0)).set (l.getD fs[i].2 0) (.int (-(flips (fun a => l.getD a 0) (fs.take i) w (l.getD fs[i].1 0) (l.getD fs[i].2 0))))))
    rw [show fs.take (i + 1) = fs.take (i + 1) from rfl]
    have hfl := flips_succ (row := fun a => l.getD a 0) (w := w) hfi
    rw [← flip1_set] at hfl
    generalize flips (fun a => l.getD a 0) (fs.take i) w = u at hl2 hR2 hF2 hT2 sv2 hs2 hfl
    generalize upd H1 r (.lst ((rowV n u (l.getD fs[i].1 0)).set (l.getD fs[i].2 0) (.int (-(u (l.getD fs[i].1 0) (l.getD fs[i].2 0)))))) = H2 at hl2 hR2 hF2 hT2 sv2 hs2
    have e12 : set1 u (l.getD fs[i].1 0) (l.getD fs[i].2 0) (-(u (l.getD fs[i].1 0) (l.getD fs[i].2 0))) (l.getD fs[i].1 0) (l.getD fs[i].2 0) = -(u (l.getD fs[i].1 0) (l.getD fs[i].2 0)) := if_pos ⟨rfl, rfl⟩
    refine s_cell (v := -(u (l.getD fs[i].1 0) (l.getD fs[i].2 0))) hl2 hb ha (ev_is (hl2.cell ha hb (ev_var vl) (rd hR2 vx p1) (rd hR2 vy p2)) (by rw [e12])) (ev_var vl) (rd hR2 vy p2) (rd hR2 vx p1) fun H3 r3 e3 hr3 hl4 => ?_
    have hl3 := hl2.ex e3
    refine ⟨svU hr3 (sv2.trans (Sv.of e3)) _, hsU hr3 (hs2.ex e3) _, ?_, upF (ws := w) hl3 hr3 (e3 _ _ hF2) _, upT (ws := w) hl3 hr3 (hT2.ex e3) _, upR (ws := w) hl3 hr3 (e3 _ _ hR2) _, back⟩
    rw [hfl]
    exact hl4
  · subst hσ
    rw [← hlen, List.take_length] at hl
    exact k a b H' sv hs hl
/-- tuple([tuple(line) for line in lines]) -/
theorem ew_lines {jq : Nat} {vs : List Nat} (h : LinesAt H L rs n w) (hn : n ≤ 20) (hv : σ[jl]? = some (some (.ref L))) (hw : ∀ x, wipe ((wipe σ vs).set jq (some x)) vs = wipe σ vs) (hq : ∀ x, ((wipe σ vs).set jq (some x))[jq]? = some (some x)) :
    EvW (tCB (rTupQ K) (tCons (tLc (iList K (tVar jl)) (gName jq) tYes (tCB (rTupQ K) (tCons (tVar jq) tNil)) vs) tNil)) σ H n w := by
  have hlr := h.rows.1
  refine ew_tup (er_lc .tup w (.inl rfl) (by have z := walk_list (K := K) (a := L) (xs := rs.map V.ref); rw [List.length_map, hlr] at z; exact z) (ei_list (ev_var hv) (sq_of h.at_)) (by omega) (fun H1 H2 e z => ex_l e z) fun H0 e0 i x H2 H3 hi e2 hx => ?_)
  obtain ⟨rfl, hx⟩ := hx
  have hi' : i < rs.length := by omega
  rw [List.getElem?_map, List.getElem?_eq_getElem hi'] at hx
  obtain rfl := Option.some.inj hx
  have hr := (e0.trans e2) _ _ (h.rows.2 i _ (List.getElem?_eq_getElem hi'))
  exact ⟨Ex.refl _, turn_name hw et_yes fun _ => ep_UF (eu_tupL (ev_var (hq _)) (sq_of hr)) fun p H4 hp e4 h4 => ⟨p, rfl, fresh_back e2 hp, h4⟩⟩
end
end Sw

set_option Elab.async false
set_option linter.all false
set_option maxRecDepth 100000
set_option maxHeartbeats 4000000
/-! The two steady webs, drawn; a tie changed. -/
namespace Sw
open PySem PySem.Spec PyProof.Rows L2 Evl SW
theorem fmodN (a b : Nat) : ((a : Int)).fmod (b : Int) = ((a % b : Nat) : Int) := by
  rw [Int.fmod_eq_emod_of_nonneg _ (Int.natCast_nonneg b)]
  rfl
theorem fdivN (a b : Nat) : ((a : Int)).fdiv (b : Int) = ((a / b : Nat) : Int) := by
  rw [Int.fdiv_eq_ediv_of_nonneg _ (Int.natCast_nonneg b)]
  rfl
/-- the tuples of pairs -/
def pv2 (p : Nat × Nat) : List V := [nV p.1, nV p.2]
def f10 (x : Nat) : Nat → Bool := fun y => decide (x / 3 = y / 3) || decide (x % 3 = y % 3)
def foesTo (i : Nat) : List (Nat × Nat) := (List.range i).flatMap fun x => ((List.range x).filter (f10 x)).map fun y => (1 + y, 1 + x)
theorem foesTo_succ (i : Nat) : foesTo (i + 1) = foesTo i ++ ((List.range i).filter (f10 i)).map fun y => (1 + y, 1 + i) := by
  unfold foesTo
  rw [List.range_succ, List.flatMap_append]
  simp only [List.flatMap_cons, List.flatMap_nil, List.append_nil]
theorem foesTo_len : ∀ i, i ≤ 10 → (foesTo i).length ≤ 10 * i
  | 0, _ => Nat.zero_le _
  | i + 1, hi => by
    have h := foesTo_len i (by omega)
    have h2 := List.length_filter_le (f10 i) (List.range i)
    rw [List.length_range] at h2
    rw [foesTo_succ, List.length_append, List.length_map]
    omega
theorem foes10_to : foesTo 9 = foes10 := rfl
section
variable {P : Program} {w : World} {K : PySem.W.Frag} {mg : Str → Option Value} {base : Heap}
def spKnown : Sp := fun vs H Q _ => ∃ (sp : Addr) (m kd : Nat), vs = [.ref sp, .int (kd : Int)] ∧ Spr H sp m ∧ m ≤ 800000 ∧ (kd = 0 ∨ kd = 1) ∧
  ∀ p (u : Wf) H', Sv sp H H' → Spr H' sp (m + 100) → WebAt H' p (6 + 4 * kd) u → Good (6 + 4 * kd) u → (∀ x y, x < 6 + 4 * kd → y < 6 + 4 * kd → x ≠ y → kk (6 + 4 * kd) u x y = 2 + 2 * kd) → Q (.ref p) H'
abbrev n_law_known : List Str := ["_law_spring_here", "_law_kind", "_law_x", "_law_foes", "_law_many", "_law_y", "_law_row_here", "_law_sides", "_law_lines", "_law_line"]
theorem sc_law_known : FnScope n_law_known ["_law_spring_here", "_law_kind"] (defScope q_law_known) := ⟨rfl, rfl, rfl, by decide +kernel, rfl, by decide +kernel, by decide +kernel⟩
theorem ok_law_known (T : Txt K mg) (D : DefAt K mg "_law_known" q_law_known) (c_law_sip : Fc P w K mg base 1 "_law_sip" ["_law_spring_here", "_law_upto"] spSip) (c_law_row : Fc P w K mg base 2 "_law_row" ["_law_spring_here", "_law_many"] spRow) :
    Fc P w K mg base 3 "_law_known" ["_law_spring_here", "_law_kind"] spKnown := by
  refine mk_fc D sc_law_known (fun _ _ _ _ _ _ us hl => match us, hl with | [_, _], _ => rfl) (fun _ _ _ _ _ _ us hl => match us, hl with | [_, _], _ => rfl) (fun vs H Q E h => ?_) (fun f cdv A outer s H vs Q E hr h => ?_)
  · obtain ⟨sp, m, kd, rfl, _⟩ := h
    rfl
  · obtain ⟨sp, m, kd, rfl, h0s, hm, hkd, k⟩ := h
    have nd := sc_law_known.nd
    refine ⟨_, (pss_cons (ps_setLc (i := 3) (own := [("_law_x", 2)]) rfl nd rfl rfl (sw_true rfl rfl rfl (by decide +kernel)) (pi_range1 (by rfl) T.range (pa_cons pe_int pa_nil)) (blkOk_by (own := [("_law_x", 2)]) (N := n_law_known) (sc := defScope q_law_known) (by decide +kernel)) (fun _ _ _ _ _ => (pg_name (i := 2) nd rfl (by first | exact Or.inl rfl | exact Or.inr rfl))) (fun _ _ _ _ _ => pts_nil) (fun _ _ _ _ _ => (pe_tup (pa_cons (pe_op op_add pe_int (pv 2)) (pa_cons (pe_op op_add pe_int (pe_op op_modN (pe_callTy call_int1 (by rfl) T.int (by decide +kernel) (pa_cons (pe_op op_add (pv 2) pe_int) pa_nil)) pe_int)) pa_nil)))))
        (pss_cons (ps_set (i := 4) nd rfl (by first | exact Or.inl rfl | exact Or.inr rfl) pe_int)
        (pss_cut (ps_if (pt_cmpR op_eq (pv 1) pe_int (nomark _))
        (pss_cons (ps_set (i := 4) nd rfl (by first | exact Or.inl rfl | exact Or.inr rfl) pe_int)
        (pss_cons (ps_set (i := 3) nd rfl (by first | exact Or.inl rfl | exact Or.inr rfl) (pe_lst pa_nil))
        (pss_one (ps_for PassesOwn.never rfl (pi_range1 (by rfl) T.range (pa_cons pe_int pa_nil)) (pg_name (i := 2) nd rfl (by first | exact Or.inl rfl | exact Or.inr rfl))
        (pss_one (ps_set (i := 3) nd rfl (by first | exact Or.inl rfl | exact Or.inr rfl) (pe_op op_cat (pv 3) (pe_lc (own := [("_law_y", 5)]) rfl nd (pi_range1 (by rfl) T.range (pa_cons (pv 2) pa_nil)) (blkOk_by (own := [("_law_y", 5)]) (N := n_law_known) (sc := defScope q_law_known) (by decide +kernel)) (fun _ _ _ _ _ => (pg_name (i := 5) nd rfl (by first | exact Or.inl rfl | exact Or.inr rfl))) (fun _ _ _ _ _ => (pts_one (PW.pt (pw_or (pt_cmpR op_eq (pe_op op_fdivN (pv 2) pe_int) (pe_op op_fdivN (pv 5) pe_int) (nomark _)) (pw_or1 (pt_cmpR op_eq (pe_op op_modN (pe_callTy call_int1 (by rfl) T.int (by decide +kernel) (pa_cons (pv 2) pa_nil)) pe_int) (pe_op op_modN (pe_callTy call_int1 (by rfl) T.int (by decide +kernel) (pa_cons (pv 5) pa_nil)) pe_int) (nomark _))))))) (fun _ _ _ _ _ => (pe_tup (pa_cons (pe_op op_add pe_int (pv 5)) (pa_cons (pe_op op_add pe_int (pv 2)) pa_nil)))))))))))) pss_nil)
        (pss_cons (ps_set (i := 6) nd rfl (by first | exact Or.inl rfl | exact Or.inr rfl) (pe_f c_law_row hr (by decide) rfl (pa_cons (pv 0) (pa_cons (pv 4) pa_nil))))
        (pss_cons (ps_set (i := 7) nd rfl (by first | exact Or.inl rfl | exact Or.inr rfl) (pe_lc (own := [("_law_x", 2)]) rfl nd (pi_range1 (by rfl) T.range (pa_cons (pv 4) pa_nil)) (blkOk_by (own := [("_law_x", 2)]) (N := n_law_known) (sc := defScope q_law_known) (by decide +kernel)) (fun _ _ _ _ _ => (pg_name (i := 2) nd rfl (by first | exact Or.inl rfl | exact Or.inr rfl))) (fun _ _ _ _ _ => pts_nil) (fun _ _ _ _ _ => (pe_op op_sub pe_int (pe_op op_mul pe_int (pe_f c_law_sip hr (by decide) rfl (pa_cons (pv 0) (pa_cons pe_int pa_nil))))))))
        (pss_cons (ps_setLc (i := 8) (own := [("_law_x", 2)]) rfl nd rfl rfl (sw_true rfl rfl rfl (by decide +kernel)) (pi_range1 (by rfl) T.range (pa_cons (pv 4) pa_nil)) (blkOk_by (own := [("_law_x", 2)]) (N := n_law_known) (sc := defScope q_law_known) (by decide +kernel)) (fun _ _ _ _ _ => (pg_name (i := 2) nd rfl (by first | exact Or.inl rfl | exact Or.inr rfl))) (fun _ _ _ _ _ => pts_nil) (fun _ _ _ _ _ => (pe_lc (own := [("_law_y", 5)]) rfl nd (pi_range1 (by rfl) T.range (pa_cons (pv 4) pa_nil)) (blkOk_by (own := [("_law_y", 5)]) (N := n_law_known) (sc := relS _ (defScope q_law_known)) (by decide +kernel)) (fun _ _ _ _ _ => (pg_name (i := 5) nd rfl (by first | exact Or.inl rfl | exact Or.inr rfl))) (fun _ _ _ _ _ => pts_nil) (fun _ _ _ _ _ => (pe_op op_mul (pe_op op_mul (pe_ix (ixL (K := K)) (pv 7) (pv 2) (fun _ _ => rfl)) (pe_ix (ixL (K := K)) (pv 7) (pv 5) (fun _ _ => rfl))) (pe_callTy call_int1 (by rfl) T.int (by decide +kernel) (pa_cons (pe_cmpR op_ne (pv 2) (pv 5) (nomark _)) pa_nil)))))))
        (pss_cons (ps_for PassesOwn.never rfl (piL (K := K) (pv 3)) (pgT (K := K) (n := 2) rfl (pgs_cons (pg_name (i := 2) nd rfl (by first | exact Or.inl rfl | exact Or.inr rfl)) (pgs_cons (pg_name (i := 5) nd rfl (by first | exact Or.inl rfl | exact Or.inr rfl)) pgs_nil)))
        (pss_cons (ps_asg (pe_un un_neg (pe_ix (ixL (K := K)) (pe_ix (ixL (K := K)) (pv 8) (pe_ix (ixT (K := K)) (pv 6) (pv 2) (fun _ _ => rfl)) (fun _ _ => rfl)) (pe_ix (ixT (K := K)) (pv 6) (pv 5) (fun _ _ => rfl)) (fun _ _ => rfl))) (pg_sub (pe_ix (ixL (K := K)) (pv 8) (pe_ix (ixT (K := K)) (pv 6) (pv 2) (fun _ _ => rfl)) (fun _ _ => rfl)) (pe_ix (ixT (K := K)) (pv 6) (pv 5) (fun _ _ => rfl)) set_list))
        (pss_one (ps_asg (pe_ix (ixL (K := K)) (pe_ix (ixL (K := K)) (pv 8) (pe_ix (ixT (K := K)) (pv 6) (pv 2) (fun _ _ => rfl)) (fun _ _ => rfl)) (pe_ix (ixT (K := K)) (pv 6) (pv 5) (fun _ _ => rfl)) (fun _ _ => rfl)) (pg_sub (pe_ix (ixL (K := K)) (pv 8) (pe_ix (ixT (K := K)) (pv 6) (pv 5) (fun _ _ => rfl)) (fun _ _ => rfl)) (pe_ix (ixT (K := K)) (pv 6) (pv 2) (fun _ _ => rfl)) set_list)))))
        (pss_one (ps_ret (pe_callTy (tupQ (K := K)) (by rfl) T.tuple (by decide +kernel) (pa_cons (pe_lc (own := [("_law_line", 9)]) rfl nd (piL (K := K) (pv 8)) (blkOk_by (own := [("_law_line", 9)]) (N := n_law_known) (sc := defScope q_law_known) (by decide +kernel)) (fun _ _ _ _ _ => (pg_name (i := 9) nd rfl (by first | exact Or.inl rfl | exact Or.inr rfl))) (fun _ _ _ _ _ => pts_nil) (fun _ _ _ _ _ => (pe_callTy (tupQ (K := K)) (by rfl) T.tuple (by decide +kernel) (pa_cons (pv 9) pa_nil)))) pa_nil))))))))))), ?_⟩
    have e00 : ∀ i : Nat, (0 : Int) + (i : Int) = (i : Int) := fun i => Int.zero_add _
    refine r_seqA (el_lcW (fun _ => true) (fun i v H => ∃ p, v = V.ref p ∧ H p = some (.tup (pv2 (1 + i, 1 + (i + 1) % 5)))) (stb_tup _) walk_range (ei_range1 (n := 5) (ea_cons ev_c ea_nil) (by decide)) (by decide) (fun _ _ _ z => z) (fun x v H1 H2 hx e1 hv => ?_) H (Ex.refl H) _ fun F xs H1 hF e1 hFx hM => ?_)
    · obtain ⟨rfl, hv⟩ := hv
      have hv : v = .int ((0 : Int) + (x : Int)) := hv
      subst hv
      rw [e00 x]
      refine ⟨Ex.refl _, turn_name (fun _ => rfl) et_yes fun _ => ep_UF (eu_tup (vs := pv2 (1 + x, 1 + (x + 1) % 5)) (ea_cons (ev_is (ev_op ev_c (ev_var rfl) rv_I0) (congrArg V.int (by omega))) (ea_cons (ev_is (ev_op ev_c (ev_op (ev_int1 (ev_op (ev_var rfl) ev_c rv_I0)) ev_c (rv_I (by decide))) rv_I0) (congrArg V.int ?_)) ea_nil)) (show 2 ≤ 100000 by decide)) fun r H5 _ _ h5 => ⟨r, rfl, h5⟩⟩
      have z := fmodN (x + 1) 5
      have z2 : ((x : Int) + 1) = ((x + 1 : Nat) : Int) := by omega
      rw [z2]
      show (1 : Int) + ((x + 1 : Nat) : Int).fmod ((5 : Nat) : Int) = _
      rw [z]
      show _ = ((1 + (x + 1) % 5 : Nat) : Int)
      omega
    · refine q_asg ev_c fun H2 e2 => ?_
      have hF2 := e2 _ _ hFx
      have hT2 : TupsAt (foes6.map pv2) xs H2 := by
        have z := (made_tups (fun i => pv2 (1 + i, 1 + (i + 1) % 5)) hM).ex e2
        rw [kept_all] at z
        exact z
      have e02 := e1.trans e2
      refine q_cut (M := fun σ' H' => Ex H H' ∧ ∃ (F : Addr) (xs : List V) (fs : List (Nat × Nat)) (a2 a5 : Option V), H' F = some (.lst xs) ∧ TupsAt (fs.map pv2) xs H' ∧ F ≠ sp ∧ baseOk (6 + 4 * kd) (2 + 2 * kd) fs = true ∧
        σ' = [some (.ref sp), some (.int (kd : Int)), a2, some (.ref F), some (.int ((6 + 4 * kd : Nat) : Int)), a5, none, none, none, none]) ?_ fun σ' H' ⟨e0, F, xs, fs, a2, a5, hF, hT, nF, hb, hσ⟩ => ?_
      · refine s_when (b := decide (kd = 1)) (et_is (et_test (ev_op (x := .int (kd : Int)) (y := .int 1) (ev_var rfl) ev_c (rv_eq rfl))) (by rcases hkd with rfl | rfl <;> rfl)) (fun hk H3 e3 => ?_) fun hk H3 e3 => ?_
        · have hk := of_decide_eq_true hk
          subst hk
          refine q_asg ev_c fun H4 e4 => q_asgL (el_lst ea_nil (by decide)) fun l H5 hl e5 h5 => ?_
          have e05 := ((e02.trans e3).trans e4).trans e5
          refine s_forR1 (n := 9) (ea_cons ev_c ea_nil) (by decide) (fun i σ' H' => Ex H H' ∧ ∃ (F : Addr) (xs : List V) (a2 a5 : Option V), H' F = some (.lst xs) ∧ TupsAt ((foesTo i).map pv2) xs H' ∧ H F = none ∧ σ' = [some (.ref sp), some (.int ((1 : Nat) : Int)), a2, some (.ref F), some (.int ((10 : Nat) : Int)), a5, none, none, none, none])
            (fun H6 e6 => ⟨e05.trans e6, l, [], _, _, e6 _ _ h5, .nil, fresh_back ((e02.trans e3).trans e4) hl, rfl⟩) (fun i σ' H' hi ⟨e, F, xs, a2, a5, hF, hT, hF0, hσ⟩ => ?_) fun σ' H' ⟨e, F, xs, a2, a5, hF, hT, hF0, hσ⟩ => ⟨e, F, xs, foes10, a2, a5, hF, hT, h0s.ne_none hF0, base10, hσ⟩
          subst hσ
          have hi9 : i < 9 := by omega
          have lF := foesTo_len i (by omega)
          have lFx : (foesTo i).length = xs.length := by have z := Paired.length hT; rw [List.length_map] at z; exact z
          refine r_asg (r_op (r_ev (ev_var (v := .ref F) rfl) fun H6 e6 => el_lcW (f10 i) (fun y v H => ∃ p, v = V.ref p ∧ H p = some (.tup (pv2 (1 + y, 1 + i)))) (stb_tup _) walk_range (ei_range1 (n := (i : Int)) (ea_cons (ev_var rfl) ea_nil) (by omega)) (by omega) (fun _ _ _ z => z) (fun y v H7 H8 hy e7 hv => ?_) H6 (Ex.refl H6) _ fun q ys H7 hq e7 h7 hM => ?_))
          · obtain ⟨rfl, hv⟩ := hv
            have hv : v = .int ((0 : Int) + (y : Int)) := hv
            subst hv
            rw [e00 y]
            refine ⟨Ex.refl _, turn_name (fun _ => rfl) ?_ fun _ => ep_UF (eu_tup (vs := pv2 (1 + y, 1 + i)) (ea_cons (ev_is (ev_op ev_c (ev_var rfl) rv_I0) (congrArg V.int (by omega))) (ea_cons (ev_is (ev_op ev_c (ev_var rfl) rv_I0) (congrArg V.int (by omega))) ea_nil)) (show 2 ≤ 100000 by decide)) fun r H5 _ _ h5 => ⟨r, rfl, h5⟩⟩
            refine et_or (et_is (et_test (ev_op (x := .int ((i / 3 : Nat) : Int)) (y := .int ((y / 3 : Nat) : Int)) (ev_is (ev_op (ev_var rfl) ev_c (rv_I ⟨by decide, by decide⟩)) (congrArg V.int (fdivN i 3))) (ev_is (ev_op (ev_var rfl) ev_c (rv_I ⟨by decide, by decide⟩)) (congrArg V.int (fdivN y 3))) (rv_eq rfl))) ?_) fun _ => et_is (et_test (ev_op (x := .int ((i % 3 : Nat) : Int)) (y := .int ((y % 3 : Nat) : Int)) (ev_is (ev_op (ev_int1 (ev_var rfl)) ev_c (rv_I (by decide))) (congrArg V.int (fmodN i 3))) (ev_is (ev_op (ev_int1 (ev_var rfl)) ev_c (rv_I (by decide))) (congrArg V.int (fmodN y 3))) (rv_eq rfl))) ?_
            · rw [Bool.eq_iff_iff, decide_eq_true_eq, decide_eq_true_eq, V.int.injEq]; omega
            · rw [Bool.eq_iff_iff, decide_eq_true_eq, decide_eq_true_eq, V.int.injEq]; omega
          · have lM := Paired.length hM
            have lK := kept_len (i : Int).toNat (f10 i)
            refine ⟨F, q, xs, ys, rfl, rfl, e7 _ _ (e6 _ _ hF), h7, sz_of (by omega), fun r hr => ⟨((e.trans e6).trans e7).trans (Ex.new hr), r, xs ++ ys, _, _, upd_same, ?_, fresh_back ((e.trans e6).trans e7) hr, rfl⟩⟩
            rw [foesTo_succ, List.map_append]
            refine tups_app (hT.ex ((e6.trans e7).trans (Ex.new hr))) ?_
            have z := (made_tups (fun y => pv2 (1 + y, 1 + i)) hM).ex (Ex.new (o := .lst (xs ++ ys)) hr)
            rw [List.map_map]
            exact z
        · have hk : kd = 0 := by rcases hkd with z | z
                                 · exact z
                                 · rw [z] at hk; exact nomatch hk
          subst hk
          exact ⟨e02.trans e3, F, xs, foes6, _, _, e3 _ _ hF2, hT2.ex e3, h0s.ne_none hF, base6, rfl⟩
      subst hσ
      have hfs := base_fs hb
      have hs := h0s.ex e0
      have sv0 := Sv.of (sp := sp) e0
      have hn10 : 6 ≤ 6 + 4 * kd ∧ 6 + 4 * kd ≤ 10 := by omega
      have hbb := hb
      generalize hn : 6 + 4 * kd = n at hfs hn10 hb
      obtain ⟨mm, hmm⟩ : ∃ mm, mm = m := ⟨m, rfl⟩
      rw [← hmm] at hs
      have hFk : ∀ H4, Sv sp H' H4 → Spr H4 sp (mm + n + n) → H4 F = some (.lst xs) := fun H4 sv _ => sv _ _ nF hF
      have hTk : ∀ H4, Sv sp H' H4 → Spr H4 sp (mm + n + n) → TupsAt (fs.map pv2) xs H4 := fun H4 sv _ => Paired.mapP hT fun c v ⟨t, a, b⟩ => ⟨t, a, sv.tup hs b⟩
      -- the row, the sides, the lines
      have hn1 : 1 ≤ n := by omega
      refine r_seqA (r_call (r_evA (ea_cons (ev_var rfl) (ea_cons (ev_var rfl) ea_nil)) fun H2 e2 => ⟨sp, mm, n, rfl, hs.ex e2, by omega, by omega, fun R l H3 sv3 hs3 hR hp => ?_⟩))
      refine r_seqA (r_sides (m := mm + n) (by omega) (by omega) hs3 (ea_cons (ev_var rfl) ea_nil) (fun _ => rfl) (fun _ => rfl) fun S s H4 sv4 hs4 hS0 hS hs1 => ?_)
      have gp := plain_good (sg := 1) hn1 (by omega) (.inl rfl) hs1
      have e00 : ∀ i : Nat, (0 : Int) + (i : Int) = (i : Int) := fun i => Int.zero_add _
      refine r_seqA (er_lc .lst (plainW 1 s) (.inr rfl) (n := (n : Int).toNat) walk_range (ei_range1 (n := (n : Int)) (ea_cons (ev_var rfl) ea_nil) (by omega)) (by omega) (fun _ _ _ z => z) (fun H5 e5 x v H6 H7 hx e6 hv => ?_) H4 (Ex.refl H4) _ fun L rs H5 hL0 hrs0 e5 hL hrows => ?_)
      · obtain ⟨rfl, hv⟩ := hv
        have hv : v = .int ((0 : Int) + (x : Int)) := hv
        subst hv
        rw [e00 x]
        have hx' : x < n := by omega
        refine ⟨Ex.refl _, turn_name (fun _ => rfl) et_yes fun _ => ep_LF (el_is (el_lcR1 (n := (n : Int)) (fun _ => true) (fun y => V.int (plainW 1 s x y)) (ea_cons (ev_var rfl) ea_nil) (by omega) (fun _ => rfl) (fun _ _ _ _ => et_yes) fun y H8 e8 hy _ => ?_) (given_all _ _)) fun r H9 hr e9 h9 => ⟨r, rfl, fresh_back e6 hr, h9⟩⟩
        have hy' : y < n := by omega
        have hS8 := sq_of (K := K) ((e5.trans (e6.trans e8)) _ _ hS)
        refine ev_is (ev_op (ev_op (ev_op (ev_var rfl) (ev_var rfl) (rv_ixL hS8 (atI_nat (rowAt hx')))) (ev_op (ev_var rfl) (ev_var rfl) (rv_ixL hS8 (atI_nat (rowAt hy')))) (rv_I (cm_l (by rcases hs1 x hx' with z | z <;> rw [z] <;> decide)))) (ev_intB (b := decide (x ≠ y)) (ev_is (ev_op (x := .int (x : Int)) (y := .int (y : Int)) (ev_var rfl) (ev_var rfl) (rv_ne rfl)) (by by_cases h : x = y <;> simp [h]; omega))) (rv_I (cm_r (by split <;> decide)))) ?_
        unfold plainW
        by_cases h : x = y
        · subst h; simp
        · rw [if_neg h, if_pos (decide_eq_true h), Int.mul_one, Int.one_mul]
      · have hrows : RowsAt .lst H5 rs n (plainW 1 s) := hrows
        have hnd := rows_nodup (fun a b e => HO.lst.inj e) gp hrows
        have sv14 := (Sv.of e2).trans (sv3.trans sv4)
        have e5s := Sv.of (sp := sp) e5
        have sv05 : Sv sp H H5 := (sv0.trans sv14).trans e5s
        have hF5 := e5 _ _ (hFk _ (sv14) hs4)
        have hT5 := (hTk _ sv14 hs4).ex e5
        refine q_flips (H0 := H) (m' := m) (fs := fs) ⟨hL, hrows, hnd, hn1⟩ hfs hF5 hT5 (e5 _ _ (sv4.tup hs3 hR)) hp (fun r hr => (sv0.trans sv14).fresh hs4 (hrs0 r hr)) h0s sv05 (hs4.ex e5) ⟨_, _, rfl⟩ (fun _ _ _ _ => rfl) rfl (fun _ _ => rfl) (fun _ _ => rfl) (fun _ _ => rfl) (fun _ _ => rfl) fun a b H6 sv6 hs6 hl6 => ?_
        exact s_retW (ew_lines hl6 (by omega) rfl (fun _ => rfl) (fun _ => rfl)) fun p H7 e7 hw => (by
          have q := known_kk hb hn1 hn10.2 hp hs1
          subst hn
          exact k p _ H7 (sv6.trans (Sv.of e7)) ((hs6.ex e7).le (by omega)) hw q.1 q.2)
end
end Sw

set_option Elab.async false
set_option linter.all false
set_option maxRecDepth 100000
set_option maxHeartbeats 4000000
/-! An all-tied web, drawn; a tie changed. -/
namespace Sw
open PySem PySem.Spec PyProof.Rows L2 Evl SW
theorem ite_by {A B : Prop} {c : Bool} (h1 : c = true → A) (h2 : c = false → B) : if c = true then A else B := by
  cases c with
  | true => exact h1 rfl
  | false => exact h2 rfl
section
variable {K : PySem.W.Frag} {σ : L2.St} {H : Hp} {t u : TT} {tu tw : TS} {D : Ends} {Q : Bool → Hp → Prop}
theorem r_test2 {te : TE} (h : te σ H fun x H1 => ∃ k, x = .bl k ∧ Q k H1) : tTest te σ H Q := h
theorem r_ifS (h : t σ H fun b H1 => if b = true then tu D σ H1 else tw D σ H1) : tIfS t tu tw D σ H := h
theorem r_andT (h1 : EvT t σ H true) (h : ∀ H1, Ex H H1 → u σ H1 Q) : tAnd t u σ H Q := h1 H (Ex.refl H) _ fun H1 e => by
  show u σ H1 Q
  exact h H1 e
theorem r_andF (h1 : EvT t σ H false) (h : ∀ H1, Ex H H1 → Q false H1) : tAnd t u σ H Q := h1 H (Ex.refl H) _ fun H1 e => by
  show Q false H1
  exact h H1 e
end
section
variable {P : Program} {w : World} {K : PySem.W.Frag} {mg : Str → Option Value} {base : Heap}
def spChanged : Sp := fun vs H Q _ => ∃ (sp p : Addr) (m n : Nat) (u : Wf), vs = [.ref sp, .ref p] ∧ Spr H sp m ∧ m ≤ 800000 ∧ WebAt H p n u ∧ Good n u ∧ 2 ≤ n ∧
  ∀ q a b H', Sv sp H H' → Spr H' sp (m + 2) → a < b → b < n → WebAt H' q n (flip1 u a b) → Q (.ref q) H'
abbrev n_law_changed : List Str := ["_law_spring_here", "_law_web", "_law_x", "_law_y", "_law_line", "_law_lines"]
theorem sc_law_changed : FnScope n_law_changed ["_law_spring_here", "_law_web"] (defScope q_law_changed) := ⟨rfl, rfl, rfl, by decide +kernel, rfl, by decide +kernel, by decide +kernel⟩
theorem ok_law_changed (T : Txt K mg) (D : DefAt K mg "_law_changed" q_law_changed) (c_law_sip : Fc P w K mg base 1 "_law_sip" ["_law_spring_here", "_law_upto"] spSip) : Fc P w K mg base 2 "_law_changed" ["_law_spring_here", "_law_web"] spChanged := by
  refine mk_fc D sc_law_changed (fun _ _ _ _ _ _ us hl => match us, hl with | [_, _], _ => rfl) (fun _ _ _ _ _ _ us hl => match us, hl with | [_, _], _ => rfl) (fun vs H Q E h => ?_) (fun f cdv A outer s H vs Q E hr h => ?_)
  · obtain ⟨sp, p, m, n, u, rfl, _⟩ := h
    rfl
  · obtain ⟨sp, p, m, n, u, rfl, hs, hm, hw, g, hn, k⟩ := h
    have nd := sc_law_changed.nd
    refine ⟨_, (pss_cons (ps_set (i := 2) nd rfl (by first | exact Or.inl rfl | exact Or.inr rfl) (pe_f c_law_sip hr (by decide) rfl (pa_cons (pv 0) (pa_cons (pe_op op_sub (pe_callB (lenQ (K := K)) (by rfl) T.len PySem.boot_len (pa_cons (pv 1) pa_nil)) pe_int) pa_nil))))
        (pss_cons (ps_set (i := 3) nd rfl (by first | exact Or.inl rfl | exact Or.inr rfl) (pe_op op_add (pe_op op_add (pv 2) pe_int) (pe_f c_law_sip hr (by decide) rfl (pa_cons (pv 0) (pa_cons (pe_op op_sub (pe_op op_sub (pe_callB (lenQ (K := K)) (by rfl) T.len PySem.boot_len (pa_cons (pv 1) pa_nil)) pe_int) (pv 2)) pa_nil)))))
        (pss_cons (ps_setLc (i := 5) (own := [("_law_line", 4)]) rfl nd rfl rfl (sw_true rfl rfl rfl (by decide +kernel)) (piT (K := K) (pv 1)) (blkOk_by (own := [("_law_line", 4)]) (N := n_law_changed) (sc := defScope q_law_changed) (by decide +kernel)) (fun _ _ _ _ _ => (pg_name (i := 4) nd rfl (by first | exact Or.inl rfl | exact Or.inr rfl))) (fun _ _ _ _ _ => pts_nil) (fun _ _ _ _ _ => (pe_callTy (listQ (K := K)) (by rfl) T.list (by decide +kernel) (pa_cons (pv 4) pa_nil))))
        (pss_cons (ps_asg (pe_un un_neg (pe_ix (ixL (K := K)) (pe_ix (ixL (K := K)) (pv 5) (pv 2) (fun _ _ => rfl)) (pv 3) (fun _ _ => rfl))) (pg_sub (pe_ix (ixL (K := K)) (pv 5) (pv 2) (fun _ _ => rfl)) (pv 3) set_list))
        (pss_cons (ps_asg (pe_ix (ixL (K := K)) (pe_ix (ixL (K := K)) (pv 5) (pv 2) (fun _ _ => rfl)) (pv 3) (fun _ _ => rfl)) (pg_sub (pe_ix (ixL (K := K)) (pv 5) (pv 3) (fun _ _ => rfl)) (pv 2) set_list))
        (pss_one (ps_ret (pe_callTy (tupQ (K := K)) (by rfl) T.tuple (by decide +kernel) (pa_cons (pe_lc (own := [("_law_line", 4)]) rfl nd (piL (K := K) (pv 5)) (blkOk_by (own := [("_law_line", 4)]) (N := n_law_changed) (sc := defScope q_law_changed) (by decide +kernel)) (fun _ _ _ _ _ => (pg_name (i := 4) nd rfl (by first | exact Or.inl rfl | exact Or.inr rfl))) (fun _ _ _ _ _ => pts_nil) (fun _ _ _ _ _ => (pe_callTy (tupQ (K := K)) (by rfl) T.tuple (by decide +kernel) (pa_cons (pv 4) pa_nil)))) pa_nil))))))))), ?_⟩
    have hn2 := g.hi
    refine r_seqA (r_sip (ev_var rfl) (ev_op (ev_lenW hw (ev_var rfl)) ev_c rv_I0) hs (by omega) (by omega) (by omega) fun H1 a sv1 hs1 ha => ?_)
    have hw1 := hw.sv sv1 hs
    refine r_seqA (r_op (r_ev (ev_op (ev_var rfl) ev_c rv_I0) fun H2 e2 => r_sip (ev_var rfl) (ev_op (ev_op (ev_lenW (hw1.ex e2) (ev_var rfl)) ev_c rv_I0) (ev_var rfl) rv_I0) (hs1.ex e2) (by omega) (by omega) (by omega) fun H3 b sv3 hs3 hb => ⟨_, _, rfl, rfl, ?_⟩))
    have eb : ((a : Int) + 1 + (b : Int)) = ((a + 1 + b : Nat) : Int) := by omega
    dsimp only
    rw [eb]
    have hab : a < a + 1 + b := by omega
    have hbn : a + 1 + b < n := by omega
    generalize a + 1 + b = c at hab hbn
    have sv03 := sv1.trans ((Sv.of e2).trans sv3)
    have hw3 := hw.sv sv03 hs
    obtain ⟨rs0, hl0, hp0, hrow0⟩ := hw3
    refine r_seqA (er_lc .lst u (.inr rfl) (n := n) (by have z := walk_tup (K := K) (a := p) (xs := rs0.map V.ref); rw [List.length_map, hl0] at z; exact z) (ei_tup (ev_var rfl) (st_of hp0)) (by omega) (fun H1 H2 e z => ex_t e z) (fun H4 e4 i x H5 H6 hi e5 hx => ?_) H3 (Ex.refl H3) _ fun L rs H4 hL0 hrs0 e4 hL hrows => ?_)
    · obtain ⟨rfl, hx⟩ := hx
      have hi' : i < rs0.length := by omega
      rw [List.getElem?_map, List.getElem?_eq_getElem hi'] at hx
      obtain rfl := Option.some.inj hx
      have hr := (e4.trans e5) _ _ (hrow0 i _ (List.getElem?_eq_getElem hi'))
      exact ⟨Ex.refl _, turn_name (fun _ => rfl) et_yes fun _ => ep_LF (el_listQ (ev_var rfl) (.inr (st_of hr))) fun q H7 hq e7 h7 => ⟨q, rfl, fresh_back e5 hq, h7⟩⟩
    · have hnd := rows_nodup (fun a b e => HO.lst.inj e) g hrows
      have hl : LinesAt H4 L rs n u := ⟨hL, hrows, hnd, by omega⟩
      have hmem : ∀ {i : Nat} {r : Addr}, rs[i]? = some r → r ≠ sp ∧ H r = none := fun {i r} hr => by
        have z := hrs0 r (List.mem_of_getElem? hr)
        exact ⟨hs3.ne_none z, sv03.fresh hs3 z⟩
      refine q_cell hl (by omega) hbn (ev_un (hl.cell (by omega) hbn (ev_var rfl) (ev_var rfl) (ev_var rfl)) ru_neg) (ev_var rfl) (ev_var rfl) (ev_var rfl) fun H5 r5 e5 hr5 hl5 => ?_
      have sv5 : Sv sp H (upd H5 r5 (.lst ((rowV n u a).set c (.int (-u a c))))) := ((sv03.trans (Sv.of e4)).trans (Sv.of e5)).mut (hmem hr5).2
      have hs5 : Spr (upd H5 r5 (.lst ((rowV n u a).set c (.int (-u a c))))) sp (m + 1 + 1) := ((hs3.ex e4).ex e5).set (hmem hr5).1
      generalize upd H5 r5 (.lst ((rowV n u a).set c (.int (-u a c)))) = H6 at hl5 sv5 hs5
      have e12 : set1 u a c (-u a c) a c = -u a c := if_pos ⟨rfl, rfl⟩
      refine q_cell (v := -u a c) hl5 hbn (by omega) (ev_is (hl5.cell (by omega) hbn (ev_var rfl) (ev_var rfl) (ev_var rfl)) (by rw [e12])) (ev_var rfl) (ev_var rfl) (ev_var rfl) fun H7 r7 e7 hr7 hl7 => ?_
      rw [flip1_set] at hl7
      have sv7 := (sv5.trans (Sv.of e7)).mut (o := .lst ((rowV n (set1 u a c (-u a c)) c).set a (.int (-u a c)))) (hmem hr7).2
      have hs7 := (hs5.ex e7).set (v := .lst ((rowV n (set1 u a c (-u a c)) c).set a (.int (-u a c)))) (hmem hr7).1
      exact s_retW (ew_lines hl7 (by omega) rfl (fun _ => rfl) (fun _ => rfl)) fun q H8 e8 h8 => k q a c H8 (sv7.trans (Sv.of e8)) (hs7.ex e8) hab hbn h8
def spTiedWeb : Sp := fun vs H Q _ => ∃ (sp : Addr) (m : Nat), vs = [.ref sp, .int 7, .int 10] ∧ Spr H sp m ∧ m ≤ 800000 ∧ ∀ p n (u : Wf) H', Sv sp H H' → Spr H' sp (m + 300) → WebAt H' p n u → Good n u → Q (.ref p) H'
abbrev n_law_all_tied : List Str := ["_law_spring_here", "_law_small", "_law_great", "_law_many", "_law_kind", "_law_foes", "_law_x", "_law_y", "_law_few", "_law_row_here", "_law_sides", "_law_lines", "_law_line"]
theorem sc_law_all_tied : FnScope n_law_all_tied ["_law_spring_here", "_law_small", "_law_great"] (defScope q_law_all_tied) := ⟨rfl, rfl, rfl, by decide +kernel, rfl, by decide +kernel, by decide +kernel⟩
theorem ok_law_all_tied (T : Txt K mg) (D : DefAt K mg "_law_all_tied" q_law_all_tied) (c_law_sip : Fc P w K mg base 1 "_law_sip" ["_law_spring_here", "_law_upto"] spSip) (c_law_row : Fc P w K mg base 2 "_law_row" ["_law_spring_here", "_law_many"] spRow) :
    Fc P w K mg base 3 "_law_all_tied" ["_law_spring_here", "_law_small", "_law_great"] spTiedWeb := by
  refine mk_fc D sc_law_all_tied (fun _ _ _ _ _ _ us hl => match us, hl with | [_, _, _], _ => rfl) (fun _ _ _ _ _ _ us hl => match us, hl with | [_, _, _], _ => rfl) (fun vs H Q E h => ?_) (fun f cdv A outer s H vs Q E hr h => ?_)
  · obtain ⟨sp, m, rfl, _⟩ := h
    rfl
  · obtain ⟨sp, m, rfl, h0s, hm, k⟩ := h
    have nd := sc_law_all_tied.nd
    refine ⟨_, (pss_cons (ps_set (i := 3) nd rfl (by first | exact Or.inl rfl | exact Or.inr rfl) (pe_op op_add pe_int (pe_f c_law_sip hr (by decide) rfl (pa_cons (pv 0) (pa_cons (pv 1) pa_nil)))))
        (pss_cut (ps_if (PW.pt (pw_and (pt_cmpR op_gt (pv 2) pe_int (nomark _)) (pw_and1 (pt_cmpR op_eq (pe_f c_law_sip hr (by decide) rfl (pa_cons (pv 0) (pa_cons pe_int pa_nil))) pe_int (nomark _)))))
        (pss_one (ps_set (i := 3) nd rfl (by first | exact Or.inl rfl | exact Or.inr rfl) (pe_op op_add pe_int (pe_f c_law_sip hr (by decide) rfl (pa_cons (pv 0) (pa_cons (pe_op op_sub (pv 2) pe_int) pa_nil)))))) pss_nil)
        (pss_cons (ps_set (i := 4) nd rfl (by first | exact Or.inl rfl | exact Or.inr rfl) (pe_f c_law_sip hr (by decide) rfl (pa_cons (pv 0) (pa_cons pe_int pa_nil))))
        (pss_cons (ps_set (i := 5) nd rfl (by first | exact Or.inl rfl | exact Or.inr rfl) (pe_lst pa_nil))
        (pss_cut (ps_if (PW.pt (pw_and (pt_cmpR op_eq (pv 4) pe_int (nomark _)) (pw_and1 (pt_cmpR op_gt (pv 1) pe_int (nomark _)))))
        (pss_cons (ps_set (i := 3) nd rfl (by first | exact Or.inl rfl | exact Or.inr rfl) pe_int)
        (pss_one (ps_setLc (i := 5) (own := [("_law_x", 6)]) rfl nd rfl rfl (sw_true rfl rfl rfl (by decide +kernel)) (pi_range1 (by rfl) T.range (pa_cons pe_int pa_nil)) (blkOk_by (own := [("_law_x", 6)]) (N := n_law_all_tied) (sc := defScope q_law_all_tied) (by decide +kernel)) (fun _ _ _ _ _ => (pg_name (i := 6) nd rfl (by first | exact Or.inl rfl | exact Or.inr rfl))) (fun _ _ _ _ _ => pts_nil) (fun _ _ _ _ _ => (pe_tup (pa_cons (pe_op op_add pe_int (pv 6)) (pa_cons (pe_op op_add pe_int (pe_op op_modN (pe_callTy call_int1 (by rfl) T.int (by decide +kernel) (pa_cons (pe_op op_add (pv 6) pe_int) pa_nil)) pe_int)) pa_nil))))))) (pss_one (ps_if (PW.pt (pw_and (pt_cmpR op_eq (pv 4) pe_int (nomark _)) (pw_and1 (pt_cmpR op_gt (pv 2) pe_int (nomark _)))))
        (pss_cons (ps_set (i := 3) nd rfl (by first | exact Or.inl rfl | exact Or.inr rfl) pe_int)
        (pss_one (ps_for PassesOwn.never rfl (pi_range1 (by rfl) T.range (pa_cons pe_int pa_nil)) (pg_name (i := 6) nd rfl (by first | exact Or.inl rfl | exact Or.inr rfl))
        (pss_one (ps_for PassesOwn.never rfl (pi_range1 (by rfl) T.range (pa_cons (pv 6) pa_nil)) (pg_name (i := 7) nd rfl (by first | exact Or.inl rfl | exact Or.inr rfl))
        (pss_one (ps_if (PW.pt (pw_or (pt_cmpR op_eq (pe_op op_fdivN (pv 6) pe_int) (pe_op op_fdivN (pv 7) pe_int) (nomark _)) (pw_or1 (pt_cmpR op_eq (pe_op op_modN (pe_callTy call_int1 (by rfl) T.int (by decide +kernel) (pa_cons (pv 6) pa_nil)) pe_int) (pe_op op_modN (pe_callTy call_int1 (by rfl) T.int (by decide +kernel) (pa_cons (pv 7) pa_nil)) pe_int) (nomark _)))))
        (pss_one (ps_expr (pe_bm PySem.F.plainAttrs_list PySem.F.slot_list_append PySem.F.type_list_append mt_append (pv 5) (pa_cons (pe_tup (pa_cons (pe_op op_add pe_int (pv 7)) (pa_cons (pe_op op_add pe_int (pv 6)) pa_nil))) pa_nil)))) pss_nil))))))) (pss_cons (ps_set (i := 8) nd rfl (by first | exact Or.inl rfl | exact Or.inr rfl) (pe_op op_add pe_int (pe_op op_mul pe_int (pe_f c_law_sip hr (by decide) rfl (pa_cons (pv 0) (pa_cons pe_int pa_nil))))))
        (pss_one (ps_for PassesOwn.never rfl (pi_range1 (by rfl) T.range (pa_cons (pv 3) pa_nil)) (pg_name (i := 7) nd rfl (by first | exact Or.inl rfl | exact Or.inr rfl))
        (pss_one (ps_set (i := 5) nd rfl (by first | exact Or.inl rfl | exact Or.inr rfl) (pe_op op_cat (pv 5) (pe_lc (own := [("_law_x", 6)]) rfl nd (pi_range1 (by rfl) T.range (pa_cons (pv 7) pa_nil)) (blkOk_by (own := [("_law_x", 6)]) (N := n_law_all_tied) (sc := defScope q_law_all_tied) (by decide +kernel)) (fun _ _ _ _ _ => (pg_name (i := 6) nd rfl (by first | exact Or.inl rfl | exact Or.inr rfl))) (fun _ _ _ _ _ => (pts_one (pt_cmpR op_eq (pe_f c_law_sip hr (by decide) rfl (pa_cons (pv 0) (pa_cons (pv 8) pa_nil))) pe_int (nomark _)))) (fun _ _ _ _ _ => (pe_tup (pa_cons (pv 6) (pa_cons (pv 7) pa_nil))))))))))))))
        (pss_cons (ps_set (i := 9) nd rfl (by first | exact Or.inl rfl | exact Or.inr rfl) (pe_f c_law_row hr (by decide) rfl (pa_cons (pv 0) (pa_cons (pv 3) pa_nil))))
        (pss_cons (ps_set (i := 10) nd rfl (by first | exact Or.inl rfl | exact Or.inr rfl) (pe_lc (own := [("_law_x", 6)]) rfl nd (pi_range1 (by rfl) T.range (pa_cons (pv 3) pa_nil)) (blkOk_by (own := [("_law_x", 6)]) (N := n_law_all_tied) (sc := defScope q_law_all_tied) (by decide +kernel)) (fun _ _ _ _ _ => (pg_name (i := 6) nd rfl (by first | exact Or.inl rfl | exact Or.inr rfl))) (fun _ _ _ _ _ => pts_nil) (fun _ _ _ _ _ => (pe_op op_sub pe_int (pe_op op_mul pe_int (pe_f c_law_sip hr (by decide) rfl (pa_cons (pv 0) (pa_cons pe_int pa_nil))))))))
        (pss_cons (ps_setLc (i := 11) (own := [("_law_x", 6)]) rfl nd rfl rfl (sw_true rfl rfl rfl (by decide +kernel)) (pi_range1 (by rfl) T.range (pa_cons (pv 3) pa_nil)) (blkOk_by (own := [("_law_x", 6)]) (N := n_law_all_tied) (sc := defScope q_law_all_tied) (by decide +kernel)) (fun _ _ _ _ _ => (pg_name (i := 6) nd rfl (by first | exact Or.inl rfl | exact Or.inr rfl))) (fun _ _ _ _ _ => pts_nil) (fun _ _ _ _ _ => (pe_lc (own := [("_law_y", 7)]) rfl nd (pi_range1 (by rfl) T.range (pa_cons (pv 3) pa_nil)) (blkOk_by (own := [("_law_y", 7)]) (N := n_law_all_tied) (sc := relS _ (defScope q_law_all_tied)) (by decide +kernel)) (fun _ _ _ _ _ => (pg_name (i := 7) nd rfl (by first | exact Or.inl rfl | exact Or.inr rfl))) (fun _ _ _ _ _ => pts_nil) (fun _ _ _ _ _ => (pe_op op_mul (pe_op op_mul (pe_ix (ixL (K := K)) (pv 10) (pv 6) (fun _ _ => rfl)) (pe_ix (ixL (K := K)) (pv 10) (pv 7) (fun _ _ => rfl))) (pe_callTy call_int1 (by rfl) T.int (by decide +kernel) (pa_cons (pe_cmpR op_ne (pv 6) (pv 7) (nomark _)) pa_nil)))))))
        (pss_cons (ps_for PassesOwn.never rfl (piL (K := K) (pv 5)) (pgT (K := K) (n := 2) rfl (pgs_cons (pg_name (i := 6) nd rfl (by first | exact Or.inl rfl | exact Or.inr rfl)) (pgs_cons (pg_name (i := 7) nd rfl (by first | exact Or.inl rfl | exact Or.inr rfl)) pgs_nil)))
        (pss_cons (ps_asg (pe_un un_neg (pe_ix (ixL (K := K)) (pe_ix (ixL (K := K)) (pv 11) (pe_ix (ixT (K := K)) (pv 9) (pv 6) (fun _ _ => rfl)) (fun _ _ => rfl)) (pe_ix (ixT (K := K)) (pv 9) (pv 7) (fun _ _ => rfl)) (fun _ _ => rfl))) (pg_sub (pe_ix (ixL (K := K)) (pv 11) (pe_ix (ixT (K := K)) (pv 9) (pv 6) (fun _ _ => rfl)) (fun _ _ => rfl)) (pe_ix (ixT (K := K)) (pv 9) (pv 7) (fun _ _ => rfl)) set_list))
        (pss_one (ps_asg (pe_ix (ixL (K := K)) (pe_ix (ixL (K := K)) (pv 11) (pe_ix (ixT (K := K)) (pv 9) (pv 6) (fun _ _ => rfl)) (fun _ _ => rfl)) (pe_ix (ixT (K := K)) (pv 9) (pv 7) (fun _ _ => rfl)) (fun _ _ => rfl)) (pg_sub (pe_ix (ixL (K := K)) (pv 11) (pe_ix (ixT (K := K)) (pv 9) (pv 7) (fun _ _ => rfl)) (fun _ _ => rfl)) (pe_ix (ixT (K := K)) (pv 9) (pv 6) (fun _ _ => rfl)) set_list)))))
        (pss_one (ps_ret (pe_callTy (tupQ (K := K)) (by rfl) T.tuple (by decide +kernel) (pa_cons (pe_lc (own := [("_law_line", 12)]) rfl nd (piL (K := K) (pv 11)) (blkOk_by (own := [("_law_line", 12)]) (N := n_law_all_tied) (sc := defScope q_law_all_tied) (by decide +kernel)) (fun _ _ _ _ _ => (pg_name (i := 12) nd rfl (by first | exact Or.inl rfl | exact Or.inr rfl))) (fun _ _ _ _ _ => pts_nil) (fun _ _ _ _ _ => (pe_callTy (tupQ (K := K)) (by rfl) T.tuple (by decide +kernel) (pa_cons (pv 12) pa_nil)))) pa_nil))))))))))))), ?_⟩
    have e00 : ∀ i : Nat, (0 : Int) + (i : Int) = (i : Int) := fun i => Int.zero_add _
    refine r_seqA (r_op (r_ev ev_c fun H1 e1 => r_sip (t := 7) (ev_var rfl) (ev_var rfl) (h0s.ex e1) (by omega) (by decide) (by decide) fun H2 r sv2 hs2 hr2 => ⟨_, _, rfl, rfl, ?_⟩))
    have sv02 := (Sv.of (sp := sp) e1).trans sv2
    refine q_cut (M := fun σ' H' => Sv sp H H' ∧ Spr H' sp (m + 3) ∧ ∃ n : Nat, 1 ≤ n ∧ n ≤ 10 ∧ σ' = [some (.ref sp), some (.int 7), some (.int 10), some (.int (n : Int)), none, none, none, none, none, none, none, none, none]) ?_ fun σ' H' ⟨sv3, hs3, n1, hn11, hn12, hσ⟩ => ?_
    · refine r_ifS (r_andT (et_is (et_test (ev_op (ev_var rfl) ev_c rv_I0)) rfl) fun H3 e3 => r_test2 (r_op (r_sip (t := 4) (ev_var rfl) ev_c (hs2.ex e3) (by omega) (by decide) (by decide) fun H4 r4 sv4 hs4 hr4 => ⟨rfl, _, rfl, ite_by (fun _ => ?_) fun _ => ?_⟩)))
      · refine r_asg (r_op (r_ev ev_c fun H5 e5 => r_sip (t := 4) (ev_var rfl) (ev_is (ev_op (ev_var rfl) ev_c rv_I0) rfl) (hs4.ex e5) (by omega) (by decide) (by decide) fun H6 r6 sv6 hs6 hr6 => ⟨_, _, rfl, rfl, ?_⟩))
        exact ⟨((sv02.trans (Sv.of e3)).trans sv4).trans ((Sv.of e5).trans sv6), hs6.le (by omega), 7 + r6, by omega, by omega, by show _ = _; rw [show ((7 + r6 : Nat) : Int) = 7 + (r6 : Int) by omega]; rfl⟩
      · exact ⟨(sv02.trans (Sv.of e3)).trans sv4, hs4.le (by omega), 1 + r, by omega, by omega, by show _ = _; rw [show ((1 + r : Nat) : Int) = 1 + (r : Int) by omega]; rfl⟩
    · subst hσ
      refine r_seqA (r_sip (t := 6) (ev_var rfl) ev_c hs3 (by omega) (by decide) (by decide) fun H4 kd sv4 hs4 hkd => ?_)
      have sv04 := sv3.trans sv4
      refine q_asgL (el_lst ea_nil (by decide)) fun l H5 hl e5 h5 => ?_
      have hl0 : H l = none := sv04.fresh hs4 hl
      have sv05 := sv04.trans (Sv.of e5)
      have hs5 := hs4.ex e5
      refine q_cut (M := fun σ' H' => Sv sp H H' ∧ Spr H' sp (m + 200) ∧ ∃ (F : Addr) (xs : List V) (fs : List (Nat × Nat)) (n : Nat) (a6 a7 a8 : Option V), H' F = some (.lst xs) ∧ TupsAt (fs.map pv2) xs H' ∧ F ≠ sp ∧ (1 ≤ n ∧ n ≤ 10) ∧ (∀ p ∈ fs, p.1 < n ∧ p.2 < n ∧ p.1 ≠ p.2) ∧
        σ' = [some (.ref sp), some (.int 7), some (.int 10), some (.int (n : Int)), some (.int (kd : Int)), some (.ref F), a6, a7, a8, none, none, none, none]) ?_ fun σ' H' ⟨sv0, hs, F, xs, fs, n, a6, a7, a8, hF, hT, nF, hn10, hfs, hσ⟩ => ?_
      · refine s_if (b := decide (kd = 0) && true) (et_and (a := decide (kd = 0)) (b := true) (et_is (et_test (ev_op (x := .int (kd : Int)) (y := .int 0) (ev_var rfl) ev_c (rv_eq rfl))) (by rw [Bool.eq_iff_iff, decide_eq_true_eq, decide_eq_true_eq, V.int.injEq]; omega)) fun _ => et_is (et_test (ev_op (ev_var rfl) ev_c rv_I0)) rfl) (fun _ H6 e6 => ?_) fun _ H6 e6 => ?_
        · refine q_asg ev_c fun H7 e7 => ?_
          have e57 := e6.trans e7
          refine r_asg (el_lcW (fun _ => true) (fun i v H => ∃ p, v = V.ref p ∧ H p = some (.tup (pv2 (1 + i, 1 + (i + 1) % 5)))) (stb_tup _) walk_range (ei_range1 (n := 5) (ea_cons ev_c ea_nil) (by decide)) (by decide) (fun _ _ _ z => z) (fun x v H1 H2 hx e1 hv => ?_) H7 (Ex.refl H7) _ fun F xs H8 hF e8 hFx hM => ?_)
          · obtain ⟨rfl, hv⟩ := hv
            have hv : v = .int ((0 : Int) + (x : Int)) := hv
            subst hv
            rw [e00 x]
            refine ⟨Ex.refl _, turn_name (fun _ => rfl) et_yes fun _ => ep_UF (eu_tup (vs := pv2 (1 + x, 1 + (x + 1) % 5)) (ea_cons (ev_is (ev_op ev_c (ev_var rfl) rv_I0) (congrArg V.int (by omega))) (ea_cons (ev_is (ev_op ev_c (ev_op (ev_int1 (ev_op (ev_var rfl) ev_c rv_I0)) ev_c (rv_I (by decide))) rv_I0) (congrArg V.int ?_)) ea_nil)) (show 2 ≤ 100000 by decide)) fun r H5 _ _ h5 => ⟨r, rfl, h5⟩⟩
            have z := fmodN (x + 1) 5
            have z2 : ((x : Int) + 1) = ((x + 1 : Nat) : Int) := by omega
            rw [z2]
            show (1 : Int) + ((x + 1 : Nat) : Int).fmod ((5 : Nat) : Int) = _
            rw [z]
            show _ = ((1 + (x + 1) % 5 : Nat) : Int)
            omega
          · refine ⟨sv05.trans (Sv.of (e57.trans e8)), (hs5.ex (e57.trans e8)).le (by omega), F, xs, foes6, 6, _, _, _, hFx, ?_, (hs5.ex e57).ne_none hF, by decide, base_fs base6, rfl⟩
            have z := made_tups (fun i => pv2 (1 + i, 1 + (i + 1) % 5)) hM
            rw [kept_all] at z
            exact z
        · refine s_if (b := decide (kd = 1) && true) (et_and (a := decide (kd = 1)) (b := true) (et_is (et_test (ev_op (x := .int (kd : Int)) (y := .int 1) (ev_var rfl) ev_c (rv_eq rfl))) (by rw [Bool.eq_iff_iff, decide_eq_true_eq, decide_eq_true_eq, V.int.injEq]; omega)) fun _ => et_is (et_test (ev_op (ev_var rfl) ev_c rv_I0)) rfl) (fun _ H7 e7 => ?_) fun _ H7 e7 => ?_
          · refine q_asg ev_c fun H8 e8 => ?_
            have e58 := (e6.trans e7).trans e8
            have sv08 := sv05.trans (Sv.of e58)
            have hs8 := hs5.ex e58
            refine s_forR1 (n := 9) (ea_cons ev_c ea_nil) (by decide) (fun i σ' H' => Sv sp H H' ∧ Spr H' sp (m + 3 + 1) ∧ ∃ (xs : List V) (a6 a7 : Option V), H' l = some (.lst xs) ∧ TupsAt ((foesTo i).map pv2) xs H' ∧ σ' = [some (.ref sp), some (.int 7), some (.int 10), some (.int ((10 : Nat) : Int)), some (.int (kd : Int)), some (.ref l), a6, a7, none, none, none, none, none])
              (fun H9 e9 => ⟨sv08.trans (Sv.of e9), hs8.ex e9, [], _, _, e9 _ _ (e58 _ _ h5), .nil, rfl⟩) (fun i σ' H' hi ⟨sv, hs, xs, a6, a7, hF, hT, hσ⟩ => ?_) fun σ' H' ⟨sv, hs, xs, a6, a7, hF, hT, hσ⟩ => ⟨sv, hs.le (by omega), l, xs, foes10, 10, a6, a7, none, hF, hT, h0s.ne_none hl0, by decide, base_fs base10, hσ⟩
            subst hσ
            have hi9 : i < 9 := by omega
            refine s_forR1 (n := (i : Int)) (ea_cons (ev_var rfl) ea_nil) (by omega) (fun j σ' H' => Sv sp H H' ∧ Spr H' sp (m + 3 + 1) ∧ ∃ (xs : List V) (a7 : Option V), H' l = some (.lst xs) ∧ TupsAt ((foesTo i ++ ((List.range j).filter (f10 i)).map fun y => (1 + y, 1 + i)).map pv2) xs H' ∧ σ' = [some (.ref sp), some (.int 7), some (.int 10), some (.int ((10 : Nat) : Int)), some (.int (kd : Int)), some (.ref l), some (.int (i : Int)), a7, none, none, none, none, none])
              (fun H9 e9 => ⟨sv.trans (Sv.of e9), hs.ex e9, xs, _, e9 _ _ hF, by show TupsAt ((foesTo i ++ []).map pv2) xs H9; rw [List.append_nil]; exact hT.ex e9, rfl⟩) (fun j σ' H' hj ⟨sv, hs, xs, a7, hF, hT, hσ⟩ => ?_) fun σ' H' ⟨sv, hs, xs, a7, hF, hT, hσ⟩ => ⟨sv, hs, xs, _, _, hF, by rw [foesTo_succ]; exact hT, hσ⟩
            subst hσ
            have hji : j < i := by omega
            have lF := foesTo_len i (by omega)
            have lFx := Paired.length hT
            have lK : ((List.range j).filter (f10 i)).length ≤ j := by have z := List.length_filter_le (f10 i) (List.range j); rw [List.length_range] at z; exact z
            rw [List.length_map, List.length_append, List.length_map] at lFx
            refine s_when (b := f10 i j) (et_or (et_is (et_test (ev_op (x := .int ((i / 3 : Nat) : Int)) (y := .int ((j / 3 : Nat) : Int)) (ev_is (ev_op (ev_var rfl) ev_c (rv_I ⟨by decide, by decide⟩)) (congrArg V.int (fdivN i 3))) (ev_is (ev_op (ev_var rfl) ev_c (rv_I ⟨by decide, by decide⟩)) (congrArg V.int (fdivN j 3))) (rv_eq rfl))) ?_) fun _ => et_is (et_test (ev_op (x := .int ((i % 3 : Nat) : Int)) (y := .int ((j % 3 : Nat) : Int)) (ev_is (ev_op (ev_int1 (ev_var rfl)) ev_c (rv_I (by decide))) (congrArg V.int (fmodN i 3))) (ev_is (ev_op (ev_int1 (ev_var rfl)) ev_c (rv_I (by decide))) (congrArg V.int (fmodN j 3))) (rv_eq rfl))) ?_) (fun hc H9 e9 => ?_) fun hc H9 e9 => ?_
            · rw [Bool.eq_iff_iff, decide_eq_true_eq, decide_eq_true_eq, V.int.injEq]; omega
            · rw [Bool.eq_iff_iff, decide_eq_true_eq, decide_eq_true_eq, V.int.injEq]; omega
            · refine s_appU (ys := pv2 (1 + j, 1 + i)) (e9 _ _ hF) (ev_var rfl) (eu_tup (ea_cons (ev_is (ev_op ev_c (ev_var rfl) rv_I0) (congrArg V.int (by omega))) (ea_cons (ev_is (ev_op ev_c (ev_var rfl) rv_I0) (congrArg V.int (by omega))) ea_nil)) (show 2 ≤ 100000 by decide)) (by omega) fun p H10 hp e10 h10 => ⟨((sv.trans (Sv.of e9)).trans (Sv.of e10)).mut hl0, ((hs.ex e9).ex e10).set (h0s.ne_none hl0), xs ++ [.ref p], _, upd_same, ?_, rfl⟩
              have hl10 := (e9.trans e10) _ _ hF
              rw [List.range_succ, List.filter_append, List.filter_cons, if_pos hc, List.filter_nil, List.map_append, List.map_append, List.map_append, ← List.append_assoc]
              have tup_l : ∀ t c, H10 t = some (.tup c) → (upd H10 l (.lst (xs ++ [V.ref p]))) t = some (.tup c) := fun t c h => by
                rw [upd_ne (fun z => by rw [z, hl10] at h; cases h)]
                exact h
              rw [List.map_append] at hT
              exact tups_app (Paired.mapP (hT.ex (e9.trans e10)) fun c v ⟨t, a, b⟩ => ⟨t, a, tup_l t c b⟩) (.cons ⟨p, rfl, tup_l p _ h10⟩ .nil)
            · refine ⟨sv.trans (Sv.of e9), hs.ex e9, xs, _, e9 _ _ hF, ?_, rfl⟩
              rw [List.range_succ, List.filter_append, List.filter_cons, if_neg (by rw [hc]; decide), List.filter_nil, List.append_nil]
              exact hT.ex e9
          · have e57 := e6.trans e7
            have sv07 := sv05.trans (Sv.of e57)
            have hs7 := hs5.ex e57
            refine r_seqA (r_op (r_ev ev_c fun H8 e8 => r_op (r_ev ev_c fun H9 e9 => r_sip (t := 3) (ev_var rfl) ev_c ((hs7.ex e8).ex e9) (by omega) (by decide) (by decide) fun H10 r10 sv10 hs10 hr10 => ⟨2, (r10 : Int), rfl, rfl, .inl ⟨by decide, by decide⟩, 2, 2 * (r10 : Int), rfl, rfl, ?_⟩)))
            have sv0A := (sv07.trans (Sv.of (e8.trans e9))).trans sv10
            have hlA : H10 l = some (.lst []) := sv10 _ _ (h0s.ne_none hl0) (((e57.trans e8).trans e9) _ _ h5)
            refine s_forR1 (n := (n1 : Int)) (ea_cons (ev_var rfl) ea_nil) (by omega) (fun i σ' H' => Sv sp H H' ∧ Spr H' sp (m + 5 + 10 * i) ∧ ∃ (F : Addr) (xs : List V) (fs : List (Nat × Nat)) (a6 a7 : Option V), H' F = some (.lst xs) ∧ TupsAt (fs.map pv2) xs H' ∧ H F = none ∧ xs.length ≤ 10 * i ∧ (∀ p ∈ fs, p.1 < p.2 ∧ p.2 < i) ∧ σ' = [some (.ref sp), some (.int 7), some (.int 10), some (.int (n1 : Int)), some (.int (kd : Int)), some (.ref F), a6, a7, some (.int (2 + 2 * (r10 : Int))), none, none, none, none])
              (fun H11 e11 => ⟨sv0A.trans (Sv.of e11), (hs10.ex e11).le (by omega), l, [], [], _, _, e11 _ _ hlA, .nil, hl0, Nat.le_refl _, (fun _ h => nomatch h), rfl⟩) (fun y σ' H' hy ⟨sv, hs, F, xs, fs, a6, a7, hF, hT, hF0, hlx, hfs, hσ⟩ => ?_) fun σ' H' ⟨sv, hs, F, xs, fs, a6, a7, hF, hT, hF0, hlx, hfs, hσ⟩ => ⟨sv, hs.le (by omega), F, xs, fs, n1, a6, a7, _, hF, hT, h0s.ne_none hF0, ⟨hn11, hn12⟩, fun p hp => by have z := hfs p hp; omega, hσ⟩
            subst hσ
            refine r_asg (r_op (r_ev (ev_var (v := .ref F) rfl) fun H11 e11 => r_evA (ea_cons (ev_var rfl) ea_nil) fun H12 e12 => ⟨(y : Int), rfl, by omega, by omega, fun D2 hD2 => ?_⟩))
            have hs12 := (hs.ex e11).ex e12
            have sv12 := sv.trans (Sv.of (e11.trans e12))
            have hD0 : H D2 = none := sv12.fresh hs12 hD2
            have nFs := h0s.ne_none hF0
            have nFD : F ≠ D2 := fun z => by
              have q := (e11.trans e12) _ _ hF
              rw [z, hD2] at q
              cases q
            refine lc_range (lo := 0) (n := (y : Int).toNat) (fun i H' => Sv sp H H' ∧ Spr H' sp (m + 5 + 10 * y + i) ∧ ∃ (zs : List V) (ps : List (Nat × Nat)), H' D2 = some (.lst zs) ∧ TupsAt (ps.map pv2) zs H' ∧ zs.length ≤ i ∧ (∀ p ∈ ps, p.1 < p.2 ∧ p.2 < y + 1) ∧ H' F = some (.lst xs) ∧ TupsAt (fs.map pv2) xs H')
              ⟨sv12.trans (Sv.of (Ex.new hD2)), hs12.ex (Ex.new hD2), [], [], upd_same, .nil, Nat.le_refl _, (fun _ h => nomatch h), (Ex.new hD2) _ _ ((e11.trans e12) _ _ hF), (hT.ex (e11.trans e12)).ex (Ex.new hD2)⟩ (fun x H' hx ⟨sv, hs, zs, ps, hD, hTz, hlz, hps, hF, hT⟩ => ?_) fun H' ⟨sv, hs, zs, ps, hD, hTz, hlz, hps, hF, hT⟩ => ?_
            · refine ⟨rfl, r_test2 (r_op (r_sip (t := 2 + 2 * (r10 : Int)) (ev_var rfl) (ev_var rfl) hs (by omega) (by omega) (by omega) fun H14 r14 sv14 hs14 hr14 => ⟨rfl, _, rfl, ite_by (fun _ => ?_) fun _ => ?_⟩))⟩
              · rw [e00 x]
                have hD14 := sv14 _ _ (h0s.ne_none hD0) hD
                refine (eu_tup (vs := pv2 (x, y)) (ea_cons (ev_var rfl) (ea_cons (ev_var rfl) ea_nil)) (show 2 ≤ 100000 by decide) : EvU _ _ H14 _) H14 (Ex.refl H14) _ fun p H15 hp e15 h15 => ⟨zs, e15 _ _ hD14, sz_lt (by omega), ((sv.trans sv14).trans (Sv.of e15)).mut hD0, (hs14.ex e15).set (h0s.ne_none hD0), zs ++ [.ref p], ps ++ [(x, y)], upd_same, ?_, by rw [List.length_append]; show zs.length + 1 ≤ x + 1; omega, fun q hq => ?_, ?_, ?_⟩
                · have hD15 := e15 _ _ hD14
                  have tup_l : ∀ t c, H15 t = some (.tup c) → (upd H15 D2 (.lst (zs ++ [V.ref p]))) t = some (.tup c) := fun t c h => by
                    rw [upd_ne (fun z => by rw [z, hD15] at h; cases h)]
                    exact h
                  rw [List.map_append]
                  exact tups_app (Paired.mapP hTz fun c v ⟨t, a, b⟩ => ⟨t, a, tup_l t c (e15 _ _ (sv14.tup hs b))⟩) (.cons ⟨p, rfl, tup_l p _ h15⟩ .nil)
                · rcases List.mem_append.mp hq with hq | hq
                  · exact hps q hq
                  · rw [List.mem_singleton.mp hq]
                    show x < y ∧ y < y + 1
                    omega
                · rw [upd_ne nFD]
                  exact e15 _ _ (sv14 _ _ nFs hF)
                · have hD15 := e15 _ _ hD14
                  have tup_l : ∀ t c, H15 t = some (.tup c) → (upd H15 D2 (.lst (zs ++ [V.ref p]))) t = some (.tup c) := fun t c h => by
                    rw [upd_ne (fun z => by rw [z, hD15] at h; cases h)]
                    exact h
                  exact Paired.mapP hT fun c v ⟨t, a, b⟩ => ⟨t, a, tup_l t c (e15 _ _ (sv14.tup hs b))⟩
              · exact ⟨sv.trans sv14, hs14, zs, ps, sv14 _ _ (h0s.ne_none hD0) hD, Paired.mapP hTz fun c v ⟨t, a, b⟩ => ⟨t, a, sv14.tup hs b⟩, by omega, hps, sv14 _ _ nFs hF, Paired.mapP hT fun c v ⟨t, a, b⟩ => ⟨t, a, sv14.tup hs b⟩⟩
            · have hyy : (y : Int).toNat = y := by omega
              rw [hyy] at hs hlz
              refine ⟨F, D2, xs, zs, rfl, rfl, hF, hD, sz_of (by omega), fun r hr => ⟨sv.trans (Sv.of (Ex.new hr)), (hs.ex (Ex.new hr)).le (by omega), r, xs ++ zs, fs ++ ps, _, _, upd_same, by rw [List.map_append]; exact tups_app (hT.ex (Ex.new hr)) (hTz.ex (Ex.new hr)), sv.fresh hs hr, by rw [List.length_append]; omega, fun q hq => ?_, rfl⟩⟩
              rcases List.mem_append.mp hq with hq | hq
              · have := hfs q hq
                omega
              · exact hps q hq
      subst hσ
      obtain ⟨mm, hmm⟩ : ∃ mm, mm = m + 200 := ⟨_, rfl⟩
      rw [← hmm] at hs
      have hFk : ∀ H4, Sv sp H' H4 → Spr H4 sp (mm + n + n) → H4 F = some (.lst xs) := fun H4 sv _ => sv _ _ nF hF
      have hTk : ∀ H4, Sv sp H' H4 → Spr H4 sp (mm + n + n) → TupsAt (fs.map pv2) xs H4 := fun H4 sv _ => Paired.mapP hT fun c v ⟨t, a, b⟩ => ⟨t, a, sv.tup hs b⟩
      -- the row, the sides, the lines
      have hn1 : 1 ≤ n := by omega
      refine r_seqA (r_call (r_evA (ea_cons (ev_var rfl) (ea_cons (ev_var rfl) ea_nil)) fun H2 e2 => ⟨sp, mm, n, rfl, hs.ex e2, by omega, by omega, fun R l H3 sv3 hs3 hR hp => ?_⟩))
      refine r_seqA (r_sides (m := mm + n) (by omega) (by omega) hs3 (ea_cons (ev_var rfl) ea_nil) (fun _ => rfl) (fun _ => rfl) fun S s H4 sv4 hs4 hS0 hS hs1 => ?_)
      have gp := plain_good (sg := 1) hn1 (by omega) (.inl rfl) hs1
      have e00 : ∀ i : Nat, (0 : Int) + (i : Int) = (i : Int) := fun i => Int.zero_add _
      refine r_seqA (er_lc .lst (plainW 1 s) (.inr rfl) (n := (n : Int).toNat) walk_range (ei_range1 (n := (n : Int)) (ea_cons (ev_var rfl) ea_nil) (by omega)) (by omega) (fun _ _ _ z => z) (fun H5 e5 x v H6 H7 hx e6 hv => ?_) H4 (Ex.refl H4) _ fun L rs H5 hL0 hrs0 e5 hL hrows => ?_)
      · obtain ⟨rfl, hv⟩ := hv
        have hv : v = .int ((0 : Int) + (x : Int)) := hv
        subst hv
        rw [e00 x]
        have hx' : x < n := by omega
        refine ⟨Ex.refl _, turn_name (fun _ => rfl) et_yes fun _ => ep_LF (el_is (el_lcR1 (n := (n : Int)) (fun _ => true) (fun y => V.int (plainW 1 s x y)) (ea_cons (ev_var rfl) ea_nil) (by omega) (fun _ => rfl) (fun _ _ _ _ => et_yes) fun y H8 e8 hy _ => ?_) (given_all _ _)) fun r H9 hr e9 h9 => ⟨r, rfl, fresh_back e6 hr, h9⟩⟩
        have hy' : y < n := by omega
        have hS8 := sq_of (K := K) ((e5.trans (e6.trans e8)) _ _ hS)
        refine ev_is (ev_op (ev_op (ev_op (ev_var rfl) (ev_var rfl) (rv_ixL hS8 (atI_nat (rowAt hx')))) (ev_op (ev_var rfl) (ev_var rfl) (rv_ixL hS8 (atI_nat (rowAt hy')))) (rv_I (cm_l (by rcases hs1 x hx' with z | z <;> rw [z] <;> decide)))) (ev_intB (b := decide (x ≠ y)) (ev_is (ev_op (x := .int (x : Int)) (y := .int (y : Int)) (ev_var rfl) (ev_var rfl) (rv_ne rfl)) (by by_cases h : x = y <;> simp [h]; omega))) (rv_I (cm_r (by split <;> decide)))) ?_
        unfold plainW
        by_cases h : x = y
        · subst h; simp
        · rw [if_neg h, if_pos (decide_eq_true h), Int.mul_one, Int.one_mul]
      · have hrows : RowsAt .lst H5 rs n (plainW 1 s) := hrows
        have hnd := rows_nodup (fun a b e => HO.lst.inj e) gp hrows
        have sv14 := (Sv.of e2).trans (sv3.trans sv4)
        have e5s := Sv.of (sp := sp) e5
        have sv05 : Sv sp H H5 := (sv0.trans sv14).trans e5s
        have hF5 := e5 _ _ (hFk _ (sv14) hs4)
        have hT5 := (hTk _ sv14 hs4).ex e5
        refine q_flips (H0 := H) (m' := m) (fs := fs) ⟨hL, hrows, hnd, hn1⟩ hfs hF5 hT5 (e5 _ _ (sv4.tup hs3 hR)) hp (fun r hr => (sv0.trans sv14).fresh hs4 (hrs0 r hr)) h0s sv05 (hs4.ex e5) ⟨_, _, rfl⟩ (fun _ _ _ _ => rfl) rfl (fun _ _ => rfl) (fun _ _ => rfl) (fun _ _ => rfl) (fun _ _ => rfl) fun a b H6 sv6 hs6 hl6 => ?_
        exact s_retW (ew_lines hl6 (by omega) rfl (fun _ => rfl) (fun _ => rfl)) fun p H7 e7 hw => (by
          obtain ⟨r1, r2, _, _⟩ := row_facts hp
          have q := flips_good r1 r2 fs _ gp hfs
          exact k p n _ H7 (sv6.trans (Sv.of e7)) ((hs6.ex e7).le (by omega)) hw q)
end
end Sw

set_option Elab.async false
set_option linter.all false
set_option maxRecDepth 100000
set_option maxHeartbeats 4000000
/-! All that is asked of one web. -/
namespace Sw
open PySem PySem.Spec PyProof.Rows L2 Evl SW
theorem kk_le {n : Nat} {u : Wf} {x y : Nat} : kk n u x y ≤ n := by
  unfold kk oth
  have h1 := List.length_filter_le (fun z => bad u x y z) ((List.range n).filter fun z => decide (z ≠ x) && decide (z ≠ y))
  have h2 := List.length_filter_le (fun z => decide (z ≠ x) && decide (z ≠ y)) (List.range n)
  rw [List.length_range] at h2
  omega
theorem cnts_le {n : Nat} {u : Wf} {k : Nat} (h : k ∈ cnts n u) : k ≤ n := by
  unfold cnts at h
  obtain ⟨p, _, rfl⟩ := List.mem_map.mp h
  exact kk_le
theorem dok_cnts {n : Nat} {u : Wf} (hn : n ≤ 10) : Dok (.tuple (natD (cnts n u))) := dok_nats _ (fun k hk => by have := cnts_le hk; omega) (by unfold cnts; rw [List.length_map]; have := prs_len n hn; omega)
theorem dp_cnts {K : PySem.W.Frag} {H : Hp} {q : Addr} {n : Nat} {u : Wf} (h : H q = some (.tup ((cI n u).map V.int))) : Dp K H (.ref q) (.tuple (natD (cnts n u))) := dp_nats _ (by rw [← cI_V]; exact st_of h)
theorem cI_sum (n : Nat) (u : Wf) : (cI n u).sum = (((cnts n u).sum : Nat) : Int) := by
  unfold cI
  generalize cnts n u = l
  induction l with
  | nil => rfl
  | cons a l ih =>
    rw [List.map_cons, List.sum_cons, List.sum_cons, ih]
    show (a : Int) + _ = _
    omega
theorem seenI_all {n : Nat} {u : Wf} (g : Good n u) (hn : 2 ≤ n) {m : Nat} (sz : Sz (seenI n u) m) : m = 1 ↔ AllEq (cnts n u) := by
  rw [sz.2, ← allEq_seen g]
  unfold seenI
  constructor
  · rintro ⟨_, h⟩ a ha b hb
    have z := h a (List.mem_map.mpr ⟨a, ha, rfl⟩) b (List.mem_map.mpr ⟨b, hb, rfl⟩)
    exact Int.ofNat.inj z
  · intro h
    refine ⟨fun z => seen_ne hn (List.map_eq_nil_iff.mp z), fun a ha b hb => ?_⟩
    obtain ⟨a', ha', rfl⟩ := List.mem_map.mp ha
    obtain ⟨b', hb', rfl⟩ := List.mem_map.mp hb
    rw [h a' ha' b' hb']
section
variable {K : PySem.W.Frag} {σ : L2.St} {H : Hp} {ta tb : TE} {d : PyData}
theorem ev_alike {p q : Addr} (h1 : Ev ta σ H (.ref p)) (h2 : Ev tb σ H (.ref q)) (hd : Dok d) (d1 : ∀ H1, Ex H H1 → Dp K H1 (.ref p) d) (d2 : ∀ H1, Ex H H1 → Dp K H1 (.ref q) d) : Ev (tCall (spAlike K) [] E0 (tCons ta (tCons tb tNil))) σ H (.bl true) := fun H1 e Q k =>
  r_call (r_evA (ea_cons (h1.mono e) (ea_cons (h2.mono e) ea_nil)) fun H2 e2 => ⟨p, q, d, rfl, hd, d1 H2 (e.trans e2), d2 H2 (e.trans e2), k H2 e2⟩)
theorem ev_alikeL {xs ys : List V} (h1 : EvL ta σ H xs) (h2 : EvL tb σ H ys) (hd : Dok d) (d1 : ∀ p H1, Ex H H1 → H1 p = some (.lst xs) → Dp K H1 (.ref p) d) (d2 : ∀ p H1, Ex H H1 → H1 p = some (.lst ys) → Dp K H1 (.ref p) d) : Ev (tCall (spAlike K) [] E0 (tCons ta (tCons tb tNil))) σ H (.bl true) := fun H1 e Q k =>
  r_call (r_cons (h1 H1 e _ fun p H2 _ e2 hp => r_cons (h2 H2 (e.trans e2) _ fun q H3 _ e3 hq => r_nil ⟨p, q, d, rfl, hd, d1 p H3 ((e.trans e2).trans e3) (e3 _ _ hp), d2 q H3 ((e.trans e2).trans e3) hq, k H3 (e2.trans e3)⟩)))
theorem ev_alikeU {xs : List V} {q : Addr} (h1 : ∀ H1, Ex H H1 → ∀ Q : VK, (∀ p H2, Ex H1 H2 → H2 p = some (.tup xs) → Q (.ref p) H2) → ta σ H1 Q) (h2 : Ev tb σ H (.ref q)) (hd : Dok d) (d1 : ∀ p H1, Ex H H1 → H1 p = some (.tup xs) → Dp K H1 (.ref p) d) (d2 : ∀ H1, Ex H H1 → Dp K H1 (.ref q) d) : Ev (tCall (spAlike K) [] E0 (tCons ta (tCons tb tNil))) σ H (.bl true) := fun H1 e Q k =>
  r_call (r_cons (h1 H1 e _ fun p H2 e2 hp => r_cons (h2 H2 (e.trans e2) _ fun H3 e3 => r_nil ⟨p, q, d, rfl, hd, d1 p H3 ((e.trans e2).trans e3) (e3 _ _ hp), d2 H3 ((e.trans e2).trans e3), k H3 (e2.trans e3)⟩)))
end
section
variable {P : Program} {w : World} {K : PySem.W.Frag} {mg : Str → Option Value} {base : Heap}
def spRight : Sp := fun vs H Q _ => ∃ (p : Addr) (n : Nat) (u : Wf), vs = [.ref p] ∧ WebAt H p n u ∧ Good n u ∧ RetV (.bl true) H Q
abbrev n_law_right : List Str := ["_law_web", "_law_counts_here", "_law_told", "_law_due"]
theorem sc_law_right : FnScope n_law_right ["_law_web"] (defScope q_law_right) := ⟨rfl, rfl, rfl, by decide +kernel, rfl, by decide +kernel, by decide +kernel⟩
theorem ok_law_right (T : Txt K mg) (D : DefAt K mg "_law_right" q_law_right) (c_law_counts : Fc P w K mg base 2 "_law_counts" ["_law_web"] spLawCounts) (c_bad_at_ties : Fc P w K mg base 5 "bad_at_ties" ["web"] spTies)
    (c_law_alike : Fcg P w K mg base 2 "_law_alike" ["_law_found", "_law_due"] (spAlike K)) (c_law_products_right : Fc P w K mg base 1 "_law_products_right" ["_law_web", "_law_counts_here"] spProd) (c_is_steady : Fc P w K mg base 5 "is_steady" ["web"] spSteady)
    (c_law_seen_foes : Fc P w K mg base 6 "_law_seen_foes" ["_law_web"] spSeenFoes) (c_bad_threes : Fc P w K mg base 5 "bad_threes" ["web"] spBads) : Fcg P w K mg base 7 "_law_right" ["_law_web"] spRight := by
  refine mk_fg D sc_law_right (fun _ _ _ _ _ _ us hl => match us, hl with | [_], _ => rfl) (fun vs H Q E h => ?_) (fun f cdv A outer s H vs Q E hr hgd h => ?_)
  · obtain ⟨p, n, u, rfl, _⟩ := h
    rfl
  · obtain ⟨p, n, u, rfl, hw, g, k⟩ := h
    have nd := sc_law_right.nd
    refine ⟨_, (pss_cons (ps_set (i := 1) nd rfl (by first | exact Or.inl rfl | exact Or.inr rfl) (pe_f c_law_counts hr (by decide) rfl (pa_cons (pv 0) pa_nil)))
        (pss_cons (ps_set (i := 2) nd rfl (by first | exact Or.inl rfl | exact Or.inr rfl) (pe_f c_bad_at_ties hr (by decide) rfl (pa_cons (pv 0) pa_nil)))
        (pss_cons (ps_if (PW.pt (pw_or (pt_not (pt_val (pe_fg c_law_alike hr hgd (by decide) rfl (pa_cons (pv 2) (pa_cons (pv 1) pa_nil))))) (pw_or1 (pt_not (pt_val (pe_f c_law_products_right hr (by decide) rfl (pa_cons (pv 0) (pa_cons (pv 1) pa_nil))))))))
        (pss_one (ps_ret pe_bl)) pss_nil)
        (pss_cons (ps_set (i := 3) nd rfl (by first | exact Or.inl rfl | exact Or.inr rfl) (pe_cmpR op_lt (pe_callB call_lenS (by rfl) T.len PySem.boot_len (pa_cons (pe_callTy (setQ (K := K) rfl) (by rfl) T.set (by decide +kernel) (pa_cons (pv 1) pa_nil)) pa_nil)) pe_int (nomark _)))
        (pss_cons (ps_if (pt_not (pt_val (pe_fg c_law_alike hr hgd (by decide) rfl (pa_cons (pe_lst (pa_cons (pe_f c_is_steady hr (by decide) rfl (pa_cons (pv 0) pa_nil)) (pa_cons (pe_fk c_is_steady hr (by decide) rfl (pk_cons (pv 0) pk_nil)) pa_nil))) (pa_cons (pe_lst (pa_cons (pv 3) (pa_cons (pv 3) pa_nil))) pa_nil)))))
        (pss_one (ps_ret pe_bl)) pss_nil)
        (pss_cons (ps_if (pt_not (pt_val (pe_fg c_law_alike hr hgd (by decide) rfl (pa_cons (pe_fk c_bad_at_ties hr (by decide) rfl (pk_cons (pv 0) pk_nil)) (pa_cons (pv 1) pa_nil)))))
        (pss_one (ps_ret pe_bl)) pss_nil)
        (pss_cons (ps_if (PW.pt (pw_and (pt_cmpR op_gt (pe_callB (lenQ (K := K)) (by rfl) T.len PySem.boot_len (pa_cons (pv 0) pa_nil)) pe_int (nomark _)) (pw_and1 (pt_cmpR op_ne (pv 3) (pe_cmpR op_eq (pe_callB call_lenS (by rfl) T.len PySem.boot_len (pa_cons (pe_callTy (setQ (K := K) rfl) (by rfl) T.set (by decide +kernel) (pa_cons (pe_f c_law_seen_foes hr (by decide) rfl (pa_cons (pv 0) pa_nil)) pa_nil)) pa_nil)) pe_int (nomark _)) (nomark _)))))
        (pss_one (ps_ret pe_bl)) pss_nil)
        (pss_cons (ps_if (PW.pt (pw_and (pt_cmpR op_gt (pe_callB (lenQ (K := K)) (by rfl) T.len PySem.boot_len (pa_cons (pv 0) pa_nil)) pe_int (nomark _)) (pw_and (pt_val (pv 3)) (pw_and (pt_cmpR (niS (K := K)) (pe_ix (ixT (K := K)) (pv 1) pe_int (fun _ _ => rfl)) (pe_lst (pa_cons pe_int (pa_cons (pe_op op_sub (pe_callB (lenQ (K := K)) (by rfl) T.len PySem.boot_len (pa_cons (pv 0) pa_nil)) pe_int) pa_nil))) (by with_unfolding_all rfl)) (pw_and1 (pt_cmpR op_ne (pe_op op_mul (pe_op op_fdivN (pe_callB (lenQ (K := K)) (by rfl) T.len PySem.boot_len (pa_cons (pv 0) pa_nil)) pe_int) pe_int) (pe_callB (lenQ (K := K)) (by rfl) T.len PySem.boot_len (pa_cons (pv 0) pa_nil)) (nomark _)))))))
        (pss_one (ps_ret pe_bl)) pss_nil)
        (pss_one (ps_ret (pe_cmpR op_eq (pe_callB (sumTQ (K := K) rfl) (by rfl) T.sum (by decide +kernel) (pa_cons (pv 1) pa_nil)) (pe_op op_mul pe_int (pe_callB (lenQ (K := K)) (by rfl) T.len PySem.boot_len (pa_cons (pe_f c_bad_threes hr (by decide) rfl (pa_cons (pv 0) pa_nil)) pa_nil))) (nomark _)))))))))))), ?_⟩
    have hn2 := g.hi
    refine r_seqA (r_call (r_evA (ea_cons (ev_var rfl) ea_nil) fun H1 e1 => ⟨p, n, u, rfl, hw.ex e1, g, fun q H2 e2 h2 => ?_⟩))
    have e02 := e1.trans e2
    refine r_seqA (r_call (r_evA (ea_cons (ev_var rfl) ea_nil) fun H3 e3 => ⟨p, n, u, rfl, hw.ex (e02.trans e3), g, fun t H4 e4 h4 => ?_⟩))
    have e24 := e3.trans e4
    have h24 := e24 _ _ h2
    have e04 := e02.trans e24
    have hd := dok_cnts (u := u) hn2
    refine q_when (b := false) (et_or (a := false) (b := false) (et_not (a := true) (et_B (ev_alike (ev_var rfl) (ev_var rfl) hd (fun H1 e => dp_cnts (e _ _ h4)) (fun H1 e => dp_cnts (e _ _ h24))))) fun _ => et_not (a := true) (et_B (ev_call (ea_cons (ev_var rfl) (ea_cons (ev_var rfl) ea_nil)) fun H1 e Q q' E => ⟨p, q, n, u, rfl, hw.ex (e04.trans e), g, e _ _ h24, q'⟩))) (fun z => nomatch z) fun _ H5 e5 => ?_
    have h25 := e5 _ _ h24
    have e05 := e04.trans e5
    refine r_seqA (r_op (r_cb (r_cons (r_cb (r_cons (r_ev (ev_var (v := .ref q) rfl) fun H6 e6 => r_nil ⟨q, cI n u, rfl, .inr (st_of (e6 _ _ h25)), by have := cI_len n u hn2; omega, fun r m hr sz => r_nil ⟨r, _, m, rfl, upd_same, ⟨_, _, rfl, rfl, ?_⟩⟩⟩))))))
    have hb : decide ((m : Int) < 2) = true ↔ AllEq (cnts n u) := by
      rw [decide_eq_true_eq, ← allI_iff, ← sz.1]
      omega
    dsimp only
    generalize decide ((m : Int) < 2) = b at hb
    have e57 : Ex H5 (upd H6 r (.set (mem? (cI n u)) m)) := e6.trans (Ex.new hr)
    generalize upd H6 r (.set (mem? (cI n u)) m) = H7 at e57
    have h27 := e57 _ _ h25
    have e07 := e05.trans e57
    have eqb : ∀ b' : Bool, (b' = true ↔ AllEq (cnts n u)) → b' = b := fun b' h => by
      rw [Bool.eq_iff_iff, h, hb]
    refine q_when (b := false) (et_not (a := true) (et_B (ev_alikeL (d := .list [.bool b, .bool b]) (xs := [.bl b, .bl b]) (ys := [.bl b, .bl b])
      (el_lst (ea_cons (ev_call (ea_cons (ev_var rfl) ea_nil) fun H1 e Q q' E => ⟨p, n, u, rfl, hw.ex (e07.trans e), g, fun b' h => by rw [eqb b' h]; exact q'⟩) (ea_cons (ev_callW (ea_cons (ev_var rfl) ea_nil) rfl fun H1 e Q q' E => ⟨p, n, u, rfl, hw.ex (e07.trans e), g, fun b' h => by rw [eqb b' h]; exact q'⟩) ea_nil)) (show 2 ≤ 100000 by decide))
      (el_lst (ea_cons (ev_var rfl) (ea_cons (ev_var rfl) ea_nil)) (show 2 ≤ 100000 by decide)) (dok_bools b b) (fun p H1 _ hp => .lst (sq_of hp) (.cons (.bl b) (.cons (.bl b) .nil))) (fun p H1 _ hp => .lst (sq_of hp) (.cons (.bl b) (.cons (.bl b) .nil)))))) (fun z => nomatch z) fun _ H8 e8 => ?_
    have h28 := e8 _ _ h27
    have e08 := e07.trans e8
    refine q_when (b := false) (et_not (a := true) (et_B (ev_alikeU (xs := (cI n u).map V.int) (fun H1 e Q k => r_evA (ea_cons (ev_var (v := .ref p) rfl) ea_nil) fun H2 e2 => ⟨rfl, p, n, u, rfl, hw.ex ((e08.trans e).trans e2), g, fun t H3 e3 h3 => k t H3 (e2.trans e3) h3⟩) (ev_var (v := .ref q) rfl) hd (fun p H1 _ hp => dp_cnts hp) (fun H1 e => dp_cnts (e _ _ h28))))) (fun z => nomatch z) fun _ H9 e9 => ?_
    have h29 := e9 _ _ h28
    have e09 := e08.trans e9
    have hw9 := hw.ex e09
    refine q_when (b := false) (et_is (et_and (a := decide ((1 : Int) < (n : Int))) (b := false) (et_test (ev_op (ev_lenW hw9 (ev_var rfl)) ev_c rv_I0)) fun h1 => et_is (et_test (ev_op (x := .bl b) (y := .bl b) (ev_var rfl) (fun H1 e Q k => ?_) (rv_ne rfl))) (by simp)) (Bool.and_false _)) (fun z => nomatch z) fun _ H10 e10 => ?_
    · have hn : 2 ≤ n := by have := of_decide_eq_true h1; omega
      refine r_op (r_cb (r_cons (r_cb (r_cons (r_call (r_evA (ea_cons (ev_var rfl) ea_nil) fun H2 e2 => ⟨p, n, u, rfl, hw9.ex (e.trans e2), g, fun t H3 e3 h3 => r_nil ⟨t, seenI n u, rfl, .inl (sq_of h3), ?_, fun r m hr sz => r_nil ⟨r, _, m, rfl, upd_same, ⟨rfl, ?_⟩⟩⟩⟩))))))
      · have z := seenV_len n u n
        have z2 : n * n ≤ 10 * 10 := Nat.mul_le_mul hn2 hn2
        rw [seenV_all, List.length_map] at z
        omega
      · have z := seenI_all g hn sz
        have eb : decide (V.int (m : Int) = V.int 1) = b := eqb _ (by rw [decide_eq_true_eq, V.int.injEq, ← z]; omega)
        rw [eb]
        exact k _ ((e2.trans e3).trans (Ex.new hr))
    have hA := e10 _ _ h29
    have e0A := e09.trans e10
    have hwA := hw.ex e0A
    refine q_when (b := false) (et_is (et_and (a := decide ((1 : Int) < (n : Int))) (b := false) (et_test (ev_op (ev_lenW hwA (ev_var rfl)) ev_c rv_I0)) fun h1 => et_is (et_and (a := b) (b := false) (et_B (ev_var rfl)) fun hbt => et_is (et_and (a := !inV (nV (kk n u 0 1)) [.int 0, .int ((n : Int) - 2)]) (b := false) ?_ fun hc => ?_) (Bool.and_false _)) (Bool.and_false _)) (Bool.and_false _)) (fun z => nomatch z) fun _ H11 e11 => ?_
    · have hn : 2 ≤ n := by have := of_decide_eq_true h1; omega
      refine et_test (ev_opL (x := nV (kk n u 0 1)) (ev_op (ev_var rfl) ev_c (rv_ixT (st_of hA) ?_)) (el_lst (vs := [.int 0, .int ((n : Int) - 2)]) (ea_cons ev_c (ea_cons (ev_op (ev_lenW hwA (ev_var rfl)) ev_c rv_I0) ea_nil)) (show 2 ≤ 100000 by decide)) fun r H1 h1 _ => rv_niL (sq_of h1) rfl rfl)
      obtain ⟨r, hr⟩ := cnts_head (w := u) hn
      rw [cI_V, hr]
      show atI (nV (kk n u 0 1) :: r.map nV) ((0 : Nat) : Int) = some (nV (kk n u 0 1))
      exact atI_nat rfl
    · have hn : 2 ≤ n := by have := of_decide_eq_true h1; omega
      have hk : kk n u 0 1 ≠ 0 ∧ kk n u 0 1 ≠ n - 2 := by
        constructor
        · intro z
          rw [z] at hc
          exact nomatch hc
        · intro z
          have z2 : ((kk n u 0 1 : Nat) : Int) = (n : Int) - 2 := by omega
          unfold nV inV at hc
          rw [z2] at hc
          simp [eqV] at hc
      have hev := steady_even g hn (hb.mp hbt) hk.1 hk.2
      refine et_is (et_test (ev_op (x := .int ((n : Int).fdiv 2 * 2)) (y := .int (n : Int)) (ev_op (ev_op (ev_lenW hwA (ev_var rfl)) ev_c (rv_I ⟨by decide, by decide⟩)) ev_c (rv_I (.inr ⟨by decide, by decide⟩))) (ev_lenW hwA (ev_var rfl)) (rv_ne rfl))) ?_
      have z : (n : Int).fdiv 2 * 2 = (n : Int) := by
        have z := fdivN n 2
        show (n : Int).fdiv ((2 : Nat) : Int) * 2 = _
        rw [z]
        omega
      rw [z]
      simp
    have hB := e11 _ _ hA
    have e0B := e0A.trans e11
    refine r_ret (r_op (r_cb (r_cons (r_ev (ev_var (v := .ref q) rfl) fun H12 e12 => r_nil ⟨q, cI n u, rfl, st_of (e12 _ _ hB), r_op (r_ev ev_c fun H13 e13 => r_cb (r_cons (r_call (r_evA (ea_cons (ev_var rfl) ea_nil) fun H14 e14 => ⟨p, n, u, rfl, hw.ex (e0B.trans ((e12.trans e13).trans e14)), g, fun t xs H15 e15 h15 hlen => r_nil ⟨t, xs, rfl, .inr (st_of h15), 3, (xs.length : Int), rfl, rfl, .inl ⟨by decide, by decide⟩, ⟨rfl, ?_⟩⟩⟩))))⟩))))
    dsimp only
    have z : (cI n u).sum = 3 * (xs.length : Int) := by
      rw [cI_sum, sum_eq g, hlen]
      omega
    rw [z, decide_eq_true rfl]
    exact k _ (e0B.trans (((e12.trans e13).trans e14).trans e15))
end
end Sw

set_option Elab.async false
set_option linter.all false
set_option maxRecDepth 100000
set_option maxHeartbeats 4000000
/-! The law itself. -/
namespace Sw
open PySem PySem.Spec PyProof.Rows L2 Evl SW
/-- xs + zs, the left one only read -/
def rCatS (K : PySem.W.Frag) : R2 := fun x y H Q => ∃ l b xs zs, x = .ref l ∧ y = .ref b ∧ SqL K H l xs ∧ H b = some (.lst zs) ∧ xs.length + zs.length ≤ sizeLine ∧ ∀ p, H p = none → Q (.ref p) (upd H p (.lst (xs ++ zs)))
theorem op_catS {X : Cx} {K : PySem.W.Frag} (hK : X.K = K := by rfl) : OpR X (binaryOp .Add) (rCatS K) := fun pins s σ H x y v u Q I rx ry h => by
  subst hK
  obtain ⟨l, b, xs, zs, rfl, rfl, hL, hB, hz, q⟩ := h
  cases rx
  cases ry
  obtain ⟨its, r, ⟨⟨cls, dd, data, sl⟩, n, e1, hc, hd0, hd⟩, hl⟩ := I.list hL
  obtain ⟨z2, its2, n2, r2, hl2, e2⟩ := I.lstM hB
  simp only at hc hd0 hd
  subst hc hd0 hd
  have hr := r.length
  refine concat_meets ⟨_, e1, rfl⟩ ⟨_, e2, rfl⟩ noFill_list_add seq_list_add PySem.F.slot_list_add PySem.F.entry_list_add (PySem.F.args_list_add_2 _ _) (list_addW l b its.toArray its2.toArray n n2 none none sl #[] (by rw [List.size_toArray, List.size_toArray]; omega)) ⟨e1, e2, ?_⟩
  have ea : its.toArray ++ its2.toArray = (its ++ its2).toArray := by simp
  rw [ea]
  exact ⟨.ref _, _, I.lnew (t' := s.toks) (r.append r2) (by rw [List.length_append]; omega), rfl, q _ I.fresh⟩
section
variable {K : PySem.W.Frag} {σ : L2.St} {H : Hp} {te : TE} {tu tz : TS} {D : Ends}
theorem r_sl {r : V → Option Int → Option Int → Hp → VK → Prop} {tl th : TO} {Q : VK} (h : te σ H fun x H1 => tl σ H1 fun l H2 => th σ H2 fun u H3 => r x l u H3 Q) : L2.tSl r te tl th σ H Q := h
theorem r_notIf (h : te σ H fun x H1 => ∃ c, x = .bl c ∧ if (!c) = true then tu { D with nx := tz D } σ H1 else tz D σ H1) : tSeq (tIfS (tNot (tB te)) tu tNext) tz D σ H := h
theorem ite_nt {A B : Prop} (h : B) : if (!true) = true then A else B := by
  rw [if_neg (by decide)]
  exact h
theorem ew_var {p : Addr} {n : Nat} {u : Wf} (h : Ev te σ H (.ref p)) (hw : WebAt H p n u) : EvW te σ H n u := fun H1 e Q q => h H1 e _ fun H2 e2 => q p H2 e2 (hw.ex (e.trans e2))
theorem ev_right {n : Nat} {u : Wf} (h : EvW te σ H n u) (g : Good n u) : Ev (tCall spRight [] E0 (tCons te tNil)) σ H (.bl true) := fun H1 e Q q => r_call (r_cons (h H1 e _ fun p H2 e2 hw => r_nil ⟨p, n, u, rfl, hw, g, fun H3 e3 => q H3 (e2.trans e3)⟩))
theorem ev_steady {n : Nat} {u : Wf} {b : Bool} (h : EvW te σ H n u) (g : Good n u) (hb : b = true ↔ AllEq (cnts n u)) : Ev (tCall spSteady [] E0 (tCons te tNil)) σ H (.bl b) := fun H1 e Q q => r_call (r_cons (h H1 e _ fun p H2 e2 hw => r_nil ⟨p, n, u, rfl, hw, g, fun b' hb' H3 e3 => by
  have e : b' = b := by rw [Bool.eq_iff_iff, hb', hb]
  rw [e]
  exact q H3 (e2.trans e3)⟩))
theorem ew_lst {L : Addr} {rs : List Addr} {n : Nat} {u : Wf} (h : Ev te σ H (.ref L)) (hL : H L = some (.lst (rs.map V.ref))) (hr : RowsAt .tup H rs n u) : EvW (tCB (rTupQ K) (tCons te tNil)) σ H n u := fun H1 e Q q =>
  eu_tupL h (sq_of hL) H1 e _ fun p H2 _ e2 hp => q p H2 e2 (webAt_of ⟨hr.1, fun i r hi => e2 _ _ (e _ _ (hr.2 i r hi))⟩ hp)
end
theorem cut_ints {xs : List V} {hi : Option Int} (h : ∀ x ∈ xs, ∃ i : Int, x = .int i) : ∀ x ∈ cutV xs none hi, ∃ i : Int, x = .int i := fun x hx => by
  unfold cutV at hx
  exact h x (List.mem_of_mem_drop (List.mem_of_mem_take hx))
theorem known_one {n k : Nat} {u : Wf} (h2 : 2 ≤ n) (hk : ∀ x y, x < n → y < n → x ≠ y → kk n u x y = k) : cI n u ≠ [] ∧ AllI (cI n u) ∧ ∀ j, mem? (cI n u) j = true ↔ j = (k : Int) := by
  have all : ∀ z ∈ cnts n u, z = k := fun z hz => by
    unfold cnts at hz
    obtain ⟨p, hp, rfl⟩ := List.mem_map.mp hz
    have := mem_prs.mp hp
    exact hk _ _ (by omega) this.2 (by omega)
  have hne : cI n u ≠ [] := fun z => by
    obtain ⟨r, hr⟩ := cnts_head (w := u) h2
    unfold cI at z
    rw [hr] at z
    cases z
  have allI : ∀ z ∈ cI n u, z = (k : Int) := fun z hz => by
    obtain ⟨y, hy, rfl⟩ := List.mem_map.mp hz
    rw [all y hy]
    rfl
  refine ⟨hne, fun a ha b hb => by rw [allI a ha, allI b hb], fun j => ?_⟩
  unfold mem?
  rw [decide_eq_true_eq]
  constructor
  · exact allI j
  · rintro rfl
    cases hc : cI n u with
    | nil => exact absurd hc hne
    | cons a r => 
      have := allI a (by rw [hc]; exact List.mem_cons_self ..)
      rw [← this]
      exact List.mem_cons_self ..
section
variable {P : Program} {w : World} {K : PySem.W.Frag} {mg : Str → Option Value} {base : Heap}
def spLaw (K : PySem.W.Frag) : Sp := fun vs H Q _ => ∃ (a : Addr) (ns : List Int), vs = [.ref a] ∧ SqL K H a (ns.map V.int) ∧ ns.length ≤ 63 ∧ ∀ H', Q (.bl true) H'
abbrev n_law : List Str := ["_law_script", "_law_cell", "_law_spring_here", "_law_many", "_law_x", "_law_sides", "_law_sign", "_law_y", "_law_plain", "_law_kind", "_law_known_here", "_law_other"]
theorem sc_law : FnScope n_law ["_law_script"] (defScope q_law) := ⟨rfl, rfl, rfl, by decide +kernel, rfl, by decide +kernel, by decide +kernel⟩
theorem ok_law (T : Txt K mg) (D : DefAt K mg "law" q_law) (c_law_spring : Fc P w K mg base 1 "_law_spring" ["_law_cell"] spSpring) (c_law_right : Fcg P w K mg base 7 "_law_right" ["_law_web"] spRight)
    (c_law_all_tied : Fc P w K mg base 3 "_law_all_tied" ["_law_spring_here", "_law_small", "_law_great"] spTiedWeb) (c_law_sip : Fc P w K mg base 1 "_law_sip" ["_law_spring_here", "_law_upto"] spSip)
    (c_is_steady : Fc P w K mg base 5 "is_steady" ["web"] spSteady) (c_law_known : Fc P w K mg base 3 "_law_known" ["_law_spring_here", "_law_kind"] spKnown) (c_bad_at_ties : Fc P w K mg base 5 "bad_at_ties" ["web"] spTies)
    (c_law_changed : Fc P w K mg base 2 "_law_changed" ["_law_spring_here", "_law_web"] spChanged) : Fcg P w K mg base 8 "law" ["_law_script"] (spLaw K) := by
  refine mk_fg D sc_law (fun _ _ _ _ _ _ us hl => match us, hl with | [_], _ => rfl) (fun vs H Q E h => ?_) (fun f cdv A outer s H vs Q E hr hgd h => ?_)
  · obtain ⟨a, ns, rfl, _⟩ := h
    rfl
  · obtain ⟨a, ns, rfl, hS, hl63, k⟩ := h
    have nd := sc_law.nd
    refine ⟨_, (pss_cons (ps_for PassesOwn.never rfl (piL (K := K) (pe_slice sl_list (pe_op (op_catS (K := K)) (pv 0) (pe_lst (pa_cons pe_int pa_nil))) po_none (po_some pe_int))) (pg_name (i := 1) nd rfl (by first | exact Or.inl rfl | exact Or.inr rfl))
        (pss_cons (ps_set (i := 2) nd rfl (by first | exact Or.inl rfl | exact Or.inr rfl) (pe_f c_law_spring hr (by decide) rfl (pa_cons (pv 1) pa_nil)))
        (pss_cons (ps_if (pt_not (pt_val (pe_fg c_law_right hr hgd (by decide) rfl (pa_cons (pe_f c_law_all_tied hr (by decide) rfl (pa_cons (pv 2) (pa_cons pe_int (pa_cons pe_int pa_nil)))) pa_nil))))
        (pss_one (ps_ret pe_bl)) pss_nil)
        (pss_cons (ps_set (i := 3) nd rfl (by first | exact Or.inl rfl | exact Or.inr rfl) (pe_op op_add pe_int (pe_f c_law_sip hr (by decide) rfl (pa_cons (pv 2) (pa_cons pe_int pa_nil)))))
        (pss_cons (ps_set (i := 5) nd rfl (by first | exact Or.inl rfl | exact Or.inr rfl) (pe_lc (own := [("_law_x", 4)]) rfl nd (pi_range1 (by rfl) T.range (pa_cons (pv 3) pa_nil)) (blkOk_by (own := [("_law_x", 4)]) (N := n_law) (sc := defScope q_law) (by decide +kernel)) (fun _ _ _ _ _ => (pg_name (i := 4) nd rfl (by first | exact Or.inl rfl | exact Or.inr rfl))) (fun _ _ _ _ _ => pts_nil) (fun _ _ _ _ _ => (pe_op op_sub pe_int (pe_op op_mul pe_int (pe_f c_law_sip hr (by decide) rfl (pa_cons (pv 2) (pa_cons pe_int pa_nil))))))))
        (pss_cons (ps_for PassesOwn.never rfl (piL (K := K) (pe_lst (pa_cons pe_int (pa_cons (pe_un un_neg pe_int) pa_nil)))) (pg_name (i := 6) nd rfl (by first | exact Or.inl rfl | exact Or.inr rfl))
        (pss_cons (ps_setLc (i := 8) (own := [("_law_x", 4)]) rfl nd rfl rfl (sw_true rfl rfl rfl (by decide +kernel)) (pi_range1 (by rfl) T.range (pa_cons (pv 3) pa_nil)) (blkOk_by (own := [("_law_x", 4)]) (N := n_law) (sc := defScope q_law) (by decide +kernel)) (fun _ _ _ _ _ => (pg_name (i := 4) nd rfl (by first | exact Or.inl rfl | exact Or.inr rfl))) (fun _ _ _ _ _ => pts_nil) (fun _ _ _ _ _ => (pe_callTy (tupQ (K := K)) (by rfl) T.tuple (by decide +kernel) (pa_cons (pe_lc (own := [("_law_y", 7)]) rfl nd (pi_range1 (by rfl) T.range (pa_cons (pv 3) pa_nil)) (blkOk_by (own := [("_law_y", 7)]) (N := n_law) (sc := relS _ (defScope q_law)) (by decide +kernel)) (fun _ _ _ _ _ => (pg_name (i := 7) nd rfl (by first | exact Or.inl rfl | exact Or.inr rfl))) (fun _ _ _ _ _ => pts_nil) (fun _ _ _ _ _ => (pe_op op_mul (pe_op op_mul (pe_op op_mul (pv 6) (pe_ix (ixL (K := K)) (pv 5) (pv 4) (fun _ _ => rfl))) (pe_ix (ixL (K := K)) (pv 5) (pv 7) (fun _ _ => rfl))) (pe_callTy call_int1 (by rfl) T.int (by decide +kernel) (pa_cons (pe_cmpR op_ne (pv 4) (pv 7) (nomark _)) pa_nil))))) pa_nil))))
        (pss_one (ps_if (PW.pt (pw_or (pt_not (pt_val (pe_fg c_law_right hr hgd (by decide) rfl (pa_cons (pe_callTy (tupQ (K := K)) (by rfl) T.tuple (by decide +kernel) (pa_cons (pv 8) pa_nil)) pa_nil)))) (pw_or1 (pt_not (pt_val (pe_f c_is_steady hr (by decide) rfl (pa_cons (pe_callTy (tupQ (K := K)) (by rfl) T.tuple (by decide +kernel) (pa_cons (pv 8) pa_nil)) pa_nil)))))))
        (pss_one (ps_ret pe_bl)) pss_nil))))
        (pss_cons (ps_set (i := 9) nd rfl (by first | exact Or.inl rfl | exact Or.inr rfl) (pe_callTy call_int1 (by rfl) T.int (by decide +kernel) (pa_cons (pe_cmpR op_eq (pe_f c_law_sip hr (by decide) rfl (pa_cons (pv 2) (pa_cons pe_int pa_nil))) pe_int (nomark _)) pa_nil)))
        (pss_cons (ps_set (i := 10) nd rfl (by first | exact Or.inl rfl | exact Or.inr rfl) (pe_f c_law_known hr (by decide) rfl (pa_cons (pv 2) (pa_cons (pv 9) pa_nil))))
        (pss_cons (ps_if (PW.pt (pw_or (pt_not (pt_val (pe_fg c_law_right hr hgd (by decide) rfl (pa_cons (pv 10) pa_nil)))) (pw_or (pt_cmpR (op_neS hr.units) (pe_callTy (setQ (K := K) rfl) (by rfl) T.set (by decide +kernel) (pa_cons (pe_f c_bad_at_ties hr (by decide) rfl (pa_cons (pv 10) pa_nil)) pa_nil)) (pe_callTy (setQ (K := K) rfl) (by rfl) T.set (by decide +kernel) (pa_cons (pe_lst (pa_cons (pe_op op_add pe_int (pe_op op_mul pe_int (pv 9))) pa_nil)) pa_nil)) (nomark _)) (pw_or1 (pt_not (pt_val (pe_f c_is_steady hr (by decide) rfl (pa_cons (pv 10) pa_nil))))))))
        (pss_one (ps_ret pe_bl)) pss_nil)
        (pss_cons (ps_set (i := 11) nd rfl (by first | exact Or.inl rfl | exact Or.inr rfl) (pe_f c_law_changed hr (by decide) rfl (pa_cons (pv 2) (pa_cons (pv 10) pa_nil))))
        (pss_one (ps_if (PW.pt (pw_or (pt_not (pt_val (pe_fg c_law_right hr hgd (by decide) rfl (pa_cons (pv 11) pa_nil)))) (pw_or1 (pt_val (pe_f c_is_steady hr (by decide) rfl (pa_cons (pv 11) pa_nil))))))
        (pss_one (ps_ret pe_bl)) pss_nil))))))))))))
        (pss_one (ps_ret pe_bl))), ?_⟩
    have e00 : ∀ i : Nat, (0 : Int) + (i : Int) = (i : Int) := fun i => Int.zero_add _
    have allInt : ∀ x ∈ cutV (ns.map V.int ++ [.int 0]) none (some 4), ∃ i : Int, x = .int i := cut_ints fun x hx => by
      rcases List.mem_append.mp hx with hx | hx
      · obtain ⟨i, _, rfl⟩ := List.mem_map.mp hx
        exact ⟨i, rfl⟩
      · exact ⟨0, List.mem_singleton.mp hx⟩
    refine q_forNLn (xs := cutV (ns.map V.int ++ [.int 0]) none (some 4)) (fun H1 e1 Q1 q1 => ?_) (fun p i σ' H' => H' p = some (.lst (cutV (ns.map V.int ++ [.int 0]) none (some 4))) ∧ ∃ b1 b2 b3 b4 b5 b6 b7 b8 b9 b10 b11, σ' = [some (.ref a), b1, b2, b3, b4, b5, b6, b7, b8, b9, b10, b11])
      (fun p H1 _ _ h1 => ⟨h1, _, _, _, _, _, _, _, _, _, _, _, rfl⟩) (fun p i σ' H' _ z => sq_of z.1) (fun p i x σ' H' hx ⟨hp, b1, b2, b3, b4, b5, b6, b7, b8, b9, b10, b11, hσ⟩ => ?_) fun p σ' H' _ => s_ret ev_c fun H2 _ => k H2
    · refine r_sl (r_op (r_ev (ev_var (v := .ref a) rfl) fun H2 e2 => r_evL (el_lst (vs := [.int 0]) (ea_cons ev_c ea_nil) (show 1 ≤ 100000 by decide)) fun z H3 hz e3 h3 => ⟨a, z, ns.map V.int, [.int 0], rfl, rfl, ex_l ((e1.trans e2).trans e3) hS, h3, sz_of (by rw [List.length_map]; show ns.length + 1 ≤ 100000; omega), fun r hr => ⟨4, rfl, r, _, rfl, sq_of upd_same, fun t ht => ?_⟩⟩))
      exact q1 t _ (fresh_back ((e2.trans e3).trans (Ex.new hr)) ht) (((e2.trans e3).trans (Ex.new hr)).trans (Ex.new ht)) upd_same
    · subst hσ
      obtain ⟨c, rfl⟩ := allInt x (List.mem_of_getElem? hx)
      generalize hX : cutV (ns.map V.int ++ [.int 0]) none (some 4) = X at hp
      refine r_seqA (r_call (r_evA (ea_cons (ev_var rfl) ea_nil) fun H1 e1 => ⟨c, rfl, fun sp H2 hsp e2 hs => ?_⟩))
      have hp1 := e1 _ _ hp
      have np : p ≠ sp := fun z => by rw [z, hsp] at hp1; cases hp1
      have hp2 := e2 _ _ hp1
      -- an all-tied web
      refine r_notIf (r_call (r_cons (r_call (r_evA (ea_cons (ev_var rfl) (ea_cons ev_c (ea_cons ev_c ea_nil))) fun H3 e3 => ⟨sp, 0, rfl, hs.ex e3, by decide, fun p1 n1 u1 H4 sv4 hs4 hw1 g1 => r_nil ⟨p1, n1, u1, rfl, hw1, g1, fun H5 e5 => ⟨true, rfl, ite_nt ?_⟩⟩⟩))))
      have hp5 := e5 _ _ (sv4 _ _ np (e3 _ _ hp2))
      have hs5 := hs4.ex e5
      -- webs of one kind of threes
      refine r_seqA (r_op (r_ev ev_c fun H6 e6 => r_sip (t := 10) (ev_var rfl) ev_c (hs5.ex e6) (by decide) (by decide) (by decide) fun H7 r sv7 hs7 hr7 => ⟨_, _, rfl, rfl, ?_⟩))
      have hp7 := sv7 _ _ np (e6 _ _ hp5)
      dsimp only
      rw [show (1 : Int) + (r : Int) = ((1 + r : Nat) : Int) by omega]
      have hn1 : 1 ≤ 1 + r := by omega
      have hn10 : 1 + r ≤ 10 := by omega
      generalize 1 + r = n at hn1 hn10
      refine r_seqA (r_sides (m := 0 + 300 + 1) (n := n) (by omega) (by omega) hs7 (ea_cons (ev_var rfl) ea_nil) (fun _ => rfl) (fun _ => rfl) fun S s H8 sv8 hs8 hS0 hS hs1 => ?_)
      have hp8 := sv8 _ _ np hp7
      have hs8' : Spr H8 sp 400 := hs8.le (by omega)
      refine q_forNLn (xs := [.int 1, .int (-1)]) (el_lst (ea_cons ev_c (ea_cons (ev_un ev_c ru_neg) ea_nil)) (show 2 ≤ 100000 by decide)) (fun p2 i σ' H' => Ex H8 H' ∧ H' p2 = some (.lst [.int 1, .int (-1)]) ∧ ∃ c4 c6 c7 c8, σ' = [some (.ref a), some (.int c), some (.ref sp), some (.int (n : Int)), c4, some (.ref S), c6, c7, c8, b9, b10, b11])
        (fun p2 H9 _ e9 h9 => ⟨e9, h9, _, _, _, _, rfl⟩) (fun p2 i σ' H' _ z => sq_of z.2.1) (fun p2 i x σ' H' hx ⟨e, h2, c4, c6, c7, c8, hσ⟩ => ?_) fun p2 σ' H' ⟨e, _, c4, c6, c7, c8, hσ⟩ => ?_
      · subst hσ
        obtain ⟨sg, rfl, hsg⟩ : ∃ sg : Int, x = .int sg ∧ (sg = 1 ∨ sg = -1) := by
          have z := List.mem_of_getElem? hx
          rcases List.mem_cons.mp z with z | z
          · exact ⟨1, z, .inl rfl⟩
          · exact ⟨-1, List.mem_singleton.mp z, .inr rfl⟩
        have gp := plain_good (sg := sg) hn1 hn10 hsg hs1
        refine r_seqA (er_lc .tup (plainW sg s) (.inl rfl) (n := (n : Int).toNat) walk_range (ei_range1 (n := (n : Int)) (ea_cons (ev_var rfl) ea_nil) (by omega)) (by omega) (fun _ _ _ z => z) (fun H5 e5 x v H6 H7 hx e6 hv => ?_) H' (Ex.refl H') _ fun L rs H9 hL0 hrs0 e9 hL hrows => ?_)
        · obtain ⟨rfl, hv⟩ := hv
          have hv : v = .int ((0 : Int) + (x : Int)) := hv
          subst hv
          rw [e00 x]
          have hx' : x < n := by omega
          refine ⟨Ex.refl _, turn_name (fun _ => rfl) et_yes fun _ => ep_UF (eu_tupQ (el_is (el_lcR1 (n := (n : Int)) (fun _ => true) (fun y => V.int (plainW sg s x y)) (ea_cons (ev_var rfl) ea_nil) (by omega) (fun _ => rfl) (fun _ _ _ _ => et_yes) fun y H8 e8 hy _ => ?_) (given_all _ _))) fun r H9 hr e9 h9 => ⟨r, rfl, fresh_back e6 hr, h9⟩⟩
          have hy' : y < n := by omega
          have hS8 := sq_of (K := K) ((e.trans (e5.trans (e6.trans e8))) _ _ hS)
          refine ev_is (ev_op (ev_op (ev_op (ev_var rfl) (ev_op (ev_var rfl) (ev_var rfl) (rv_ixL hS8 (atI_nat (rowAt hx')))) (rv_I (cm_l (by rcases hsg with z | z <;> rw [z] <;> decide)))) (ev_op (ev_var rfl) (ev_var rfl) (rv_ixL hS8 (atI_nat (rowAt hy')))) (rv_I (cm_r (by rcases hs1 y hy' with z | z <;> rw [z] <;> decide)))) (ev_intB (b := decide (x ≠ y)) (ev_is (ev_op (x := .int (x : Int)) (y := .int (y : Int)) (ev_var rfl) (ev_var rfl) (rv_ne rfl)) (by by_cases h : x = y <;> simp [h]; omega))) (rv_I (cm_r (by split <;> decide)))) ?_
          unfold plainW
          by_cases h : x = y
          · subst h; simp
          · rw [if_neg h, if_pos (decide_eq_true h), Int.mul_one]
        · have hrows : RowsAt .tup H9 rs n (plainW sg s) := hrows
          have ps := plain_steady (sg := sg) hn10 hsg hs1
          exact s_when (b := false) (et_or (a := false) (b := false) (et_not (a := true) (et_B (ev_right (ew_lst (ev_var rfl) hL hrows) gp))) fun _ => et_not (a := true) (et_B (ev_steady (ew_lst (ev_var rfl) hL hrows) gp (by simp [ps])))) (fun z => nomatch z) fun _ H10 e10 => ⟨(e.trans e9).trans e10, (e9.trans e10) _ _ h2, _, _, _, _, rfl⟩
      · subst hσ
        have hpB := e _ _ hp8
        have hsB := hs8'.ex e
        -- the steady webs
        refine r_seqA (r_cb (r_cons (r_op (r_sip (t := 3) (ev_var rfl) ev_c hsB (by decide) (by decide) (by decide) fun H9 r9 sv9 hs9 hr9 => ⟨rfl, r_nil (.inr ⟨_, rfl, ?_⟩)⟩))))
        have hp9 := sv9 _ _ np hpB
        obtain ⟨kd, hkd, ekd⟩ : ∃ kd : Nat, (kd = 0 ∨ kd = 1) ∧ V.int (if decide (V.int (r9 : Int) = V.int 0) = true then 1 else 0) = V.int (kd : Int) := by
          by_cases h : decide (V.int (r9 : Int) = V.int 0) = true
          · exact ⟨1, .inr rfl, by rw [if_pos h]; rfl⟩
          · exact ⟨0, .inl rfl, by rw [if_neg h]; rfl⟩
        rw [ekd]
        refine r_seqA (r_call (r_evA (ea_cons (ev_var rfl) (ea_cons (ev_var rfl) ea_nil)) fun H10 e10 => ⟨sp, 401, kd, rfl, hs9.ex e10, by decide, hkd, fun pk u H11 sv11 hs11 hw g hk => ?_⟩))
        have hp11 := sv11 _ _ np (e10 _ _ hp9)
        have h2n : 2 ≤ 6 + 4 * kd := by omega
        obtain ⟨ko1, ko2, ko3⟩ := known_one h2n hk
        have hst : AllEq (cnts (6 + 4 * kd) u) := (allI_iff _ _).mp ko2
        refine q_when (b := false) (et_or (a := false) (b := false) (et_not (a := true) (et_B (ev_right (ew_var (ev_var rfl) hw) g))) fun _ => et_or (a := false) (b := false) (et_test (fun H1 e Q q => ?_)) fun _ => et_not (a := true) (et_B (ev_steady (ew_var (ev_var rfl) hw) g (by simp [hst])))) (fun z => nomatch z) fun _ H12 e12 => ?_
        · refine r_op (r_cb (r_cons (r_call (r_evA (ea_cons (ev_var rfl) ea_nil) fun H2 e2 => ⟨pk, 6 + 4 * kd, u, rfl, hw.ex (e.trans e2), g, fun t H3 e3 h3 => r_nil ⟨t, cI (6 + 4 * kd) u, rfl, .inr (st_of h3), by have := cI_len _ u g.hi; omega, fun r m hr sz => ?_⟩⟩))))
          refine r_cb (r_cons (r_evL (el_lst (vs := [.int ((2 + 2 * kd : Nat) : Int)]) (ea_cons (ev_is (ev_op ev_c (ev_op ev_c (ev_var rfl) (rv_I (.inl ⟨by decide, by decide⟩))) rv_I0) (congrArg V.int (by omega))) ea_nil) (show 1 ≤ 100000 by decide)) fun l2 H4 hl2 e4 h4 => r_nil ⟨l2, [((2 + 2 * kd : Nat) : Int)], rfl, .inl (sq_of h4), (show 1 ≤ 1000 by decide), fun r2 m2 hr2 sz2 => ?_⟩))
          have hm : m = 1 := sz.2.mpr ⟨ko1, ko2⟩
          have hm2 : m2 = 1 := sz2.2.mpr ⟨by simp, fun a ha b hb => by rw [List.mem_singleton.mp ha, List.mem_singleton.mp hb]⟩
          subst hm hm2
          refine ⟨r, r2, mem? (cI (6 + 4 * kd) u), mem? [((2 + 2 * kd : Nat) : Int)], ((2 + 2 * kd : Nat) : Int), rfl, rfl, (e4.trans (Ex.new hr2)) _ _ upd_same, upd_same, ko3, fun j => by unfold mem?; rw [decide_eq_true_eq, List.mem_singleton], q _ (((e2.trans e3).trans (Ex.new hr)).trans (e4.trans (Ex.new hr2)))⟩
        · have hp12 := e12 _ _ hp11
          have hs12 := hs11.ex e12
          have hw12 := hw.ex e12
          refine r_seqA (r_call (r_evA (ea_cons (ev_var rfl) (ea_cons (ev_var rfl) ea_nil)) fun H13 e13 => ⟨sp, pk, 401 + 100, 6 + 4 * kd, u, rfl, hs12.ex e13, by decide, hw12.ex e13, g, h2n, fun q a b H14 sv14 hs14 hab hb hwq => ?_⟩))
          have hp14 := sv14 _ _ np (e13 _ _ hp12)
          have gq := flip_good g (show a < 6 + 4 * kd by omega) hb (by omega)
          have nst := changed_not g hk (by omega) (by omega) hab hb
          exact s_when (b := false) (et_or (a := false) (b := false) (et_not (a := true) (et_B (ev_right (ew_var (ev_var rfl) hwq) gq))) fun _ => et_B (ev_steady (ew_var (ev_var rfl) hwq) gq (by simp [nst]))) (fun z => nomatch z) fun _ H15 e15 => ⟨e15 _ _ hp14, _, _, _, _, _, _, _, _, _, _, _, rfl⟩
end
end Sw

set_option Elab.async false
set_option linter.all false
set_option maxRecDepth 100000
set_option maxHeartbeats 4000000
/-! The end: the law holds. -/
namespace Sw
open PySem PySem.Spec PyProof.Rows L2 Evl SW
section
variable {P : Program} {w : World} {K : PySem.W.Frag} {mg mb : Str → Option Value} {h : Heap}
theorem defat (X : K.In h) (G : h.Ns mainGlobals mg) (c : He.SaysD fa fn K) {st : Stmt} (x : Str) (i : Nat) (hi : fn[i]? = some (fnD x st)) (j : Nat) (hj : fa[j]? = some (.glo x)) : DefAt K mg x st := by
  obtain ⟨fd, F⟩ := c.def_ i hi
  exact ⟨_, fd, F, He.glo_ok X G (c.fact j hj)⟩
theorem txt (X : K.In h) (G : h.Ns mainGlobals mg) (c : He.SaysD fa fn K) : Txt K mg :=
  ⟨He.free_ok X G (c.fact 1 (f := .free "len") rfl), He.free_ok X G (c.fact 2 (f := .free "all") rfl), He.free_ok X G (c.fact 3 (f := .free "isinstance") rfl), He.free_ok X G (c.fact 4 (f := .free "tuple") rfl), He.free_ok X G (c.fact 5 (f := .free "int") rfl), He.free_ok X G (c.fact 0 (f := .free "bool") rfl), He.free_ok X G (c.fact 6 (f := .free "range") rfl), He.free_ok X G (c.fact 7 (f := .free "enumerate") rfl), He.free_ok X G (c.fact 8 (f := .free "set") rfl), He.free_ok X G (c.fact 9 (f := .free "abs") rfl), He.free_ok X G (c.fact 10 (f := .free "list") rfl), He.free_ok X G (c.fact 11 (f := .free "sum") rfl), He.free_ok X G (c.fact 12 (f := .free "repr") rfl), by
    obtain ⟨t, e⟩ := He.int_ok X G (c.fact 13 (f := .int "MOST_PLACES" 10) rfl)
    exact ⟨_, e, t, rfl⟩⟩
theorem all_ok {base : Heap} (X : K.In h) (G : h.Ns mainGlobals mg) (c : He.SaysD fa fn K) : Fcg P w K mg base 8 "law" ["_law_script"] (spLaw K) := by
  have T := txt X G c
  have cis_integer := ok_is_integer (P := P) (w := w) (base := base) T (defat X G c (st := q_is_integer) "is_integer" 0 rfl 14 rfl)
  have cis_between := ok_is_between (P := P) (w := w) (base := base) T (defat X G c (st := q_is_between) "is_between" 1 rfl 15 rfl) cis_integer
  have cis_tuple_of := ok_is_tuple_of (P := P) (w := w) (base := base) T (defat X G c (st := q_is_tuple_of) "is_tuple_of" 2 rfl 16 rfl)
  have ccheck_place := ok_check_place (P := P) (w := w) (base := base) T (defat X G c (st := q_check_place) "check_place" 3 rfl 17 rfl) cis_between
  have cis_web := ok_is_web (P := P) (w := w) (base := base) T (defat X G c (st := q_is_web) "is_web" 4 rfl 18 rfl) cis_between cis_tuple_of
  have ccheck_web := ok_check_web (P := P) (w := w) (base := base) T (defat X G c (st := q_check_web) "check_web" 5 rfl 19 rfl) cis_web
  have cturned_web := ok_turned_web (P := P) (w := w) (base := base) T (defat X G c (st := q_turned_web) "turned_web" 6 rfl 20 rfl)
  have cthrees_of := ok_threes_of (P := P) (w := w) (base := base) T (defat X G c (st := q_threes_of) "threes_of" 7 rfl 21 rfl)
  have ccheck_all_tied := ok_check_all_tied (P := P) (w := w) (base := base) T (defat X G c (st := q_check_all_tied) "check_all_tied" 8 rfl 22 rfl)
  have cis_bad_three := ok_is_bad_three (P := P) (w := w) (base := base) T (defat X G c (st := q_is_bad_three) "is_bad_three" 9 rfl 23 rfl)
  have cbad_threes := ok_bad_threes (P := P) (w := w) (base := base) T (defat X G c (st := q_bad_threes) "bad_threes" 10 rfl 24 rfl) ccheck_web ccheck_all_tied cthrees_of cis_bad_three
  have cseen_from := ok_seen_from (P := P) (w := w) (base := base) T (defat X G c (st := q_seen_from) "seen_from" 11 rfl 25 rfl) ccheck_web ccheck_place ccheck_all_tied cturned_web
  have cbad_counts := ok_bad_counts (P := P) (w := w) (base := base) T (defat X G c (st := q_bad_counts) "bad_counts" 12 rfl 26 rfl)
  have cbad_at_ties := ok_bad_at_ties (P := P) (w := w) (base := base) T (defat X G c (st := q_bad_at_ties) "bad_at_ties" 13 rfl 27 rfl) ccheck_web ccheck_all_tied cbad_counts
  have cis_steady := ok_is_steady (P := P) (w := w) (base := base) T (defat X G c (st := q_is_steady) "is_steady" 14 rfl 28 rfl) ccheck_web ccheck_all_tied cbad_counts
  have c_law_spring := ok_law_spring (P := P) (w := w) (base := base) T (defat X G c (st := q_law_spring) "_law_spring" 15 rfl 29 rfl)
  have c_law_sip := ok_law_sip (P := P) (w := w) (base := base) T (defat X G c (st := q_law_sip) "_law_sip" 16 rfl 30 rfl)
  have c_law_row := ok_law_row (P := P) (w := w) (base := base) T (defat X G c (st := q_law_row) "_law_row" 17 rfl 31 rfl) c_law_sip
  have c_law_alike := ok_law_alike (P := P) (w := w) (base := base) T (defat X G c (st := q_law_alike) "_law_alike" 18 rfl 32 rfl)
  have c_law_all_tied := ok_law_all_tied (P := P) (w := w) (base := base) T (defat X G c (st := q_law_all_tied) "_law_all_tied" 19 rfl 33 rfl) c_law_sip c_law_row
  have c_law_bad_threes := ok_law_bad_threes (P := P) (w := w) (base := base) T (defat X G c (st := q_law_bad_threes) "_law_bad_threes" 20 rfl 34 rfl)
  have c_law_counts := ok_law_counts (P := P) (w := w) (base := base) T (defat X G c (st := q_law_counts) "_law_counts" 21 rfl 35 rfl) c_law_bad_threes
  have c_law_products_right := ok_law_products_right (P := P) (w := w) (base := base) T (defat X G c (st := q_law_products_right) "_law_products_right" 22 rfl 36 rfl)
  have c_law_seen_foes := ok_law_seen_foes (P := P) (w := w) (base := base) T (defat X G c (st := q_law_seen_foes) "_law_seen_foes" 23 rfl 37 rfl) cseen_from
  have c_law_known := ok_law_known (P := P) (w := w) (base := base) T (defat X G c (st := q_law_known) "_law_known" 24 rfl 38 rfl) c_law_sip c_law_row
  have c_law_changed := ok_law_changed (P := P) (w := w) (base := base) T (defat X G c (st := q_law_changed) "_law_changed" 25 rfl 39 rfl) c_law_sip
  have c_law_right := ok_law_right (P := P) (w := w) (base := base) T (defat X G c (st := q_law_right) "_law_right" 26 rfl 40 rfl) c_law_counts cbad_at_ties c_law_alike c_law_products_right cis_steady c_law_seen_foes cbad_threes
  have claw := ok_law (P := P) (w := w) (base := base) T (defat X G c (st := q_law) "law" 27 rfl 41 rfl) c_law_spring c_law_right c_law_all_tied c_law_sip cis_steady c_law_known cbad_at_ties c_law_changed
  exact claw

/-! ### the call of a law whose def asks that nothing is being shown -/
/-- what may be seen of the script at a -/
def seenAt (K : PySem.W.Frag) (a : Addr) (ob : Obj) (xs : List V) : Hp := fun b => if b = a ∧ K.lookup a = none then some (.frz ob (.lst xs)) else none
theorem seenAt_or (a : Addr) (ob : Obj) (xs : List V) (b : Addr) : seenAt K a ob xs b = none ∨ (b = a ∧ K.lookup a = none ∧ seenAt K a ob xs b = some (.frz ob (.lst xs))) := by
  by_cases h : b = a ∧ K.lookup a = none
  · exact .inr ⟨h.1, h.2, if_pos h⟩
  · exact .inl (if_neg h)
theorem start_env {a : Addr} {xs : List V} {s : Shared} {its : List Value} (KX : K.In s.heap) (g1 : s.heap.Ns mainGlobals mg) (g2 : s.heap.Ns builtinsNs mb) (g3 : ∀ x : Str, x ≠ "__name__" → mb x = bootBuiltins x) (g4 : s.heap.NoLimit) (g5 : s.gens = #[])
    (ha : s.heap.get? a = some { cls := .type "list", data := .seq its.toArray }) (rv : Vals xs its) (hz : xs.length ≤ sizeLine) :
    Env0 P w K mg (hidT s.heap (seenAt K a { cls := .type "list", data := .seq its.toArray } xs)) callerA [] s (seenAt K a { cls := .type "list", data := .seq its.toArray } xs) := by
  have sees := seenAt_or (K := K) a { cls := .type "list", data := .seq its.toArray } xs
  generalize seenAt K a { cls := .type "list", data := .seq its.toArray } xs = H at sees
  -- what is no list is not hidden
  have dicts : ∀ {b : Addr} {m : Str → Option Value}, s.heap.Ns b m → (hidT s.heap H).Ns b m := fun {b m} ⟨o, es, ep, q1, q2, q3⟩ => by
    refine ⟨o, es, ep, hidT_get q1 ?_, q2, q3⟩
    rcases sees b with z | ⟨rfl, _, _⟩
    · exact z
    · rw [ha] at q1
      obtain rfl := Option.some.inj q1
      exact nomatch q2
  have kin : K.In (hidT s.heap H) := fun b o q => by
    refine hidT_get (KX b o q) ?_
    rcases sees b with z | ⟨rfl, z, _⟩
    · exact z
    · rw [z] at q
      exact nomatch q
  refine ⟨rfl, ⟨kin, dicts g1, ⟨mb, dicts g2, g3⟩, ?_⟩, fun b o q => of_hidT q, Nat.le_of_eq (hidT_size _ _), trivial, (fun b z => nomatch z), (fun b u z => ?_), .of_eq g5⟩
  · obtain ⟨mc, q1, q2⟩ := g4
    exact ⟨mc, dicts q1, q2⟩
  · rcases sees b with q | ⟨rfl, _, q⟩
    · rw [q] at z
      exact nomatch z
    · rw [q] at z
      obtain rfl := Option.some.inj z
      exact ⟨ha, hz, its, _, rv, ha⟩
theorem run_law {fl a : Addr} {s : Shared} {its : List Value} {ns : List Int} {x y : Str} {k : Nat} {sp : Sp} (KX : K.In s.heap) (g1 : s.heap.Ns mainGlobals mg) (g2 : s.heap.Ns builtinsNs mb) (g3 : ∀ x : Str, x ≠ "__name__" → mb x = bootBuiltins x) (g4 : s.heap.NoLimit) (g5 : s.gens = #[])
    (ha : s.heap.get? a = some { cls := .type "list", data := .seq its.toArray }) (hi : IntsAre its ns) (hz : ns.length ≤ sizeLine) (hr : Room k callerA)
    (F : ∀ base : Heap, Fcg P w K mg base k x [y] sp) (hmg : mg x = some (.ref fl)) (hsp : ∀ H : Hp, SqL K H a (ns.map V.int) → sp [.ref a] H (fun v _ => v = .bl true) E0) :
    codeAny (model P w) callerA (.call (.ref fl) ⟨[.ref a], []⟩) (fun r s' => r = .ok (.ret (.bool true)) ∧ OldK s.heap s'.heap ∧ s'.os = s.os ∧ AllBare s'.gens) s := by
  have rv : Vals (ns.map V.int) its := vals_ints hi
  have hl : (ns.map V.int).length ≤ sizeLine := by rw [List.length_map]; exact hz
  have env := start_env (P := P) (w := w) KX g1 g2 g3 g4 g5 ha rv hl
  have sees := seenAt_or (K := K) a { cls := .type "list", data := .seq its.toArray } (ns.map V.int)
  have hS : SqL K (seenAt K a { cls := .type "list", data := .seq its.toArray } (ns.map V.int)) a (ns.map V.int) := by
    cases hk : K.lookup a with
    | none => exact .inl (.inr ⟨_, if_pos ⟨rfl, hk⟩⟩)
    | some o =>
      have q := KX a o hk
      rw [ha] at q
      obtain rfl := Option.some.inj q
      refine .inr ⟨_, its.toArray, 0, hk, rfl, rfl, rfl, ?_, by simpa using rv⟩
      rw [List.size_toArray, ← rv.length]
      exact hl
  generalize seenAt K a { cls := .type "list", data := .seq its.toArray } (ns.map V.int) = H at env sees hS
  obtain ⟨f, fd, G, hm, _, hb⟩ := (F (hidT s.heap H)).ex
  rw [hmg] at hm
  obtain rfl := Value.ref.inj (Option.some.inj hm)
  refine codeAny_mono (G.go callerA [] s H ⟨[.ref a], []⟩ [.ref a] [.ref a] _ _ ⟨hr, rfl⟩ env (hb s [.ref a] rfl) (.cons rfl .nil) (hsp H hS)) fun r s' q => ?_
  match r, q with
  | .ok (.ret u), q =>
    obtain ⟨v, H', os, bare, un, hok', rel, ev⟩ := q
    have ev : v = .bl true := ev
    subst ev
    obtain rfl : u = Value.bool true := rel
    refine ⟨rfl, OldK.of_keep fun b o q => ?_, os, bare⟩
    rcases sees b with z | ⟨rfl, _, z⟩
    · exact un.keep b o q z (fun m => nomatch m) (fun m => nomatch m)
    · rw [ha] at q
      obtain rfl := Option.some.inj q
      exact (hok' b _ (un.frzs b _ _ z)).1
end
end Sw
open PySem PySem.W PySem.Calls PyProof.Rows
theorem PySem.Challenge.cw_signrounds_k58_whole_steady_webs_holds : PySem.Challenge.rw_signrounds_k58_whole_steady_webs.Holds := by
  w_on; o_law
  refine HandSHeadRun.head_any (r := Sw.R) (q := view Sw.R.prog [38]) (H := Sw.hk) (ob := Sw.ob) (M := 2000) (loose := Sw.loose) (d := HandSHeadRun.topDef Sw.R.prog 38) (kwd := []) Sw.ob_eq
    (by kernel_rfl) (fun s => by kernel_rfl) Sw.run (by kernel_rfl) (by kernel_rfl) (by kernel_rfl) (by rfl) (by first | assumption | decide +kernel) (by decide +kernel) ⟨rfl, rfl, rfl, rfl, rfl, by decide +kernel⟩ ?hw ?hc
  case hw => w_witness2
  case hc =>
    refine Att.attach_call (l := PySem.Challenge.rw_signrounds_k58_whole_steady_webs) (n := 63) rfl (by kernel_rfl) fun w s₀ s₁ mg mb fl o pm cd doc a vs ns G Y ho hd hcd hmg hobj hints hlen hg => ?_
    obtain ⟨K, KX, c⟩ := Y
    have hname : (HandSHeadRun.topDef Sw.R.prog 38).name = ("law" : PySem.Str) := by kernel_rfl
    rw [hname] at hmg
    exact Sw.run_law KX G.T.g G.T.b G.T.builtins G.T.nolimit hg hobj hints (Nat.le_trans hlen (by decide)) ⟨rfl, by decide, by decide⟩ (fun base => Sw.all_ok KX G.T.g c) hmg fun H hS => ⟨a, ns, rfl, hS, hlen, fun _ => rfl⟩
