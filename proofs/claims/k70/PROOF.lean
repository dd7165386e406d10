import PyProof.Rows.All
import Wide.All
import OpenK.AllK
import Wide.FinOn
import HandS.ForMost
import HandS.Wide
import HandS.IsInst
import HandS.Style
import HandS.TupAny
import HandS.Evl
import PySem.Challenge.RW_tidefold_k70_great_bounds_and_several_ho
set_option Elab.async false
set_option linter.all false
set_option maxRecDepth 100000
set_option maxHeartbeats 4000000
/-! The plain mathematics: shows as sets of integers. No program here. -/
namespace TF

/-! ### comparisons -/
inductive Cmp where
  | lt | le | eq | ne | ge | gt
  deriving DecidableEq
def Cmp.test : Cmp → Int → Int → Bool
  | .lt, v, b => decide (v < b)
  | .le, v, b => decide (v ≤ b)
  | .eq, v, b => decide (v = b)
  | .ne, v, b => !decide (v = b)
  | .ge, v, b => decide (b ≤ v)
  | .gt, v, b => decide (b < v)
def Cmp.flip : Cmp → Cmp
  | .lt => .gt | .le => .ge | .eq => .eq | .ne => .ne | .ge => .le | .gt => .lt
theorem Cmp.flip_test (c : Cmp) (v b : Int) : c.flip.test (-v) (-b) = c.test v b := by
  cases c <;> simp [Cmp.flip, Cmp.test] <;> omega

/-! ### shows -/
structure Sh where
  low : Option Int
  high : Option Int
  holes : List Int
  f : Int

/-- the integers between the bounds that are not holes -/
def Mem (low high : Option Int) (holes : List Int) (v : Int) : Prop :=
  (∀ l, low = some l → l ≤ v) ∧ (∀ u, high = some u → v ≤ u) ∧ v ∉ holes
abbrev Sh.mem (s : Sh) (v : Int) : Prop := Mem s.low s.high s.holes v
instance (low high : Option Int) (holes : List Int) (v : Int) : Decidable (Mem low high holes v) := by
  unfold Mem
  cases low <;> cases high <;> simp <;> infer_instance

/-- written in the one way -/
structure Canon (s : Sh) : Prop where
  asc : s.holes.Pairwise (· < ·)
  lo : ∀ h ∈ s.holes, ∀ l, s.low = some l → l < h
  hi : ∀ h ∈ s.holes, ∀ u, s.high = some u → h < u
  ne : ∀ l u, s.low = some l → s.high = some u → l ≤ u

/-- o is the show of the set, in the one way in which it is written -/
def IsC (mem : Int → Prop) (f : Int) (o : Option Sh) : Prop :=
  (o = none ∧ ∀ v, ¬ mem v) ∨ ∃ s, o = some s ∧ Canon s ∧ s.f = f ∧ ∀ v, mem v ↔ s.mem v

theorem below_all : ∀ xs : List Int, ∃ m : Int, ∀ h ∈ xs, m < h
  | [] => ⟨0, fun _ h => nomatch h⟩
  | x :: r => by
    obtain ⟨m, hm⟩ := below_all r
    refine ⟨min m (x - 1), fun h hh => ?_⟩
    rcases List.mem_cons.mp hh with e | e
    · omega
    · have := hm h e
      omega
theorem above_all : ∀ xs : List Int, ∃ m : Int, ∀ h ∈ xs, h < m
  | [] => ⟨0, fun _ h => nomatch h⟩
  | x :: r => by
    obtain ⟨m, hm⟩ := above_all r
    refine ⟨max m (x + 1), fun h hh => ?_⟩
    rcases List.mem_cons.mp hh with e | e
    · omega
    · have := hm h e
      omega

theorem Canon.low_mem {s : Sh} (c : Canon s) {l : Int} (h : s.low = some l) : s.mem l :=
  ⟨fun l' e => by rw [h] at e; cases e; exact Int.le_refl _, fun u e => c.ne l u h e, fun m => Int.lt_irrefl _ (c.lo l m l h)⟩
theorem Canon.high_mem {s : Sh} (c : Canon s) {u : Int} (h : s.high = some u) : s.mem u :=
  ⟨fun l e => c.ne l u e h, fun u' e => by rw [h] at e; cases e; exact Int.le_refl _, fun m => Int.lt_irrefl _ (c.hi u m u h)⟩
theorem Canon.some_mem {s : Sh} (c : Canon s) : ∃ v, s.mem v := by
  cases h : s.low with
  | some l => exact ⟨l, c.low_mem h⟩
  | none =>
    cases h2 : s.high with
    | some u => exact ⟨u, c.high_mem h2⟩
    | none =>
      obtain ⟨m, hm⟩ := above_all s.holes
      refine ⟨m, fun l e => ?_, fun u e => ?_, fun e => Int.lt_irrefl _ (hm m e)⟩
      · rw [h] at e; cases e
      · rw [h2] at e; cases e

/-- strictly ascending lists with the same members are equal -/
theorem asc_eq : ∀ {xs ys : List Int}, xs.Pairwise (· < ·) → ys.Pairwise (· < ·) → (∀ v, v ∈ xs ↔ v ∈ ys) → xs = ys
  | [], [], _, _, _ => rfl
  | [], y :: r, _, _, h => absurd ((h y).mpr (List.mem_cons_self ..)) (by simp)
  | x :: r, [], _, _, h => absurd ((h x).mp (List.mem_cons_self ..)) (by simp)
  | x :: r, y :: t, a, b, h => by
    obtain ⟨a1, a2⟩ := List.pairwise_cons.mp a
    obtain ⟨b1, b2⟩ := List.pairwise_cons.mp b
    have e : x = y := by
      have h1 := (h x).mp (List.mem_cons_self ..)
      have h2 := (h y).mpr (List.mem_cons_self ..)
      rcases List.mem_cons.mp h1 with q | q
      · exact q
      · rcases List.mem_cons.mp h2 with p | p
        · exact p.symm
        · have := a1 y p
          have := b1 x q
          omega
    subst e
    have e2 : r = t := asc_eq a2 b2 fun v => by
      constructor
      · intro hv
        have := (h v).mp (List.mem_cons_of_mem _ hv)
        rcases List.mem_cons.mp this with q | q
        · have := a1 v hv
          omega
        · exact q
      · intro hv
        have := (h v).mpr (List.mem_cons_of_mem _ hv)
        rcases List.mem_cons.mp this with q | q
        · have := b1 v hv
          omega
        · exact q
    rw [e2]

theorem canon_low {s t : Sh} (a : Canon s) (b : Canon t) (h : ∀ v, s.mem v ↔ t.mem v) {l : Int} (hl : s.low = some l) : t.low = some l := by
  have m1 := (h l).mp (a.low_mem hl)
  cases ht : t.low with
  | some l' =>
    have m2 := (h l').mpr (b.low_mem ht)
    have h1 := m2.1 l hl
    have h2 := m1.1 l' ht
    have e : l = l' := by omega
    rw [e]
  | none =>
    obtain ⟨m, hm⟩ := below_all t.holes
    have m3 : t.mem (min m (l - 1)) := by
      refine ⟨fun l' e => ?_, fun u e => ?_, fun e => ?_⟩
      · rw [ht] at e
        cases e
      · have := m1.2.1 u e
        omega
      · have := hm _ e
        omega
    have := ((h _).mpr m3).1 l hl
    omega
theorem canon_high {s t : Sh} (a : Canon s) (b : Canon t) (h : ∀ v, s.mem v ↔ t.mem v) {u : Int} (hu : s.high = some u) : t.high = some u := by
  have m1 := (h u).mp (a.high_mem hu)
  cases ht : t.high with
  | some u' =>
    have m2 := (h u').mpr (b.high_mem ht)
    have h1 := m2.2.1 u hu
    have h2 := m1.2.1 u' ht
    have e : u = u' := by omega
    rw [e]
  | none =>
    obtain ⟨m, hm⟩ := above_all t.holes
    have m3 : t.mem (max m (u + 1)) := by
      refine ⟨fun l e => ?_, fun u' e => ?_, fun e => ?_⟩
      · have := m1.1 l e
        omega
      · rw [ht] at e
        cases e
      · have := hm _ e
        omega
    have := ((h _).mpr m3).2.1 u hu
    omega
theorem Canon.hole_iff {s : Sh} (c : Canon s) (v : Int) : v ∈ s.holes ↔ (¬ s.mem v ∧ (∀ l, s.low = some l → l ≤ v) ∧ ∀ u, s.high = some u → v ≤ u) := by
  constructor
  · intro h
    exact ⟨fun m => m.2.2 h, fun l e => Int.le_of_lt (c.lo v h l e), fun u e => Int.le_of_lt (c.hi v h u e)⟩
  · rintro ⟨h1, h2, h3⟩
    apply Decidable.byContradiction
    intro h
    exact h1 ⟨h2, h3, h⟩
/-- a set has one show -/
theorem canon_uniq {s t : Sh} (a : Canon s) (b : Canon t) (hf : s.f = t.f) (h : ∀ v, s.mem v ↔ t.mem v) : s = t := by
  have e1 : s.low = t.low := by
    cases q : s.low with
    | some l => exact (canon_low a b h q).symm
    | none =>
      cases q2 : t.low with
      | none => rfl
      | some l =>
        rw [canon_low b a (fun v => (h v).symm) q2] at q
        cases q
  have e2 : s.high = t.high := by
    cases q : s.high with
    | some l => exact (canon_high a b h q).symm
    | none =>
      cases q2 : t.high with
      | none => rfl
      | some l =>
        rw [canon_high b a (fun v => (h v).symm) q2] at q
        cases q
  have e3 : s.holes = t.holes := asc_eq a.asc b.asc fun v => by
    rw [a.hole_iff, b.hole_iff, e1, e2, h v]
  obtain ⟨sl, su, sh, sf⟩ := s
  obtain ⟨tl, tu, th, tf⟩ := t
  simp only at e1 e2 e3 hf
  rw [e1, e2, e3, hf]
theorem isC_uniq {mem : Int → Prop} {f : Int} {o o' : Option Sh} (a : IsC mem f o) (b : IsC mem f o') : o = o' := by
  rcases a with ⟨rfl, ha⟩ | ⟨s, rfl, cs, fs, hs⟩
  · rcases b with ⟨rfl, _⟩ | ⟨t, rfl, ct, _, ht⟩
    · rfl
    · obtain ⟨v, hv⟩ := ct.some_mem
      exact absurd ((ht v).mpr hv) (ha v)
  · rcases b with ⟨rfl, hb⟩ | ⟨t, rfl, ct, ft, ht⟩
    · obtain ⟨v, hv⟩ := cs.some_mem
      exact absurd ((hs v).mpr hv) (hb v)
    · rw [canon_uniq cs ct (fs.trans ft.symm) fun v => (hs v).symm.trans (ht v)]

/-! ### bounds moved past holes -/
/-- from l upward to l' all are holes -/
def Up (holes : List Int) (l l' : Int) : Prop := l ≤ l' ∧ ∀ j, l ≤ j → j < l' → j ∈ holes
def Down (holes : List Int) (u u' : Int) : Prop := u' ≤ u ∧ ∀ j, u' < j → j ≤ u → j ∈ holes
theorem Up.refl (holes : List Int) (l : Int) : Up holes l l := ⟨Int.le_refl _, fun j a b => by omega⟩
theorem Down.refl (holes : List Int) (l : Int) : Down holes l l := ⟨Int.le_refl _, fun j a b => by omega⟩
theorem Up.step {holes : List Int} {l l' : Int} (h : Up holes l l') (m : l' ∈ holes) : Up holes l (l' + 1) :=
  ⟨by have := h.1; omega, fun j a b => by
    by_cases e : j = l'
    · rw [e]; exact m
    · exact h.2 j a (by omega)⟩
theorem Down.step {holes : List Int} {u u' : Int} (h : Down holes u u') (m : u' ∈ holes) : Down holes u (u' - 1) :=
  ⟨by have := h.1; omega, fun j a b => by
    by_cases e : j = u'
    · rw [e]; exact m
    · exact h.2 j (by omega) b⟩
def UpO (holes : List Int) : Option Int → Option Int → Prop
  | none, o => o = none
  | some l, o => ∃ l', o = some l' ∧ Up holes l l'
def DownO (holes : List Int) : Option Int → Option Int → Prop
  | none, o => o = none
  | some u, o => ∃ u', o = some u' ∧ Down holes u u'
theorem mem_moved {low low' high high' : Option Int} {holes : List Int} (a : UpO holes low low') (b : DownO holes high high') (v : Int) : Mem low high holes v ↔ Mem low' high' holes v := by
  have h1 : v ∉ holes → ((∀ l, low = some l → l ≤ v) ↔ ∀ l, low' = some l → l ≤ v) := by
    intro hv
    cases low with
    | none => cases a; exact Iff.rfl
    | some l =>
      obtain ⟨l', rfl, h1, h2⟩ := a
      constructor
      · intro h l2 e
        cases e
        have := h l rfl
        apply Decidable.byContradiction
        intro q
        exact hv (h2 v this (by omega))
      · intro h l2 e
        cases e
        have := h l' rfl
        omega
  have h2 : v ∉ holes → ((∀ l, high = some l → v ≤ l) ↔ ∀ l, high' = some l → v ≤ l) := by
    intro hv
    cases high with
    | none => cases b; exact Iff.rfl
    | some l =>
      obtain ⟨l', rfl, h1, h2⟩ := b
      constructor
      · intro h l2 e
        cases e
        have := h l rfl
        apply Decidable.byContradiction
        intro q
        exact hv (h2 v (by omega) this)
      · intro h l2 e
        cases e
        have := h l' rfl
        omega
  unfold Mem
  constructor
  · rintro ⟨p, q, r⟩
    exact ⟨(h1 r).mp p, (h2 r).mp q, r⟩
  · rintro ⟨p, q, r⟩
    exact ⟨(h1 r).mpr p, (h2 r).mpr q, r⟩
/-- strictly between the bounds -/
def Within (low high : Option Int) (h : Int) : Prop := (∀ l, low = some l → l < h) ∧ ∀ u, high = some u → h < u
/-- the show of bounds and holes -/
theorem isC_of {low high : Option Int} {holes inner : List Int} {f : Int} (asc : inner.Pairwise (· < ·)) (mi : ∀ h, h ∈ inner ↔ h ∈ holes ∧ Within low high h)
    (hl : ∀ l, low = some l → l ∉ holes) (hh : ∀ u, high = some u → u ∉ holes) (ne : ∀ l u, low = some l → high = some u → l ≤ u) :
    IsC (Mem low high holes) f (some ⟨low, high, inner, f⟩) := by
  refine .inr ⟨_, rfl, ⟨asc, fun h m l e => ((mi h).mp m).2.1 l e, fun h m u e => ((mi h).mp m).2.2 u e, ne⟩, rfl, fun v => ?_⟩
  constructor
  · rintro ⟨a, b, c⟩
    exact ⟨a, b, fun m => c ((mi v).mp m).1⟩
  · rintro ⟨a, b, c⟩
    refine ⟨a, b, fun m => c ((mi v).mpr ⟨m, fun l e => ?_, fun u e => ?_⟩)⟩
    · have h1 := a l e
      have h2 : l ≠ v := fun q => hl l e (q ▸ m)
      omega
    · have h1 := b u e
      have h2 : u ≠ v := fun q => hh u e (q ▸ m)
      omega
theorem isC_none {low high : Option Int} {holes : List Int} {f l u : Int} (hl : low = some l) (hu : high = some u) (h : u < l) : IsC (Mem low high holes) f none :=
  .inl ⟨rfl, fun v m => by
    have := m.1 l hl
    have := m.2.1 u hu
    omega⟩
theorem isC_congr {mem mem' : Int → Prop} {f : Int} {o : Option Sh} (h : ∀ v, mem v ↔ mem' v) (c : IsC mem' f o) : IsC mem f o := by
  rcases c with ⟨e, q⟩ | ⟨s, e, c, g, q⟩
  · exact .inl ⟨e, fun v m => q v ((h v).mp m)⟩
  · exact .inr ⟨s, e, c, g, fun v => (h v).trans (q v)⟩
theorem asc_of {xs : List Int} (a : xs.Pairwise (· ≤ ·)) (b : xs.Nodup) : xs.Pairwise (· < ·) := by
  refine List.Pairwise.imp₂ ?_ a b
  intro x y h1 h2
  omega
/-- n numbers in a row that are all there -/
theorem row_len {v : Int} : ∀ (n : Nat) (xs : List Int), (∀ j : Nat, j < n → v + j ∈ xs) → n ≤ xs.length
  | 0, _, _ => Nat.zero_le _
  | n + 1, xs, h => by
    have h1 := h n (by omega)
    have ih := row_len n (xs.erase (v + n)) fun j hj => (List.mem_erase_of_ne (by omega)).mpr (h j (by omega))
    rw [List.length_erase_of_mem h1] at ih
    have : 0 < xs.length := List.length_pos_of_mem h1
    omega
theorem up_len {holes : List Int} {l l' : Int} (h : Up holes l l') {k : Nat} (e : l' = l + k) : k ≤ holes.length :=
  row_len (v := l) k holes fun j hj => h.2 _ (by omega) (by omega)
theorem down_len {holes : List Int} {u u' : Int} (h : Down holes u u') {k : Nat} (e : u' = u - k) : k ≤ holes.length :=
  row_len (v := u' + 1) k holes fun j hj => h.2 _ (by omega) (by omega)

/-! ### a stage sift -/
theorem le_div {v n d : Int} (h : 0 < d) : v ≤ n / d ↔ d * v ≤ n := by
  rw [Int.le_ediv_iff_mul_le h, Int.mul_comm]
theorem div_le {v n d : Int} (h : 0 < d) : -((-n) / d) ≤ v ↔ n ≤ d * v := by
  have := @le_div (-v) (-n) d h
  rw [Int.mul_neg] at this
  omega
theorem eq_mul {v n d : Int} (h : 0 < d) (e : n % d = 0) : d * v = n ↔ v = n / d := by
  have hd := Int.mul_ediv_add_emod n d
  rw [e, Int.add_zero] at hd
  constructor
  · intro q
    rw [← q, Int.mul_ediv_cancel_left v (by omega)]
  · intro q
    rw [q, hd]
theorem ne_mul {v n d : Int} (e : n % d ≠ 0) : d * v ≠ n := by
  intro q
  apply e
  rw [← q]
  exact Int.mul_emod_right d v
/-- comparison and bound for the value itself: le, ge, eq, ne; none: never -/
structure Turned (c : Cmp) (b f : Int) (c' : Cmp) (o : Option Int) : Prop where
  h : c' = .le ∨ c' = .ge ∨ c' = .eq ∨ c' = .ne
  n : o = none → c' = .eq ∨ c' = .ne
  s : ∀ x, o = some x → ∀ v, c.test (f * v) b = c'.test v x
  t : o = none → ∀ v, c.test (f * v) b = decide (c' = .ne)
/-- for a factor below 0 -/
theorem Turned.neg {c : Cmp} {b f : Int} {c' : Cmp} {o : Option Int} (h : Turned c.flip (-b) (-f) c' o) : Turned c b f c' o := by
  obtain ⟨h1, h2, h3, h4⟩ := h
  have e : ∀ v, c.test (f * v) b = c.flip.test (-f * v) (-b) := fun v => by
    rw [Int.neg_mul, Cmp.flip_test]
  exact ⟨h1, h2, fun x q v => (e v).trans (h3 x q v), fun q v => (e v).trans (h4 q v)⟩
theorem turned_lt {b f : Int} (h : 0 < f) : Turned .lt b f .le (some (-((-b) / f) - 1)) :=
  ⟨.inl rfl, fun q => (nomatch q), fun x q v => by
    cases q
    have := @div_le v b f h
    simp only [Cmp.test]
    congr 1
    apply propext
    omega, fun q => (nomatch q)⟩
theorem turned_lt' {b f : Int} (h : 0 < f) : Turned .lt b f .le (some ((b - 1) / f)) :=
  ⟨.inl rfl, fun q => (nomatch q), fun x q v => by
    cases q
    have := @le_div v (b - 1) f h
    simp only [Cmp.test]
    congr 1
    apply propext
    omega, fun q => (nomatch q)⟩
theorem turned_le {b f : Int} (h : 0 < f) : Turned .le b f .le (some (b / f)) :=
  ⟨.inl rfl, fun q => (nomatch q), fun x q v => by
    cases q
    have := @le_div v b f h
    simp only [Cmp.test]
    congr 1
    apply propext
    omega, fun q => (nomatch q)⟩
theorem turned_gt {b f : Int} (h : 0 < f) : Turned .gt b f .ge (some (b / f + 1)) :=
  ⟨.inr (.inl rfl), fun q => (nomatch q), fun x q v => by
    cases q
    have := @le_div v b f h
    simp only [Cmp.test]
    congr 1
    apply propext
    omega, fun q => (nomatch q)⟩
theorem turned_ge {b f : Int} (h : 0 < f) : Turned .ge b f .ge (some (-((-b) / f))) :=
  ⟨.inr (.inl rfl), fun q => (nomatch q), fun x q v => by
    cases q
    have := @div_le v b f h
    simp only [Cmp.test]
    congr 1
    apply propext
    omega, fun q => (nomatch q)⟩
theorem turned_eq {b f : Int} (h : 0 < f) (e : b % f = 0) : Turned .eq b f .eq (some (b / f)) :=
  ⟨.inr (.inr (.inl rfl)), fun q => (nomatch q), fun x q v => by
    cases q
    simp only [Cmp.test]
    congr 1
    exact propext (eq_mul h e), fun q => (nomatch q)⟩
theorem turned_ne {b f : Int} (h : 0 < f) (e : b % f = 0) : Turned .ne b f .ne (some (b / f)) :=
  ⟨.inr (.inr (.inr rfl)), fun q => (nomatch q), fun x q v => by
    cases q
    simp only [Cmp.test]
    congr 2
    exact propext (eq_mul h e), fun q => (nomatch q)⟩
theorem turned_eq0 {b f : Int} (e : b % f ≠ 0) : Turned .eq b f .eq none :=
  ⟨.inr (.inr (.inl rfl)), fun _ => .inl rfl, fun x q => (nomatch q), fun _ v => by
    simp only [Cmp.test]
    rw [decide_eq_false (ne_mul e)]
    rfl⟩
theorem turned_ne0 {b f : Int} (e : b % f ≠ 0) : Turned .ne b f .ne none :=
  ⟨.inr (.inr (.inr rfl)), fun _ => .inr rfl, fun x q => (nomatch q), fun _ v => by
    simp only [Cmp.test]
    rw [decide_eq_false (ne_mul e)]
    rfl⟩

/-! ### stages and what they leave -/
inductive Stg where
  | scale (k : Int)
  | sift (c : Cmp) (b : Int)
abbrev Sem := (Int → Prop) × Int
def Sem.step (x : Sem) : Stg → Sem
  | .scale k => (x.1, x.2 * k)
  | .sift c b => (fun v => x.1 v ∧ c.test (x.2 * v) b = true, x.2)
def sem (ss : List Stg) : Sem := ss.foldl Sem.step (fun _ => True, 1)
theorem sem_snoc (ss : List Stg) (s : Stg) : sem (ss ++ [s]) = (sem ss).step s := by
  unfold sem
  rw [List.foldl_append]
  rfl
/-- a stage that the law draws -/
def Stg.ok : Stg → Prop
  | .scale k => k.natAbs ≤ 1000
  | .sift _ _ => True
theorem sem_bound : ∀ (n : Nat) (ss : List Stg), ss.length = n → (∀ s ∈ ss, s.ok) → (sem ss).2.natAbs ≤ 1000 ^ n
  | 0, ss, h, _ => by
    have : ss = [] := List.length_eq_zero_iff.mp h
    subst this
    decide
  | n + 1, ss, h, ok => by
    obtain ⟨r, s, rfl⟩ : ∃ r s, ss = r ++ [s] := ⟨ss.dropLast, ss.getLast (by intro q; rw [q] at h; simp at h), (List.dropLast_concat_getLast _).symm⟩
    rw [List.length_append, List.length_singleton] at h
    have ih := sem_bound n r (by omega) fun x hx => ok x (List.mem_append_left _ hx)
    have h2 := ok s (List.mem_append_right _ (List.mem_singleton_self _))
    rw [sem_snoc]
    cases s with
    | scale k =>
      show ((sem r).2 * k).natAbs ≤ _
      rw [Int.natAbs_mul, Nat.pow_succ]
      exact Nat.mul_le_mul ih h2
    | sift c b =>
      show (sem r).2.natAbs ≤ _
      rw [Nat.pow_succ]
      omega

/-! ### runs -/
def IsTop (mem : Int → Prop) (v : Int) : Option Int → Prop
  | some t => v ≤ t ∧ (∀ j, v ≤ j → j ≤ t → (mem j ↔ mem v)) ∧ ¬ (mem (t + 1) ↔ mem v)
  | none => ∀ j, v ≤ j → (mem j ↔ mem v)
def IsBot (mem : Int → Prop) (v : Int) : Option Int → Prop
  | some t => t ≤ v ∧ (∀ j, t ≤ j → j ≤ v → (mem j ↔ mem v)) ∧ ¬ (mem (t - 1) ↔ mem v)
  | none => ∀ j, j ≤ v → (mem j ↔ mem v)
theorem isTop_uniq {mem : Int → Prop} {v : Int} {o o' : Option Int} (a : IsTop mem v o) (b : IsTop mem v o') : o = o' := by
  cases o with
  | none =>
    cases o' with
    | none => rfl
    | some t => exact absurd (a (t + 1) (by have := b.1; omega)) b.2.2
  | some s =>
    cases o' with
    | none => exact absurd (b (s + 1) (by have := a.1; omega)) a.2.2
    | some t =>
      have h1 : ¬ s < t := fun h => a.2.2 (b.2.1 (s + 1) (by have := a.1; omega) (by omega))
      have h2 : ¬ t < s := fun h => b.2.2 (a.2.1 (t + 1) (by have := b.1; omega) (by omega))
      have : s = t := by omega
      rw [this]
theorem isBot_iff {mem : Int → Prop} {v : Int} {o : Option Int} : IsBot mem v o ↔ IsTop (fun j => mem (-j)) (-v) (o.map fun x => -x) := by
  cases o with
  | none =>
    constructor
    · intro h j hj
      show mem (-j) ↔ mem (- -v)
      rw [Int.neg_neg]
      exact h (-j) (by omega)
    · intro h j hj
      have := h (-j) (by omega)
      simp only [Int.neg_neg] at this
      exact this
  | some t =>
    show (t ≤ v ∧ (∀ j, t ≤ j → j ≤ v → (mem j ↔ mem v)) ∧ ¬ (mem (t - 1) ↔ mem v)) ↔ (-v ≤ -t ∧ (∀ j, -v ≤ j → j ≤ -t → (mem (-j) ↔ mem (- -v))) ∧ ¬ (mem (-(-t + 1)) ↔ mem (- -v)))
    rw [Int.neg_neg, show -(-t + 1) = t - 1 by omega]
    constructor
    · rintro ⟨h1, h2, h3⟩
      exact ⟨by omega, fun j a b => h2 (-j) (by omega) (by omega), h3⟩
    · rintro ⟨h1, h2, h3⟩
      refine ⟨by omega, fun j a b => ?_, h3⟩
      have := h2 (-j) (by omega) (by omega)
      rw [Int.neg_neg] at this
      exact this
theorem isBot_uniq {mem : Int → Prop} {v : Int} {o o' : Option Int} (a : IsBot mem v o) (b : IsBot mem v o') : o = o' := by
  have e := isTop_uniq (isBot_iff.mp a) (isBot_iff.mp b)
  cases o <;> cases o' <;> simp at e ⊢
  omega
theorem isTop_of_neg {mem : Int → Prop} {v : Int} {o : Option Int} (h : IsTop mem v o) : IsBot (fun j => mem (-j)) (-v) (o.map (- ·)) := by
  rw [isBot_iff]
  simp only [Int.neg_neg, Option.map_map]
  cases o with
  | none => exact h
  | some t =>
    have e : (- -t : Int) = t := Int.neg_neg t
    show IsTop (fun j => mem j) v (some (- -t))
    rw [e]
    exact h

section
variable {s : Sh} {v : Int}
/-- the tops, as both programs find them -/
theorem top_in {a : Int} (c : Canon s) (m : s.mem v) (ha : a ∈ s.holes) (hv : v < a) (hl : ∀ h ∈ s.holes, v < h → a ≤ h) : IsTop s.mem v (some (a - 1)) := by
  refine ⟨by omega, fun j h1 h2 => ⟨fun _ => m, fun _ => ⟨fun l e => ?_, fun u e => ?_, fun q => ?_⟩⟩, fun e => ?_⟩
  · have := m.1 l e
    omega
  · have := c.hi a ha u e
    omega
  · by_cases z : j = v
    · exact m.2.2 (z ▸ q)
    · have := hl j q (by omega)
      omega
  · rw [show a - 1 + 1 = a by omega] at e
    exact (e.mpr m).2.2 ha
theorem top_in_high (m : s.mem v) (hl : ∀ h ∈ s.holes, ¬ v < h) : IsTop s.mem v s.high := by
  have key : ∀ j, v ≤ j → (∀ u, s.high = some u → j ≤ u) → s.mem j := fun j h1 h2 => ⟨fun l e => by
      have := m.1 l e
      omega, h2, fun q => by
      by_cases z : j = v
      · exact m.2.2 (z ▸ q)
      · exact hl j q (by omega)⟩
  cases hu : s.high with
  | none => exact fun j h1 => ⟨fun _ => m, fun _ => key j h1 fun u e => by rw [hu] at e; cases e⟩
  | some u =>
    refine ⟨m.2.1 u hu, fun j h1 h2 => ⟨fun _ => m, fun _ => key j h1 fun u' e => by rw [hu] at e; cases e; exact h2⟩, fun e => ?_⟩
    have := (e.mpr m).2.1 u hu
    omega
theorem top_low {l : Int} (c : Canon s) (e : s.low = some l) (h : v < l) : IsTop s.mem v (some (l - 1)) := by
  have nv : ¬ s.mem v := fun m => by
    have := m.1 l e
    omega
  refine ⟨by omega, fun j h1 h2 => ⟨fun m => ?_, fun m => absurd m nv⟩, fun q => ?_⟩
  · have := m.1 l e
    omega
  · rw [show l - 1 + 1 = l by omega] at q
    exact nv (q.mp (c.low_mem e))
theorem top_high {u : Int} (e : s.high = some u) (h : u < v) : IsTop s.mem v none := fun j hj =>
  ⟨fun m => by
    have := m.2.1 u e
    omega, fun m => by
    have := m.2.1 u e
    omega⟩
theorem top_hole {r : Int} (c : Canon s) (hv : v ∈ s.holes) (h : Up s.holes v r) (hr : r ∉ s.holes) : IsTop s.mem v (some (r - 1)) := by
  have nv : ¬ s.mem v := fun m => m.2.2 hv
  have hne : r ≠ v := fun q => hr (q ▸ hv)
  have h1 := h.1
  refine ⟨by omega, fun j a b => ⟨fun m => absurd (h.2 j a (by omega)) m.2.2, fun m => absurd m nv⟩, fun q => ?_⟩
  rw [show r - 1 + 1 = r by omega] at q
  refine nv (q.mp ⟨fun l e => ?_, fun u e => ?_, hr⟩)
  · have := c.lo v hv l e
    omega
  · have := c.hi (r - 1) (h.2 _ (by omega) (by omega)) u e
    omega
theorem bot_in {a : Int} (c : Canon s) (m : s.mem v) (ha : a ∈ s.holes) (hv : a < v) (hl : ∀ h ∈ s.holes, h < v → h ≤ a) : IsBot s.mem v (some (a + 1)) := by
  refine ⟨by omega, fun j h1 h2 => ⟨fun _ => m, fun _ => ⟨fun l e => ?_, fun u e => ?_, fun q => ?_⟩⟩, fun e => ?_⟩
  · have := c.lo a ha l e
    omega
  · have := m.2.1 u e
    omega
  · by_cases z : j = v
    · exact m.2.2 (z ▸ q)
    · have := hl j q (by omega)
      omega
  · rw [show a + 1 - 1 = a by omega] at e
    exact (e.mpr m).2.2 ha
theorem bot_in_low (m : s.mem v) (hl : ∀ h ∈ s.holes, ¬ h < v) : IsBot s.mem v s.low := by
  have key : ∀ j, j ≤ v → (∀ l, s.low = some l → l ≤ j) → s.mem j := fun j h1 h2 => ⟨h2, fun u e => by
      have := m.2.1 u e
      omega, fun q => by
      by_cases z : j = v
      · exact m.2.2 (z ▸ q)
      · exact hl j q (by omega)⟩
  cases hu : s.low with
  | none => exact fun j h1 => ⟨fun _ => m, fun _ => key j h1 fun u e => by rw [hu] at e; cases e⟩
  | some l =>
    refine ⟨m.1 l hu, fun j h1 h2 => ⟨fun _ => m, fun _ => key j h2 fun u' e => by rw [hu] at e; cases e; exact h1⟩, fun e => ?_⟩
    have := (e.mpr m).1 l hu
    omega
theorem bot_high {u : Int} (c : Canon s) (e : s.high = some u) (h : u < v) : IsBot s.mem v (some (u + 1)) := by
  have nv : ¬ s.mem v := fun m => by
    have := m.2.1 u e
    omega
  refine ⟨by omega, fun j h1 h2 => ⟨fun m => ?_, fun m => absurd m nv⟩, fun q => ?_⟩
  · have := m.2.1 u e
    omega
  · rw [show u + 1 - 1 = u by omega] at q
    exact nv (q.mp (c.high_mem e))
theorem bot_low {l : Int} (e : s.low = some l) (h : v < l) : IsBot s.mem v none := fun j hj =>
  ⟨fun m => by
    have := m.1 l e
    omega, fun m => by
    have := m.1 l e
    omega⟩
theorem bot_hole {r : Int} (c : Canon s) (hv : v ∈ s.holes) (h : Down s.holes v r) (hr : r ∉ s.holes) : IsBot s.mem v (some (r + 1)) := by
  have nv : ¬ s.mem v := fun m => m.2.2 hv
  have hne : r ≠ v := fun q => hr (q ▸ hv)
  have h1 := h.1
  refine ⟨by omega, fun j a b => ⟨fun m => absurd (h.2 j (by omega) b) m.2.2, fun m => absurd m nv⟩, fun q => ?_⟩
  rw [show r + 1 - 1 = r by omega] at q
  refine nv (q.mp ⟨fun l e => ?_, fun u e => ?_, hr⟩)
  · have := c.lo (r + 1) (h.2 _ (by omega) (by omega)) l e
    omega
  · have := c.hi v hv u e
    omega
/-- neither shown nor beyond a bound: a hole -/
theorem hole_of (m : ¬ s.mem v) (hl : ∀ l, s.low = some l → ¬ v < l) (hu : ∀ u, s.high = some u → ¬ u < v) : v ∈ s.holes := by
  apply Decidable.byContradiction
  intro h
  exact m ⟨fun l e => by have := hl l e; omega, fun u e => by have := hu u e; omega, h⟩
end

/-! ### turned round -/
def Sh.turn (s : Sh) : Sh := ⟨s.high.map (- ·), s.low.map (- ·), (s.holes.map (- ·)).reverse, s.f⟩
theorem mem_negs {xs : List Int} {v : Int} : v ∈ (xs.map (- ·)).reverse ↔ -v ∈ xs := by
  rw [List.mem_reverse, List.mem_map]
  constructor
  · rintro ⟨a, h, rfl⟩
    rw [Int.neg_neg]
    exact h
  · intro h
    exact ⟨-v, h, Int.neg_neg v⟩
theorem map_neg_some {o : Option Int} {x : Int} : o.map (- ·) = some x ↔ o = some (-x) := by
  cases o with
  | none => simp
  | some y =>
    simp only [Option.map_some, Option.some.injEq]
    omega
theorem turn_mem (s : Sh) (v : Int) : s.turn.mem v ↔ s.mem (-v) := by
  show Mem _ _ _ _ ↔ Mem _ _ _ _
  unfold Mem
  constructor
  · rintro ⟨a, b, c⟩
    refine ⟨fun l e => ?_, fun u e => ?_, fun m => c (mem_negs.mpr m)⟩
    · have := b (-l) (map_neg_some.mpr (by rw [Int.neg_neg]; exact e))
      omega
    · have := a (-u) (map_neg_some.mpr (by rw [Int.neg_neg]; exact e))
      omega
  · rintro ⟨a, b, c⟩
    refine ⟨fun l e => ?_, fun u e => ?_, fun m => c (mem_negs.mp m)⟩
    · have := b (-l) (map_neg_some.mp e)
      omega
    · have := a (-u) (map_neg_some.mp e)
      omega
theorem turn_canon {s : Sh} (c : Canon s) : Canon s.turn where
  asc := by
    show ((s.holes.map (- ·)).reverse).Pairwise (· < ·)
    rw [List.pairwise_reverse, List.pairwise_map]
    exact c.asc.imp fun h => by omega
  lo := fun h m l e => by
    have := c.hi (-h) (mem_negs.mp m) (-l) (map_neg_some.mp e)
    omega
  hi := fun h m u e => by
    have := c.lo (-h) (mem_negs.mp m) (-u) (map_neg_some.mp e)
    omega
  ne := fun l u e1 e2 => by
    have := c.ne (-u) (-l) (map_neg_some.mp e2) (map_neg_some.mp e1)
    omega

/-! ### classes -/
def ClsA (mem : Int → Prop) (f v : Int) (o : Option Int) : Prop :=
  (mem v ∧ f ≠ 0 ∧ o = some v) ∨ (¬ (mem v ∧ f ≠ 0) ∧ ∃ t, IsTop mem v t ∧ (((t ≠ none ∨ ¬ mem v) ∧ o = t) ∨ (t = none ∧ mem v ∧ ∃ b, IsBot mem v b ∧ o = some (b.getD 0))))
theorem clsA_uniq {mem : Int → Prop} {f v : Int} {o o' : Option Int} (a : ClsA mem f v o) (b : ClsA mem f v o') : o = o' := by
  rcases a with ⟨a1, a2, rfl⟩ | ⟨a1, t, ht, a2⟩
  · rcases b with ⟨_, _, rfl⟩ | ⟨b1, _⟩
    · rfl
    · exact absurd ⟨a1, a2⟩ b1
  · rcases b with ⟨b1, b2, rfl⟩ | ⟨_, t', ht', b2⟩
    · exact absurd ⟨b1, b2⟩ a1
    · have e := isTop_uniq ht ht'
      subst e
      rcases a2 with ⟨h1, rfl⟩ | ⟨h1, h2, b, hb, rfl⟩
      · rcases b2 with ⟨_, rfl⟩ | ⟨h3, h4, _⟩
        · rfl
        · rcases h1 with h1 | h1
          · exact absurd h3 h1
          · exact absurd h4 h1
      · rcases b2 with ⟨h3, rfl⟩ | ⟨_, _, b', hb', rfl⟩
        · rcases h3 with h3 | h3
          · exact absurd h1 h3
          · exact absurd h2 h3
        · rw [isBot_uniq hb hb']
def ClsB (mem : Int → Prop) (f v : Int) (o : Option Int) : Prop := ClsA (fun j => mem (-j)) f (-v) (o.map (- ·))
theorem clsB_uniq {mem : Int → Prop} {f v : Int} {o o' : Option Int} (a : ClsB mem f v o) (b : ClsB mem f v o') : o = o' := by
  have e := clsA_uniq a b
  cases o <;> cases o' <;> simp at e ⊢
  omega
theorem clsA_congr {mem mem' : Int → Prop} {f v : Int} {o : Option Int} (h : ∀ j, mem j ↔ mem' j) (a : ClsA mem f v o) : ClsA mem' f v o := by
  have e : mem = mem' := funext fun j => propext (h j)
  rw [← e]
  exact a

/-! ### tokens and limits -/
def IsTok (mem : Int → Prop) (r : Int) : Prop := mem r ∧ ∀ v, mem v → r.natAbs < v.natAbs ∨ (r.natAbs = v.natAbs ∧ v ≤ r)
theorem isTok_uniq {mem : Int → Prop} {r r' : Int} (a : IsTok mem r) (b : IsTok mem r') : r = r' := by
  have h1 := a.2 r' b.1
  have h2 := b.2 r a.1
  omega
def IsLim (s : Sh) (o : Option Int) : Prop :=
  match s.high with
  | some u => o = some (if 1 ≤ u then u + 1 else 0)
  | none => (s.f ≠ 0 ∧ o = none) ∨ (s.f = 0 ∧ ∃ m : Int, o = some (m + 1) ∧ 0 ≤ m ∧ (∀ l, s.low = some l → l - 1 ≤ m) ∧ (∀ h ∈ s.holes, h ≤ m) ∧ (m = 0 ∨ (∃ l, s.low = some l ∧ m = l - 1) ∨ m ∈ s.holes))
theorem isLim_uniq {s : Sh} {o o' : Option Int} (a : IsLim s o) (b : IsLim s o') : o = o' := by
  unfold IsLim at a b
  cases hs : s.high with
  | some u =>
    rw [hs] at a b
    exact Eq.trans a (Eq.symm b)
  | none =>
    rw [hs] at a b
    simp only at a b
    rcases a with ⟨a1, rfl⟩ | ⟨a1, m, rfl, a2, a3, a4, a5⟩
    · rcases b with ⟨_, rfl⟩ | ⟨b1, _⟩
      · rfl
      · exact absurd b1 a1
    · rcases b with ⟨b1, _⟩ | ⟨_, n, rfl, b2, b3, b4, b5⟩
      · exact absurd a1 b1
      · have h1 : m ≤ n := by
          rcases a5 with e | ⟨l, e1, e2⟩ | e
          · omega
          · have := b3 l e1
            omega
          · exact b4 m e
        have h2 : n ≤ m := by
          rcases b5 with e | ⟨l, e1, e2⟩ | e
          · omega
          · have := a3 l e1
            omega
          · exact a4 n e
        have : m = n := by omega
        rw [this]

/-! ### tokens, found from both sides -/
section
variable {s : Sh} {up down : Int}
def upFrom (low : Option Int) : Int := match low with
  | none => 0
  | some l => max 0 l
def downFrom (high : Option Int) : Int := match high with
  | none => 0
  | some u => min 0 u
theorem upFrom_le {low : Option Int} {v : Int} (h : 0 ≤ v) (hl : ∀ l, low = some l → l ≤ v) : upFrom low ≤ v := by
  cases low with
  | none => exact h
  | some l =>
    have := hl l rfl
    show max 0 l ≤ v
    omega
theorem le_upFrom {low : Option Int} : 0 ≤ upFrom low ∧ ∀ l, low = some l → l ≤ upFrom low := by
  cases low with
  | none => exact ⟨Int.le_refl _, fun l e => (nomatch e)⟩
  | some l =>
    show 0 ≤ max 0 l ∧ _
    exact ⟨by omega, fun l' e => by cases e; show l ≤ max 0 l; omega⟩
theorem le_downFrom {high : Option Int} {v : Int} (h : v ≤ 0) (hl : ∀ u, high = some u → v ≤ u) : v ≤ downFrom high := by
  cases high with
  | none => exact h
  | some l =>
    have := hl l rfl
    show v ≤ min 0 l
    omega
theorem downFrom_le {high : Option Int} : downFrom high ≤ 0 ∧ ∀ u, high = some u → downFrom high ≤ u := by
  cases high with
  | none => exact ⟨Int.le_refl _, fun l e => (nomatch e)⟩
  | some l =>
    show min 0 l ≤ 0 ∧ _
    exact ⟨by omega, fun l' e => by cases e; show min 0 l ≤ l; omega⟩
theorem up_least (h : Up s.holes (upFrom s.low) up) {v : Int} (m : s.mem v) (h0 : 0 ≤ v) : up ≤ v := by
  apply Decidable.byContradiction
  intro q
  exact m.2.2 (h.2 v (upFrom_le h0 m.1) (by omega))
theorem down_most (h : Down s.holes (downFrom s.high) down) {v : Int} (m : s.mem v) (h0 : v ≤ 0) : v ≤ down := by
  apply Decidable.byContradiction
  intro q
  exact m.2.2 (h.2 v (by omega) (le_downFrom h0 m.2.1))
theorem up_mem (h : Up s.holes (upFrom s.low) up) (n : up ∉ s.holes) (hu : ∀ u, s.high = some u → up ≤ u) : s.mem up :=
  ⟨fun l e => by
    have := le_upFrom.2 l e
    have := h.1
    omega, hu, n⟩
theorem down_mem (h : Down s.holes (downFrom s.high) down) (n : down ∉ s.holes) (hl : ∀ l, s.low = some l → l ≤ down) : s.mem down :=
  ⟨hl, fun l e => by
    have := downFrom_le.2 l e
    have := h.1
    omega, n⟩
theorem tok_down (c : Canon s) (h : Up s.holes (upFrom s.low) up) (d : Down s.holes (downFrom s.high) down) (nd : down ∉ s.holes) {u : Int} (e : s.high = some u) (q : u < up) : IsTok s.mem down := by
  have neg : ∀ v, s.mem v → v < 0 := fun v m => by
    apply Decidable.byContradiction
    intro z
    have := up_least h m (by omega)
    have := m.2.1 u e
    omega
  refine ⟨down_mem d nd fun l el => ?_, fun v m => ?_⟩
  · obtain ⟨v, m⟩ := c.some_mem
    have := neg v m
    have := down_most d m (by omega)
    have := m.1 l el
    omega
  · have := neg v m
    have := down_most d m (by omega)
    have := d.1
    have := (downFrom_le (high := s.high)).1
    omega
theorem tok_up (h : Up s.holes (upFrom s.low) up) (nu : up ∉ s.holes) (d : Down s.holes (downFrom s.high) down) (hu : ∀ u, s.high = some u → up ≤ u) {l : Int} (e : s.low = some l) (q : down < l) : IsTok s.mem up := by
  have pos : ∀ v, s.mem v → 0 < v := fun v m => by
    apply Decidable.byContradiction
    intro z
    have := down_most d m (by omega)
    have := m.1 l e
    omega
  refine ⟨up_mem h nu hu, fun v m => ?_⟩
  have := pos v m
  have := up_least h m (by omega)
  have := h.1
  have := (le_upFrom (low := s.low)).1
  omega
theorem tok_both (h : Up s.holes (upFrom s.low) up) (nu : up ∉ s.holes) (d : Down s.holes (downFrom s.high) down) (nd : down ∉ s.holes) (hu : ∀ u, s.high = some u → up ≤ u) (hl : ∀ l, s.low = some l → l ≤ down) :
    (up ≤ -down → IsTok s.mem up) ∧ (¬ up ≤ -down → IsTok s.mem down) := by
  have h1 := h.1
  have h2 := (le_upFrom (low := s.low)).1
  have d1 := d.1
  have d2 := (downFrom_le (high := s.high)).1
  refine ⟨fun q => ⟨up_mem h nu hu, fun v m => ?_⟩, fun q => ⟨down_mem d nd hl, fun v m => ?_⟩⟩
  · rcases Int.le_total 0 v with z | z
    · have := up_least h m z
      omega
    · have := down_most d m z
      omega
  · rcases Int.le_total 0 v with z | z
    · have := up_least h m z
      omega
    · have := down_most d m z
      omega
end
/-! ### the class of a value by its run's ends -/
def clsOf (f : Int) (m : Bool) (v : Int) (t b : Option Int) : Option Int :=
  if m = true ∧ f ≠ 0 then some v else match t with
    | some x => some x
    | none => if m = true then some (b.getD 0) else none
theorem clsA_of {mem : Int → Prop} {f v : Int} {t b : Option Int} {m : Bool} (hm : m = true ↔ mem v) (ht : IsTop mem v t) (hb : IsBot mem v b) : ClsA mem f v (clsOf f m v t b) := by
  unfold clsOf
  by_cases h : m = true ∧ f ≠ 0
  · rw [if_pos h]
    exact .inl ⟨hm.mp h.1, h.2, rfl⟩
  · rw [if_neg h]
    refine .inr ⟨fun z => h ⟨hm.mpr z.1, z.2⟩, t, ht, ?_⟩
    cases t with
    | some x => exact .inl ⟨.inl (by simp), rfl⟩
    | none =>
      by_cases q : m = true
      · rw [if_pos q]
        exact .inr ⟨rfl, hm.mp q, b, hb, rfl⟩
      · rw [if_neg q]
        exact .inl ⟨.inr fun z => q (hm.mpr z), rfl⟩
theorem clsB_of {mem : Int → Prop} {f v : Int} {t b : Option Int} {m : Bool} (hm : m = true ↔ mem v) (ht : IsTop mem v t) (hb : IsBot mem v b) : ClsB mem f v (clsOf f m v b t) := by
  have e : (clsOf f m v b t).map (- ·) = clsOf f m (-v) (b.map (- ·)) (t.map (- ·)) := by
    unfold clsOf
    split
    · rfl
    · cases b with
      | some x => rfl
      | none =>
        show Option.map _ (if m = true then _ else _) = (if m = true then some ((t.map (- ·)).getD 0) else none)
        split
        · cases t <;> rfl
        · rfl
  unfold ClsB
  rw [e]
  refine clsA_of ?_ (isBot_iff.mp hb) (isTop_of_neg ht)
  rw [Int.neg_neg]
  exact hm
end TF
/-! A small calculus over the readings: what is evaluated, in any heap that extends a given one. -/
namespace TF
open PySem PySem.Spec PyProof.Rows L2

/-! ### the text -/
def topS (i : Nat) : Stmt := PySem.Challenge.pw_tidefold_k70_great_bounds_and_several_ho.main.body.getD i (.Pass ⟨0, 0, 0, 0⟩)

/-! ### heaps -/
theorem same_new {H : Hp} {p : Addr} {o : HO} (h : H p = none) : Same H (upd H p o) := fun b x e => by
  rw [upd_ne (ne_of_none e h)]
  exact e
theorem same_rd {H H' : Hp} {a : Addr} {u : HO} (e : Same H H') (h : Rd H a u) : Rd H' a u := by
  rcases h with h | ⟨o, h⟩
  · exact .inl (e _ _ h)
  · exact .inr ⟨o, e _ _ h⟩
theorem same_t {K : PySem.W.Frag} {H H' : Hp} {a : Addr} {xs : List V} (e : Same H H') (h : SqT K H a xs) : SqT K H' a xs := by
  rcases h with h | h
  · exact .inl (same_rd e h)
  · exact .inr h
theorem same_l {K : PySem.W.Frag} {H H' : Hp} {a : Addr} {xs : List V} (e : Same H H') (h : SqL K H a xs) : SqL K H' a xs := e.seq h
theorem sz1000 {n : Nat} (h : n ≤ 1000) : n ≤ sizeLine := Nat.le_of_lt (small1000 h)

/-! ### what evaluates to what -/
def Ev (te : TE) (σ : L2.St) (H : Hp) (v : V) : Prop := ∀ H1, Same H H1 → ∀ Q : VK, (∀ H2, Same H1 H2 → Q v H2) → te σ H1 Q
def EvR (te : TE) (σ : L2.St) (H : Hp) (R : V → Hp → Prop) : Prop := ∀ H1, Same H H1 → ∀ Q : VK, (∀ v H2, Same H1 H2 → R v H2 → Q v H2) → te σ H1 Q
def EvT (tt : TT) (σ : L2.St) (H : Hp) (b : Bool) : Prop := ∀ H1, Same H H1 → ∀ Q : Bool → Hp → Prop, (∀ H2, Same H1 H2 → Q b H2) → tt σ H1 Q
def EvA (ta : TA) (σ : L2.St) (H : Hp) (vs : List V) : Prop := ∀ H1, Same H H1 → ∀ Q : List V → Hp → Prop, (∀ H2, Same H1 H2 → Q vs H2) → ta σ H1 Q
def EvAR (ta : TA) (σ : L2.St) (H : Hp) (R : List V → Hp → Prop) : Prop := ∀ H1, Same H H1 → ∀ Q : List V → Hp → Prop, (∀ vs H2, Same H1 H2 → R vs H2 → Q vs H2) → ta σ H1 Q
/-- operations on values -/
def RV (r : R2) (x y : V) (H : Hp) (z : V) : Prop := ∀ H1, Same H H1 → ∀ Q : VK, Q z H1 → r x y H1 Q
def RU (r : V → Hp → VK → Prop) (x : V) (H : Hp) (z : V) : Prop := ∀ H1, Same H H1 → ∀ Q : VK, Q z H1 → r x H1 Q
def RC (r : List V → Hp → VK → Prop) (vs : List V) (H : Hp) (z : V) : Prop := ∀ H1, Same H H1 → ∀ Q : VK, Q z H1 → r vs H1 Q
def SpV (sp : Sp) (vs : List V) (H : Hp) (z : V) : Prop := ∀ H1, Same H H1 → ∀ Q : VK, (∀ H2, Same H1 H2 → Q z H2) → sp vs H1 Q E0
def SpR (sp : Sp) (vs : List V) (H : Hp) (R : V → Hp → Prop) : Prop := ∀ H1, Same H H1 → ∀ Q : VK, (∀ v H2, Same H1 H2 → R v H2 → Q v H2) → sp vs H1 Q E0
section
variable {K : PySem.W.Frag} {σ : L2.St} {H H' : Hp} {ta tb te tx : TE} {t u : TT} {x y z v w : V} {r : R2} {R R' : V → Hp → Prop}
theorem Ev.mono (e : Same H H') (h : Ev te σ H v) : Ev te σ H' v := fun H1 a Q q => h H1 (e.trans a) Q q
theorem EvR.mono (e : Same H H') (h : EvR te σ H R) : EvR te σ H' R := fun H1 a Q q => h H1 (e.trans a) Q q
theorem EvT.mono {b : Bool} (e : Same H H') (h : EvT t σ H b) : EvT t σ H' b := fun H1 a Q q => h H1 (e.trans a) Q q
theorem EvT.to {b b' : Bool} (h : EvT t σ H b) (e : b = b') : EvT t σ H b' := e ▸ h
theorem Ev.to (h : Ev te σ H v) (e : v = w) : Ev te σ H w := e ▸ h
theorem evr_of (h : Ev te σ H v) (k : ∀ H1, Same H H1 → R v H1) : EvR te σ H R := fun H1 e Q q => h H1 e Q fun H2 e2 => q v H2 e2 (k H2 (e.trans e2))
theorem evr_imp (h : EvR te σ H R) (k : ∀ v H1, Same H H1 → R v H1 → R' v H1) : EvR te σ H R' := fun H1 e Q q => h H1 e Q fun v H2 e2 r => q v H2 e2 (k v H2 (e.trans e2) r)
theorem ev_var {i : Nat} (h : σ[i]? = some (some v)) : Ev (tVar i) σ H v := fun H1 _ _ q => ⟨v, h, q H1 (Same.refl H1)⟩
theorem ev_c : Ev (tC v) σ H v := fun H1 _ _ q => q H1 (Same.refl H1)
theorem ev_op (ha : Ev ta σ H x) (hb : Ev tb σ H y) (hr : RV r x y H z) : Ev (tOp r ta tb) σ H z := fun H1 e Q q =>
  ha H1 e _ fun H2 e2 => hb H2 (e.trans e2) _ fun H3 e3 => hr H3 ((e.trans e2).trans e3) Q (q H3 (e2.trans e3))
theorem et_yes : EvT tYes σ H true := fun H1 _ _ q => q H1 (Same.refl H1)
theorem evr_opI {g : Int → Int → V} {j : Int} {Pr : Int → Prop} (ha : EvR ta σ H (fun x _ => ∃ r, x = .int r ∧ Pr r)) (hb : Ev tb σ H (.int j)) : EvR (tOp (rI0 g) ta tb) σ H (fun x _ => ∃ r, x = g r j ∧ Pr r) := fun H1 e Q q =>
  ha H1 e _ fun x H2 e2 ⟨r, ex, p⟩ => hb H2 (e.trans e2) _ fun H3 e3 => ⟨r, j, ex, rfl, q _ H3 (e2.trans e3) ⟨r, rfl, p⟩⟩
theorem ev_un {r : V → Hp → VK → Prop} (ha : Ev ta σ H x) (hr : RU r x H z) : Ev (tUn r ta) σ H z := fun H1 e Q q =>
  ha H1 e _ fun H2 e2 => hr H2 (e.trans e2) Q (q H2 e2)
theorem ev_ift (h : EvT t σ H true) (h1 : Ev ta σ H v) : Ev (tIf t ta tb) σ H v := fun H1 e Q q => h H1 e _ fun H2 e2 => by
  show ta σ H2 Q
  exact h1 H2 (e.trans e2) Q fun H3 e3 => q H3 (e2.trans e3)
theorem ev_iff (h : EvT t σ H false) (h1 : Ev tb σ H v) : Ev (tIf t ta tb) σ H v := fun H1 e Q q => h H1 e _ fun H2 e2 => by
  show tb σ H2 Q
  exact h1 H2 (e.trans e2) Q fun H3 e3 => q H3 (e2.trans e3)
theorem ev_if {b : Bool} (h : EvT t σ H b) (h1 : b = true → Ev ta σ H v) (h2 : b = false → Ev tb σ H v) : Ev (tIf t ta tb) σ H v := by
  cases b with
  | true => exact ev_ift h (h1 rfl)
  | false => exact ev_iff h (h2 rfl)
theorem evr_if {b : Bool} (h : EvT t σ H b) (h1 : b = true → EvR ta σ H R) (h2 : b = false → EvR tb σ H R) : EvR (tIf t ta tb) σ H R := fun H1 e Q q => h H1 e _ fun H2 e2 => by
  cases b with
  | true =>
    show ta σ H2 Q
    exact h1 rfl H2 (e.trans e2) Q fun v H3 e3 => q v H3 (e2.trans e3)
  | false =>
    show tb σ H2 Q
    exact h2 rfl H2 (e.trans e2) Q fun v H3 e3 => q v H3 (e2.trans e3)
theorem ev_and1 {b c : Bool} (h1 : Ev ta σ H (.bl b)) (h2 : b = true → Ev tb σ H (.bl c)) : Ev (tAndV ta tb) σ H (.bl (b && c)) := fun H1 e Q q => h1 H1 e _ fun H2 e2 => ⟨b, rfl, by
  cases b with
  | true =>
    show tb σ H2 Q
    exact h2 rfl H2 (e.trans e2) Q fun H3 e3 => q H3 (e2.trans e3)
  | false =>
    show Q (.bl false) H2
    exact q H2 e2⟩

/-! ### operations -/
theorem rv_I0 {g : Int → Int → V} {i j : Int} : RV (rI0 g) (.int i) (.int j) H (g i j) := fun H1 _ _ q => ⟨i, j, rfl, rfl, q⟩
theorem rv_I {C : Int → Int → Prop} {g : Int → Int → V} {i j : Int} (hc : C i j) : RV (rI C g) (.int i) (.int j) H (g i j) := fun H1 _ _ q => ⟨i, j, rfl, rfl, hc, q⟩
theorem ru_neg {i : Int} : RU (rU fun i => .int (-i)) (.int i) H (.int (-i)) := fun H1 _ _ q => ⟨i, rfl, q⟩
theorem rv_eqI {i j : Int} : RV rEq (.int i) (.int j) H (.bl (decide (i = j))) := fun H1 _ Q q => ⟨rfl, by
  have e : decide (V.int i = V.int j) = decide (i = j) := decide_eq_decide.mpr ⟨fun h => V.int.inj h, fun h => by rw [h]⟩
  rw [e]
  exact q⟩
theorem rv_neI {i j : Int} : RV rNe (.int i) (.int j) H (.bl (!decide (i = j))) := fun H1 _ Q q => ⟨rfl, by
  have e : decide (V.int i = V.int j) = decide (i = j) := decide_eq_decide.mpr ⟨fun h => V.int.inj h, fun h => by rw [h]⟩
  rw [e]
  exact q⟩
theorem rv_neB {i j : Bool} : RV rNe (.bl i) (.bl j) H (.bl (!decide (i = j))) := fun H1 _ Q q => ⟨rfl, by
  have e : decide (V.bl i = V.bl j) = decide (i = j) := decide_eq_decide.mpr ⟨fun h => V.bl.inj h, fun h => by rw [h]⟩
  rw [e]
  exact q⟩
theorem rv_eqV (h : scal x x = true) : RV rEq x x H (.bl true) := fun H1 _ Q q => ⟨h, by
  rw [decide_eq_true rfl]
  exact q⟩
theorem rv_isN0 : RV (fun x y H Q => y = .non ∧ Q (.bl (decide (x = .non))) H) .non .non H (.bl true) := fun H1 _ Q q => ⟨rfl, q⟩
theorem rv_isNi {i : Int} : RV (fun x y H Q => y = .non ∧ Q (.bl (decide (x = .non))) H) (.int i) .non H (.bl false) := fun H1 _ Q q => ⟨rfl, q⟩
theorem rv_isNr {a : Addr} : RV (fun x y H Q => y = .non ∧ Q (.bl (decide (x = .non))) H) (.ref a) .non H (.bl false) := fun H1 _ Q q => ⟨rfl, q⟩
theorem rv_isNb {b : Bool} : RV (fun x y H Q => y = .non ∧ Q (.bl (decide (x = .non))) H) (.bl b) .non H (.bl false) := fun H1 _ Q q => ⟨rfl, q⟩
theorem rv_isNs {s : Str} : RV (fun x y H Q => y = .non ∧ Q (.bl (decide (x = .non))) H) (.str s) .non H (.bl false) := fun H1 _ Q q => ⟨rfl, q⟩
theorem rv_notN0 : RV (fun x y H Q => y = .non ∧ Q (.bl (!decide (x = .non))) H) .non .non H (.bl false) := fun H1 _ Q q => ⟨rfl, q⟩
theorem rv_notNi {i : Int} : RV (fun x y H Q => y = .non ∧ Q (.bl (!decide (x = .non))) H) (.int i) .non H (.bl true) := fun H1 _ Q q => ⟨rfl, q⟩
theorem rv_notNr {a : Addr} : RV (fun x y H Q => y = .non ∧ Q (.bl (!decide (x = .non))) H) (.ref a) .non H (.bl true) := fun H1 _ Q q => ⟨rfl, q⟩
theorem rv_notNg : RV (fun x y H Q => y = .non ∧ Q (.bl (!decide (x = .non))) H) x .non H (.bl (!decide (x = .non))) := fun H1 _ Q q => ⟨rfl, q⟩
theorem rv_ixT {p : Addr} {xs : List V} {i : Int} (h : SqT K H p xs) (ha : atI xs i = some v) : RV (rIxT K) (.ref p) (.int i) H v := fun H1 e _ q => ⟨p, xs, i, v, rfl, rfl, same_t e h, ha, q⟩
theorem rv_ixL {p : Addr} {xs : List V} {i : Int} (h : SqL K H p xs) (ha : atI xs i = some v) : RV (rIxL K) (.ref p) (.int i) H v := fun H1 e _ q => ⟨p, xs, i, v, rfl, rfl, same_l e h, ha, q⟩

/-! ### in -/
theorem flat_ints : ∀ xs : List Int, (xs.map V.int).all flatV = true
  | [] => rfl
  | x :: r => by
    rw [List.map_cons, List.all_cons, flat_ints r]
    rfl
theorem eqV_int {a b : Int} : eqV (.int a) (.int b) = decide (a = b) := by
  show (a == b) = decide (a = b)
  by_cases h : a = b
  · subst h
    simp
  · simp [h]
theorem inV_int {v : Int} : ∀ {xs : List Int}, inV (.int v) (xs.map V.int) = decide (v ∈ xs)
  | [] => by simp [inV]
  | x :: r => by
    have ih := inV_int (v := v) (xs := r)
    unfold inV at ih ⊢
    rw [List.map_cons, List.any_cons, ih, eqV_int]
    by_cases h : x = v
    · subst h
      simp
    · have h' : ¬ v = x := fun q => h q.symm
      simp [h, h']
theorem rv_inT {i : Int} {p : Addr} {xs : List Int} (h : SqT K H p (xs.map V.int)) : RV (rIn K false) (.int i) (.ref p) H (.bl (decide (i ∈ xs))) := fun H1 e Q q =>
  ⟨p, xs.map V.int, rfl, .inr (same_t e h), rfl, flat_ints xs, by
    show Q (.bl (inV (.int i) (xs.map V.int))) H1
    rw [inV_int]
    exact q⟩
theorem rv_inL {i : Int} {p : Addr} {xs : List Int} (h : SqL K H p (xs.map V.int)) : RV (rIn K false) (.int i) (.ref p) H (.bl (decide (i ∈ xs))) := fun H1 e Q q =>
  ⟨p, xs.map V.int, rfl, .inl (same_l e h), rfl, flat_ints xs, by
    show Q (.bl (inV (.int i) (xs.map V.int))) H1
    rw [inV_int]
    exact q⟩
theorem rv_niT {i : Int} {p : Addr} {xs : List Int} (h : SqT K H p (xs.map V.int)) : RV (rIn K true) (.int i) (.ref p) H (.bl (!decide (i ∈ xs))) := fun H1 e Q q =>
  ⟨p, xs.map V.int, rfl, .inr (same_t e h), rfl, flat_ints xs, by
    show Q (.bl (!inV (.int i) (xs.map V.int))) H1
    rw [inV_int]
    exact q⟩
theorem rv_niL {i : Int} {p : Addr} {xs : List Int} (h : SqL K H p (xs.map V.int)) : RV (rIn K true) (.int i) (.ref p) H (.bl (!decide (i ∈ xs))) := fun H1 e Q q =>
  ⟨p, xs.map V.int, rfl, .inl (same_l e h), rfl, flat_ints xs, by
    show Q (.bl (!inV (.int i) (xs.map V.int))) H1
    rw [inV_int]
    exact q⟩

/-! ### tests -/
theorem et_test {b : Bool} (h : Ev te σ H (.bl b)) : EvT (tTest te) σ H b := fun H1 e _ q => h H1 e _ fun H2 e2 => ⟨b, rfl, q H2 e2⟩
theorem et_B {b : Bool} (h : Ev te σ H (.bl b)) : EvT (tB te) σ H b := fun H1 e _ q => h H1 e _ fun H2 e2 => ⟨b, rfl, q H2 e2⟩
theorem et_andt {b : Bool} (h1 : EvT t σ H true) (h2 : EvT u σ H b) : EvT (tAnd t u) σ H b := fun H1 e Q q => h1 H1 e _ fun H2 e2 => by
  show u σ H2 Q
  exact h2 H2 (e.trans e2) Q fun H3 e3 => q H3 (e2.trans e3)
theorem et_andf (h1 : EvT t σ H false) : EvT (tAnd t u) σ H false := fun H1 e Q q => h1 H1 e _ fun H2 e2 => by
  show Q false H2
  exact q H2 e2
theorem et_and {a b : Bool} (h1 : EvT t σ H a) (h2 : EvT u σ H b) : EvT (tAnd t u) σ H (a && b) := by
  cases a with
  | true => exact et_andt h1 h2
  | false => exact et_andf h1
theorem et_orf {b : Bool} (h1 : EvT t σ H false) (h2 : EvT u σ H b) : EvT (tOr t u) σ H b := fun H1 e Q q => h1 H1 e _ fun H2 e2 => by
  show u σ H2 Q
  exact h2 H2 (e.trans e2) Q fun H3 e3 => q H3 (e2.trans e3)
theorem et_ort (h1 : EvT t σ H true) : EvT (tOr t u) σ H true := fun H1 e Q q => h1 H1 e _ fun H2 e2 => by
  show Q true H2
  exact q H2 e2
theorem et_or {a b : Bool} (h1 : EvT t σ H a) (h2 : EvT u σ H b) : EvT (tOr t u) σ H (a || b) := by
  cases a with
  | true => exact et_ort h1
  | false => exact et_orf h1 h2
theorem et_not {a : Bool} (h1 : EvT t σ H a) : EvT (tNot t) σ H (!a) := fun H1 e _ q => h1 H1 e _ fun H2 e2 => q H2 e2
theorem et_truL {b : Bool} {p : Addr} {xs : List V} (h : Ev te σ H (.ref p)) (hx : SqL K H p xs) (hb : (!xs.isEmpty) = b) : EvT (fun σ H Q => te σ H fun x H' => ∃ k, TruV K x H' k ∧ Q k H') σ H b := fun H1 e Q q =>
  h H1 e _ fun H2 e2 => ⟨b, .inl ⟨xs, same_l (e.trans e2) hx, hb.symm⟩, q H2 e2⟩
theorem et_truT {b : Bool} {p : Addr} {xs : List V} (h : Ev te σ H (.ref p)) (hx : SqT K H p xs) (hb : (!xs.isEmpty) = b) : EvT (fun σ H Q => te σ H fun x H' => ∃ k, TruV K x H' k ∧ Q k H') σ H b := fun H1 e Q q =>
  h H1 e _ fun H2 e2 => ⟨b, .inr (.inl ⟨xs, same_t (e.trans e2) hx, hb.symm⟩), q H2 e2⟩

/-! ### arguments, displays, calls -/
theorem ea_nil : EvA tNil σ H [] := fun H1 _ _ q => q H1 (Same.refl H1)
theorem ea_cons {tr : TA} {vs : List V} (h : Ev ta σ H x) (hr : EvA tr σ H vs) : EvA (tCons ta tr) σ H (x :: vs) := fun H1 e _ q =>
  h H1 e _ fun H2 e2 => hr H2 (e.trans e2) _ fun H3 e3 => q H3 (e2.trans e3)
theorem ear_of {tr : TA} {vs : List V} {RA : List V → Hp → Prop} (h : EvA tr σ H vs) (k : ∀ H1, Same H H1 → RA vs H1) : EvAR tr σ H RA := fun H1 e Q q =>
  h H1 e Q fun H2 e2 => q vs H2 e2 (k H2 (e.trans e2))
theorem ear_cons {tr : TA} {RA : List V → Hp → Prop} (h : EvR ta σ H R) (hr : ∀ x H1, Same H H1 → R x H1 → EvAR tr σ H1 (fun vs H2 => RA (x :: vs) H2)) : EvAR (tCons ta tr) σ H RA := fun H1 e Q q =>
  h H1 e _ fun x H2 e2 rx => hr x H2 (e.trans e2) rx H2 (Same.refl H2) _ fun vs H3 e3 rv => q (x :: vs) H3 (e2.trans e3) rv
theorem ear_cons1 {tr : TA} {RA : List V → Hp → Prop} (h : Ev ta σ H x) (hr : EvAR tr σ H (fun vs H2 => RA (x :: vs) H2)) : EvAR (tCons ta tr) σ H RA := fun H1 e Q q =>
  h H1 e _ fun H2 e2 => hr H2 (e.trans e2) _ fun vs H3 e3 rv => q (x :: vs) H3 (e2.trans e3) rv
theorem evr_tup {ta : TA} {vs : List V} (h : EvA ta σ H vs) (hl : vs.length ≤ 1000) (k : ∀ p H1, Same H H1 → H1 p = some (.tup vs) → R (.ref p) H1) : EvR (tTup ta) σ H R := fun H1 e Q q =>
  h H1 e _ fun H2 e2 => ⟨sz1000 hl, fun p hp => q _ _ (e2.trans (same_new hp)) (k p _ ((e.trans e2).trans (same_new hp)) upd_same)⟩
theorem evr_tupR {ta : TA} {RA : List V → Hp → Prop} (h : EvAR ta σ H RA) (hl : ∀ vs H1, RA vs H1 → vs.length ≤ 1000) (k : ∀ vs p H1 H2, Same H H1 → Same H1 H2 → RA vs H1 → H2 p = some (.tup vs) → R (.ref p) H2) : EvR (tTup ta) σ H R := fun H1 e Q q =>
  h H1 e _ fun vs H2 e2 rv => ⟨sz1000 (hl vs H2 rv), fun p hp => q _ _ (e2.trans (same_new hp)) (k vs p H2 _ (e.trans e2) (same_new hp) rv upd_same)⟩
theorem evr_lst {ta : TA} {vs : List V} (h : EvA ta σ H vs) (hl : vs.length ≤ 1000) (k : ∀ p H1, Same H H1 → H1 p = some (.lst vs) → R (.ref p) H1) : EvR (tLst ta) σ H R := fun H1 e Q q =>
  h H1 e _ fun H2 e2 => ⟨sz1000 hl, fun p hp => q _ _ (e2.trans (same_new hp)) (k p _ ((e.trans e2).trans (same_new hp)) upd_same)⟩
theorem ev_cb {rc : List V → Hp → VK → Prop} {ta : TA} {vs : List V} (h : EvA ta σ H vs) (hr : RC rc vs H z) : Ev (tCB rc ta) σ H z := fun H1 e Q q =>
  h H1 e _ fun H2 e2 => hr H2 (e.trans e2) Q (q H2 e2)
theorem ev_call {sp : Sp} {ta : TA} {vs : List V} (h : EvA ta σ H vs) (hs : SpV sp vs H z) : Ev (tCall sp [] E0 ta) σ H z := fun H1 e Q q =>
  h H1 e _ fun H2 e2 => by
    show sp (vs ++ []) H2 Q E0
    rw [List.append_nil]
    exact hs H2 (e.trans e2) Q fun H3 e3 => q H3 (e2.trans e3)
theorem evr_call {sp : Sp} {ta : TA} {vs : List V} (h : EvA ta σ H vs) (hs : SpR sp vs H R) : EvR (tCall sp [] E0 ta) σ H R := fun H1 e Q q =>
  h H1 e _ fun H2 e2 => by
    show sp (vs ++ []) H2 Q E0
    rw [List.append_nil]
    exact hs H2 (e.trans e2) Q fun v H3 e3 => q v H3 (e2.trans e3)
theorem evr_callR {sp : Sp} {ta : TA} {RA : List V → Hp → Prop} (h : EvAR ta σ H RA) (hs : ∀ vs H1, Same H H1 → RA vs H1 → SpR sp vs H1 R) : EvR (tCall sp [] E0 ta) σ H R := fun H1 e Q q =>
  h H1 e _ fun vs H2 e2 ra => by
    show sp (vs ++ []) H2 Q E0
    rw [List.append_nil]
    exact hs vs H2 (e.trans e2) ra H2 (Same.refl H2) Q fun v H3 e3 => q v H3 (e2.trans e3)
theorem rc_abs {i : Int} : RC (fun xs H Q => ∃ i, xs = [.int i] ∧ Q (.int (if i < 0 then -i else i)) H) [.int i] H (.int (if i < 0 then -i else i)) := fun H1 _ Q q => ⟨i, rfl, q⟩
theorem rc_max2 {i j : Int} : RC (fun xs H Q => ∃ i j, xs = [.int i, .int j] ∧ Q (.int (if j > i then j else i)) H) [.int i, .int j] H (.int (max i j)) := fun H1 _ Q q => ⟨i, j, rfl, by
  have e : (if j > i then j else i) = max i j := by split <;> omega
  rw [e]
  exact q⟩
theorem rc_min2 {i j : Int} : RC (fun xs H Q => ∃ i j, xs = [.int i, .int j] ∧ Q (.int (if j < i then j else i)) H) [.int i, .int j] H (.int (min i j)) := fun H1 _ Q q => ⟨i, j, rfl, by
  have e : (if j < i then j else i) = min i j := by split <;> omega
  rw [e]
  exact q⟩
theorem rc_int {i : Int} : RC (fun xs H Q => (∃ i, xs = [.int i] ∧ Q (.int i) H) ∨ ∃ k, xs = [.bl k] ∧ Q (.int (if k then 1 else 0)) H) [.int i] H (.int i) := fun H1 _ Q q => .inl ⟨i, rfl, q⟩
theorem rc_lenT {p : Addr} {xs : List V} (h : SqT K H p xs) : RC (fun xs H Q => ∃ p ys, xs = [.ref p] ∧ (SqL K H p ys ∨ SqT K H p ys) ∧ Q (.int ys.length) H) [.ref p] H (.int (xs.length : Int)) := fun H1 e Q q => ⟨p, xs, rfl, .inr (same_t e h), q⟩
theorem rc_lenL {p : Addr} {xs : List V} (h : SqL K H p xs) : RC (fun xs H Q => ∃ p ys, xs = [.ref p] ∧ (SqL K H p ys ∨ SqT K H p ys) ∧ Q (.int ys.length) H) [.ref p] H (.int (xs.length : Int)) := fun H1 e Q q => ⟨p, xs, rfl, .inl (same_l e h), q⟩
theorem spv_mono {sp : Sp} {vs : List V} (e : Same H H') (h : SpV sp vs H z) : SpV sp vs H' z := fun H1 a Q q => h H1 (e.trans a) Q q

/-! ### statements: in any heap that extends H -/
variable {D : Ends} {ts tr tu tw tb : TS} {g : TG}
def Run (ts : TS) (D : Ends) (σ : L2.St) (H : Hp) : Prop := ∀ H1, Same H H1 → ts D σ H1
theorem Run.mono (e : Same H H') (h : Run ts D σ H) : Run ts D σ H' := fun H1 a => h H1 (e.trans a)
theorem Run.go (h : Run ts D σ H) : ts D σ H := h H (Same.refl H)
theorem run_next (h : Run (fun D σ H => D.nx σ H) D σ H) : Run tNext D σ H := h
/-- name = e, then the rest -/
theorem run_set {i : Nat} (h : Ev te σ H v) (k : Run tr D (σ.set i (some v)) H) : Run (tSeq (tAsg te (gName i)) tr) D σ H := fun H1 e => h H1 e _ fun H2 e2 => k H2 (e.trans e2)
theorem run_setR {i : Nat} (h : EvR te σ H R) (k : ∀ v H1, Same H H1 → R v H1 → Run tr D (σ.set i (some v)) H1) : Run (tSeq (tAsg te (gName i)) tr) D σ H := fun H1 e => h H1 e _ fun v H2 e2 r => k v H2 (e.trans e2) r H2 (Same.refl H2)
/-- the last statement of a block -/
theorem run_set1 {i : Nat} (h : Ev te σ H v) (k : ∀ H1, Same H H1 → D.nx (σ.set i (some v)) H1) : Run (tAsg te (gName i)) D σ H := fun H1 e => h H1 e _ fun H2 e2 => k H2 (e.trans e2)
theorem run_setR1 {i : Nat} (h : EvR te σ H R) (k : ∀ v H1, Same H H1 → R v H1 → D.nx (σ.set i (some v)) H1) : Run (tAsg te (gName i)) D σ H := fun H1 e => h H1 e _ fun v H2 e2 r => k v H2 (e.trans e2) r
/-- the last statement of a branch: the rest follows -/
theorem run_set1k {i : Nat} (h : Ev te σ H v) (k : Run tr D (σ.set i (some v)) H) : Run (tAsg te (gName i)) { D with nx := tr D } σ H := fun H1 e => h H1 e _ fun H2 e2 => k H2 (e.trans e2)
theorem run_asgR (h : EvR te σ H R) (k : ∀ v H1, Same H H1 → R v H1 → g v σ H1 (tr D)) : Run (tSeq (tAsg te g) tr) D σ H := fun H1 e => h H1 e _ fun v H2 e2 r => k v H2 (e.trans e2) r
theorem run_asg (h : Ev te σ H v) (k : ∀ H1, Same H H1 → g v σ H1 (tr D)) : Run (tSeq (tAsg te g) tr) D σ H := fun H1 e => h H1 e _ fun H2 e2 => k H2 (e.trans e2)
/-- a tuple taken apart into names -/
theorem run_tup6 {i1 i2 i3 i4 i5 i6 : Nat} {a : Addr} {v1 v2 v3 v4 v5 v6 : V} (h : Ev te σ H (.ref a)) (hS : SqT K H a [v1, v2, v3, v4, v5, v6])
    (k : Run tr D ((((((σ.set i1 (some v1)).set i2 (some v2)).set i3 (some v3)).set i4 (some v4)).set i5 (some v5)).set i6 (some v6)) H) :
    Run (tSeq (tAsg te (gTup K 6 (gCons (gName i1) (gCons (gName i2) (gCons (gName i3) (gCons (gName i4) (gCons (gName i5) (gCons (gName i6) gNil)))))))) tr) D σ H := fun H1 e =>
  h H1 e _ fun H2 e2 => ⟨a, _, rfl, same_t (e.trans e2) hS, rfl, _, _, rfl, _, _, rfl, _, _, rfl, _, _, rfl, _, _, rfl, _, _, rfl, rfl, k H2 (e.trans e2)⟩
theorem run_tup4 {i1 i2 i3 i4 : Nat} {a : Addr} {v1 v2 v3 v4 : V} (h : Ev te σ H (.ref a)) (hS : SqT K H a [v1, v2, v3, v4])
    (k : Run tr D ((((σ.set i1 (some v1)).set i2 (some v2)).set i3 (some v3)).set i4 (some v4)) H) :
    Run (tSeq (tAsg te (gTup K 4 (gCons (gName i1) (gCons (gName i2) (gCons (gName i3) (gCons (gName i4) gNil)))))) tr) D σ H := fun H1 e =>
  h H1 e _ fun H2 e2 => ⟨a, _, rfl, same_t (e.trans e2) hS, rfl, _, _, rfl, _, _, rfl, _, _, rfl, _, _, rfl, rfl, k H2 (e.trans e2)⟩
theorem run_tup3R {i1 i2 i3 : Nat} (h : EvR te σ H R) (k : ∀ v H1, Same H H1 → R v H1 → ∃ a v1 v2 v3, v = .ref a ∧ SqT K H1 a [v1, v2, v3] ∧ Run tr D (((σ.set i1 (some v1)).set i2 (some v2)).set i3 (some v3)) H1) :
    Run (tSeq (tAsg te (gTup K 3 (gCons (gName i1) (gCons (gName i2) (gCons (gName i3) gNil))))) tr) D σ H := fun H1 e =>
  h H1 e _ fun v H2 e2 r => by
    obtain ⟨a, v1, v2, v3, rfl, hS, k⟩ := k v H2 (e.trans e2) r
    exact ⟨a, _, rfl, hS, rfl, _, _, rfl, _, _, rfl, _, _, rfl, rfl, k H2 (Same.refl H2)⟩
theorem run_tup2R {i1 i2 : Nat} (h : EvR te σ H R) (k : ∀ v H1, Same H H1 → R v H1 → ∃ a v1 v2, v = .ref a ∧ SqT K H1 a [v1, v2] ∧ Run tr D ((σ.set i1 (some v1)).set i2 (some v2)) H1) :
    Run (tSeq (tAsg te (gTup K 2 (gCons (gName i1) (gCons (gName i2) gNil)))) tr) D σ H := fun H1 e =>
  h H1 e _ fun v H2 e2 r => by
    obtain ⟨a, v1, v2, rfl, hS, k⟩ := k v H2 (e.trans e2) r
    exact ⟨a, _, rfl, hS, rfl, _, _, rfl, _, _, rfl, rfl, k H2 (Same.refl H2)⟩
theorem run_par {i j : Nat} {ta : TA} (h : EvA ta σ H [x, y]) (k : Run tr D ((σ.set i (some x)).set j (some y)) H) : Run (tSeq (tPar i j ta) tr) D σ H := fun H1 e => h H1 e _ fun H2 e2 => ⟨x, y, rfl, k H2 (e.trans e2)⟩
theorem run_par1 {i j : Nat} {ta : TA} (h : EvA ta σ H [x, y]) (k : ∀ H1, Same H H1 → D.nx ((σ.set i (some x)).set j (some y)) H1) : Run (tPar i j ta) D σ H := fun H1 e => h H1 e _ fun H2 e2 => ⟨x, y, rfl, k H2 (e.trans e2)⟩
theorem run_par3 {i j l : Nat} {ta : TA} (h : EvA ta σ H [x, y, z]) (k : Run tr D (((σ.set i (some x)).set j (some y)).set l (some z)) H) : Run (tSeq (tPar3 i j l ta) tr) D σ H := fun H1 e => h H1 e _ fun H2 e2 => ⟨x, y, z, rfl, k H2 (e.trans e2)⟩
theorem run_aug1 {i : Nat} {f : Int → Int → Int} {a b : Int} (hx : σ[i]? = some (some (.int a))) (h : Ev te σ H (.int b)) (k : ∀ H1, Same H H1 → D.nx (σ.set i (some (.int (f a b)))) H1) : Run (tAug i te (ipI f)) D σ H := fun H1 e =>
  ⟨.int a, hx, h H1 e _ fun H2 e2 => ⟨a, b, rfl, rfl, k H2 (e.trans e2)⟩⟩
theorem run_ret (h : Ev te σ H v) (k : ∀ H1, Same H H1 → D.rt v H1) : Run (tRet te) D σ H := fun H1 e => h H1 e _ fun H2 e2 => k H2 (e.trans e2)
theorem run_retR (h : EvR te σ H R) (k : ∀ v H1, Same H H1 → R v H1 → D.rt v H1) : Run (tRet te) D σ H := fun H1 e => h H1 e _ fun v H2 e2 r => k v H2 (e.trans e2) r
/-- if, then the rest -/
theorem run_if {b : Bool} (h : EvT t σ H b) (k : (b = true → Run tu { D with nx := tr D } σ H) ∧ (b = false → Run tw { D with nx := tr D } σ H)) : Run (tSeq (tIfS t tu tw) tr) D σ H := fun H1 e => h H1 e _ fun H2 e2 => by
  cases b with
  | true =>
    show tu { D with nx := tr D } σ H2
    exact k.1 rfl H2 (e.trans e2)
  | false =>
    show tw { D with nx := tr D } σ H2
    exact k.2 rfl H2 (e.trans e2)
theorem run_if1 {b : Bool} (h : EvT t σ H b) (k : (b = true → Run tu D σ H) ∧ (b = false → Run tw D σ H)) : Run (tIfS t tu tw) D σ H := fun H1 e => h H1 e _ fun H2 e2 => by
  cases b with
  | true =>
    show tu D σ H2
    exact k.1 rfl H2 (e.trans e2)
  | false =>
    show tw D σ H2
    exact k.2 rfl H2 (e.trans e2)
/-- the else that is not there -/
theorem run_nx (k : Run tr D σ H) : Run tNext { D with nx := tr D } σ H := fun H1 e => k H1 e
/-- while, by a word that falls; the heap may grow -/
theorem run_while (W : Nat → L2.St → Prop) (m0 : Nat) (h0 : W m0 σ)
    (hs : ∀ m σ', W m σ' → ∃ b, EvT t σ' H b ∧ (b = true → Run tu { D with nx := fun σ2 H2 => (∃ m', m' < m ∧ W m' σ2) ∧ Same H H2, ct := fun σ2 H2 => (∃ m', m' < m ∧ W m' σ2) ∧ Same H H2, bk := tr D } σ' H) ∧ (b = false → Run tr D σ' H)) :
    Run (tSeq (tWhile t tu) tr) D σ H := fun H1 e =>
  ⟨fun m σ' H' => W m σ' ∧ Same H H', ⟨m0, h0, e⟩, fun m σ' H' ⟨w, e'⟩ => by
    obtain ⟨b, hb, h1, h2⟩ := hs m σ' w
    refine hb H' e' _ fun H2 e2 => ?_
    cases b with
    | true =>
      show ∃ N : L2.St → Hp → Prop, (∀ σ' H', N σ' H' → ∃ m', m' < m ∧ (W m' σ' ∧ Same H H')) ∧ _
      exact ⟨_, fun σ3 H3 ⟨⟨m', l, w'⟩, e3⟩ => ⟨m', l, w', e3⟩, h1 rfl H2 (e'.trans e2)⟩
    | false =>
      show tr D σ' H2
      exact h2 rfl H2 (e'.trans e2)⟩
/-- a statement cut off from the rest: Mid says which slots it leaves -/
theorem run_cut (Mid : L2.St → Prop) (h1 : Run ts { D with nx := fun σ' H' => Mid σ' ∧ Same H H' } σ H) (h2 : ∀ σ', Mid σ' → Run tr D σ' H) : Run (Evl.tCut ts tr) D σ H := fun H1 e =>
  ⟨fun σ' H' => Mid σ' ∧ Same H H', h1 H1 e, fun σ' H' p => h2 σ' p.1 H' p.2⟩
/-- for over range(n): Pv of the turn and the slots; the heap may grow -/
theorem run_forR1 {ta : TA} {j : Nat} {n : Nat} (h : EvA ta σ H [.int (n : Int)]) (hn : n ≤ 100000) (Pv : Nat → L2.St → Prop) (h0 : Pv 0 σ)
    (hs : ∀ (i : Nat) σ', i < n → Pv i σ' → Run tu { D with nx := fun σ2 H2 => Pv (i + 1) σ2 ∧ Same H H2, ct := fun σ2 H2 => Pv (i + 1) σ2 ∧ Same H H2, bk := tr D } (σ'.set j (some (.int (i : Int)))) H) (hd : ∀ σ', Pv n σ' → Run tr D σ' H) :
    Run (tSeq (tFor (iRng1 ta) (gName j) tu) tr) D σ H := fun H1 e =>
  h H1 e _ fun H2 e2 => ⟨(n : Int), rfl, by omega, by omega, by
    rw [Int.toNat_natCast]
    refine for_range (lo := 0) (n := n) (fun i σ' H' => Pv i σ' ∧ Same H H') ⟨h0, e.trans e2⟩ (fun i σ' H' hi p => ?_) (fun σ' H' p => hd σ' p.1 H' p.2)
    have e0 : (0 : Int) + (i : Int) = (i : Int) := Int.zero_add _
    show tu { D with nx := _, ct := _, bk := _ } (σ'.set j (some (.int ((0 : Int) + (i : Int))))) H'
    rw [e0]
    exact hs i σ' hi p.1 H' p.2⟩
/-- for over range(lo, lo + n) -/
theorem run_forR2 {ta : TA} {j n : Nat} {lo hi : Int} (h : EvA ta σ H [.int lo, .int hi]) (hn : 0 ≤ lo ∧ lo ≤ 1000 ∧ hi ≤ 1000 ∧ hi = lo + (n : Int)) (Pv : Nat → L2.St → Prop) (h0 : Pv 0 σ)
    (hs : ∀ (i : Nat) σ', i < n → Pv i σ' → Run tu { D with nx := fun σ2 H2 => Pv (i + 1) σ2 ∧ Same H H2, ct := fun σ2 H2 => Pv (i + 1) σ2 ∧ Same H H2, bk := tr D } (σ'.set j (some (.int (lo + (i : Int))))) H) (hd : ∀ σ', Pv n σ' → Run tr D σ' H) :
    Run (tSeq (tFor (iRng2 ta) (gName j) tu) tr) D σ H := fun H1 e =>
  h H1 e _ fun H2 e2 => ⟨lo, hi, rfl, ⟨by omega, by omega, by omega, by omega⟩, by
    rw [show (hi - lo).toNat = n by omega]
    exact for_range (lo := lo) (n := n) (fun i σ' H' => Pv i σ' ∧ Same H H') ⟨h0, e.trans e2⟩ (fun i σ' H' hi p => hs i σ' hi p.1 H' p.2) (fun σ' H' p => hd σ' p.1 H' p.2)⟩
/-- for over a list that the body leaves as it is: the heap H0 in which it stands is any that extends H -/
theorem run_forN1 {xs : List V} {tl : TE} {j : Nat} (h : EvR tl σ H (fun v H1 => ∃ a, v = .ref a ∧ SqL K H1 a xs)) (Pv : Nat → L2.St → Prop) (h0 : Pv 0 σ)
    (hs : ∀ H0, Same H H0 → ∀ i x σ', xs[i]? = some x → Pv i σ' → Run tu { D with nx := fun σ2 H2 => Pv (i + 1) σ2 ∧ Same H0 H2, ct := fun σ2 H2 => Pv (i + 1) σ2 ∧ Same H0 H2, bk := D.nx } (σ'.set j (some x)) H0) (hd : ∀ σ', Pv xs.length σ' → ∀ H', Same H H' → D.nx σ' H') : Run (tFor (iList K tl) (gName j) tu) D σ H := fun H1 e =>
  h H1 e _ fun v H2 e2 ⟨a, ev, hx⟩ => ⟨a, ev, ⟨xs, hx⟩, for_list (fun i σ' H' => Pv i σ' ∧ Same H2 H') ⟨h0, Same.refl H2⟩ (fun i σ' H' _ p => same_l p.2 hx)
    (fun i x σ' H' hi p => hs H2 (e.trans e2) i x σ' hi p.1 H' p.2) (fun σ' H' p => hd σ' p.1 H' ((e.trans e2).trans p.2))⟩
theorem run_forN {xs : List V} {tl : TE} {j : Nat} (h : EvR tl σ H (fun v H1 => ∃ a, v = .ref a ∧ SqL K H1 a xs)) (Pv : Nat → L2.St → Prop) (h0 : Pv 0 σ)
    (hs : ∀ H0, Same H H0 → ∀ i x σ', xs[i]? = some x → Pv i σ' → Run tu { D with nx := fun σ2 H2 => Pv (i + 1) σ2 ∧ Same H0 H2, ct := fun σ2 H2 => Pv (i + 1) σ2 ∧ Same H0 H2, bk := tr D } (σ'.set j (some x)) H0) (hd : ∀ σ', Pv xs.length σ' → Run tr D σ' H) : Run (tSeq (tFor (iList K tl) (gName j) tu) tr) D σ H :=
  run_forN1 (D := { D with nx := tr D }) h Pv h0 hs fun σ' p H' e => hd σ' p H' e
/-- for over a list or a tuple that stands: Pv of the turn, the slots and the heap -/
theorem run_forL {a : Addr} {xs : List V} {tl : TE} {j : Nat} (h : EvR tl σ H (fun v H1 => v = .ref a ∧ SqL K H1 a xs)) (Pv : Nat → L2.St → Hp → Prop) (h0 : ∀ H1, Same H H1 → SqL K H1 a xs → Pv 0 σ H1) (hl : ∀ i σ' H', Pv i σ' H' → SqL K H' a xs)
    (hs : ∀ i x σ' H', xs[i]? = some x → Pv i σ' H' → tu { D with nx := Pv (i + 1), ct := Pv (i + 1), bk := tr D } (σ'.set j (some x)) H') (hd : ∀ σ' H', Pv xs.length σ' H' → tr D σ' H') : Run (tSeq (tFor (iList K tl) (gName j) tu) tr) D σ H := fun H1 e =>
  h H1 e _ fun v H2 e2 ⟨ev, hx⟩ => ⟨a, ev, ⟨xs, hx⟩, for_list Pv (h0 H2 (e.trans e2) hx) (fun i σ' H' _ p => hl i σ' H' p) hs hd⟩
end

/-! ### one list changes -/
/-- all but what stands at d is as it was -/
def SameB (d : Addr) (H H' : Hp) : Prop := ∀ b o, b ≠ d → H b = some o → H' b = some o
theorem SameB.refl (d : Addr) (H : Hp) : SameB d H H := fun _ _ _ h => h
theorem SameB.trans {d : Addr} {H H1 H2 : Hp} (a : SameB d H H1) (b : SameB d H1 H2) : SameB d H H2 := fun x o n h => b x o n (a x o n h)
theorem Same.b {d : Addr} {H H' : Hp} (h : Same H H') : SameB d H H' := fun x o _ e => h x o e
theorem sameB_upd {d : Addr} {H : Hp} {o : HO} : SameB d H (upd H d o) := fun x u n e => by
  rw [upd_ne n]
  exact e
theorem SameB.t {K : PySem.W.Frag} {d a : Addr} {xs ys : List V} {H H' : Hp} (e : SameB d H H') (hd : H d = some (.lst ys)) (h : SqT K H a xs) : SqT K H' a xs := by
  rcases h with (h | ⟨o, h⟩) | h
  · exact .inl (.inl (e _ _ (ne_of h hd (by intro z; cases z)) h))
  · exact .inl (.inr ⟨o, e _ _ (ne_of h hd (by intro z; cases z)) h⟩)
  · exact .inr h
theorem SameB.l {d a : Addr} {xs ys : List V} {H H' : Hp} (e : SameB d H H') (hd : H d = some (.lst ys)) (n : xs ≠ ys) (h : H a = some (.lst xs)) : H' a = some (.lst xs) :=
  e _ _ (ne_of h hd (by intro z; injection z with z; exact n z)) h
/-- evaluation with its effects: at this very heap -/
def EvD (te : TE) (σ : L2.St) (H : Hp) (R : V → Hp → Prop) : Prop := ∀ Q : VK, (∀ v H', R v H' → Q v H') → te σ H Q
section
variable {K : PySem.W.Frag} {σ : L2.St} {H : Hp} {ta tb te : TE} {D : Ends} {ts tr : TS} {R : V → Hp → Prop} {v : V} {xs : List V} {l : Addr}
theorem evd_of (h : Ev te σ H v) (k : ∀ H1, Same H H1 → R v H1) : EvD te σ H R := fun Q q => h H (Same.refl H) Q fun H1 e => q v H1 (k H1 e)
theorem evd_R (h : EvR te σ H R) : EvD te σ H R := fun Q q => h H (Same.refl H) Q fun v H1 _ r => q v H1 r
theorem evd_imp {R' : V → Hp → Prop} (h : EvD te σ H R) (k : ∀ v H', R v H' → R' v H') : EvD te σ H R' := fun Q q => h Q fun v H' r => q v H' (k v H' r)
theorem evd_op {r : R2} {Ra : V → Hp → Prop} (ha : EvD ta σ H Ra) (hb : ∀ x H1, Ra x H1 → EvD tb σ H1 fun y H2 => ∀ Q : VK, (∀ v H', R v H' → Q v H') → r x y H2 Q) : EvD (tOp r ta tb) σ H R := fun Q q =>
  ha _ fun x H1 rx => hb x H1 rx _ fun y H2 ry => ry Q q
/-- tests with their effects -/
def EvTD (t : TT) (σ : L2.St) (H : Hp) (R : Bool → Hp → Prop) : Prop := ∀ Q : Bool → Hp → Prop, (∀ b H', R b H' → Q b H') → t σ H Q
theorem evtd_test {RT : Bool → Hp → Prop} (h : EvD te σ H fun v H' => ∃ b, v = .bl b ∧ RT b H') : EvTD (tTest te) σ H RT := fun Q q => h _ fun v H' ⟨b, ev, r⟩ => ⟨b, ev, q b H' r⟩
theorem evd_if {t : TT} {RT : Bool → Hp → Prop} (h : EvTD t σ H RT) (h1 : ∀ H', RT true H' → EvD ta σ H' R) (h2 : ∀ H', RT false H' → EvD tb σ H' R) : EvD (tIf t ta tb) σ H R := fun Q q => h _ fun b H' r => by
  cases b with
  | true => exact h1 H' r Q q
  | false => exact h2 H' r Q q
theorem evtd_ifS {t : TT} {tu tw : TS} {RT : Bool → Hp → Prop} (h : EvTD t σ H RT) (h1 : ∀ H', RT true H' → tu D σ H') (h2 : ∀ H', RT false H' → tw D σ H') : tIfS t tu tw D σ H := h _ fun b H' r => by
  cases b with
  | true => exact h1 H' r
  | false => exact h2 H' r
theorem evd_set {i : Nat} (h : EvD te σ H R) (k : ∀ v H1, R v H1 → tr D (σ.set i (some v)) H1) : tSeq (tAsg te (gName i)) tr D σ H := h _ k
theorem evd_set1 {i : Nat} (h : EvD te σ H R) (k : ∀ v H1, R v H1 → D.nx (σ.set i (some v)) H1) : tAsg te (gName i) D σ H := h _ k
theorem evd_ret (h : EvD te σ H R) (k : ∀ v H1, R v H1 → D.rt v H1) : tRet te D σ H := h _ k
/-- xs[j] = e -/
theorem run_put {j : Nat} (hl : H l = some (.lst xs)) (h : Ev te σ H v) (ho : Ev ta σ H (.ref l)) (hi : Ev tb σ H (.int (j : Int))) (hj : j < xs.length) (k : ∀ H1, Same H H1 → tr D σ (upd H1 l (.lst (xs.set j v)))) :
    Run (tSeq (tAsg te (gSub ta tb rSetL)) tr) D σ H := fun H1 e1 => h H1 e1 _ fun H2 e2 => ho H2 (e1.trans e2) _ fun H3 e3 => hi H3 ((e1.trans e2).trans e3) _ fun H4 e4 =>
  ⟨l, xs, (j : Int), j, rfl, rfl, e4 _ _ (e3 _ _ (e2 _ _ (e1 _ _ hl))), Evl.ixN_nat hj, k H4 (((e1.trans e2).trans e3).trans e4)⟩
theorem run_put1 {j : Nat} (hl : H l = some (.lst xs)) (h : Ev te σ H v) (ho : Ev ta σ H (.ref l)) (hi : Ev tb σ H (.int (j : Int))) (hj : j < xs.length) (k : ∀ H1, Same H H1 → D.nx σ (upd H1 l (.lst (xs.set j v)))) :
    Run (tAsg te (gSub ta tb rSetL)) D σ H := run_put (tr := fun D σ H => D.nx σ H) hl h ho hi hj k
/-- xs.append(e) -/
theorem run_app {te : TE} (hl : H l = some (.lst xs)) (ha : Ev ta σ H (.ref l)) (h : Ev te σ H v) (hz : xs.length < 1000) (k : ∀ H1, Same H H1 → tr D σ (upd H1 l (.lst (xs ++ [v])))) :
    Run (tSeq (tDrop (tBM K "list" rAppend ta (tCons te tNil))) tr) D σ H := fun H1 e1 => ha H1 e1 _ fun H2 e2 =>
  ⟨.inl ⟨rfl, xs, SqL.of (e2 _ _ (e1 _ _ hl))⟩, h H2 (e1.trans e2) _ fun H3 e3 => ⟨l, xs, v, rfl, rfl, e3 _ _ (e2 _ _ (e1 _ _ hl)), small1000 (by omega), k H3 ((e1.trans e2).trans e3)⟩⟩
theorem run_app1 {te : TE} (hl : H l = some (.lst xs)) (ha : Ev ta σ H (.ref l)) (h : Ev te σ H v) (hz : xs.length < 1000) (k : ∀ H1, Same H H1 → D.nx σ (upd H1 l (.lst (xs ++ [v])))) :
    Run (tDrop (tBM K "list" rAppend ta (tCons te tNil))) D σ H := run_app (tr := fun D σ H => D.nx σ H) hl ha h hz k
theorem cut_intro (Mid : L2.St → Hp → Prop) (h1 : ts { D with nx := Mid } σ H) (h2 : ∀ σ' H', Mid σ' H' → tr D σ' H') : Evl.tCut ts tr D σ H := ⟨Mid, h1, h2⟩
end

/-! ### comprehensions -/
section
variable {K : PySem.W.Frag} {σ : L2.St} {H : Hp} {tl te : TE} {tt : TT} {vs : List Nat} {j : Nat}
def Made (f : V → Bool) (e : V → V) (xs : List V) (H : Hp) (D : Addr) (i : Nat) (H' : Hp) : Prop := Same H H' ∧ H' D = some (.lst (((xs.take i).filter f).map e))
theorem made_turn {f : V → Bool} {e : V → V} {xs : List V} {D : Addr} {i : Nat} {x : V} {σ2 : L2.St} {H' : Hp} (n : H D = none) (hl : xs.length ≤ 1000) (hx : xs[i]? = some x) (p : Made f e xs H D i H')
    (ht : EvT tt σ2 H (f x)) (he : f x = true → Ev te σ2 H (e x)) :
    tt σ2 H' fun b H3 => if b = true then te σ2 H3 fun y H4 => ∃ acc, H4 D = some (.lst acc) ∧ acc.length < sizeLine ∧ Made f e xs H D (i + 1) (upd H4 D (.lst (acc ++ [y]))) else Made f e xs H D (i + 1) H3 := by
  obtain ⟨p1, p2⟩ := p
  have etk : xs.take (i + 1) = xs.take i ++ [x] := by
    rw [List.take_add_one, hx]
    rfl
  refine ht H' p1 _ fun H3 e3 => ?_
  cases hf : f x with
  | true =>
    refine (he hf) H3 (p1.trans e3) _ fun H4 e4 => ?_
    refine ⟨((xs.take i).filter f).map e, e4 _ _ (e3 _ _ p2), ?_, ?_, ?_⟩
    · refine small1000 ?_
      rw [List.length_map]
      have h1 := List.length_filter_le f (xs.take i)
      have h2 := List.length_take_le' i xs
      omega
    · intro b o ho
      rw [upd_ne (ne_of_none ho n)]
      exact e4 _ _ (e3 _ _ (p1 _ _ ho))
    · rw [upd_same, etk, List.filter_append, List.map_append, List.filter_cons, if_pos hf]
      rfl
  | false =>
    refine ⟨p1.trans e3, ?_⟩
    rw [etk, List.filter_append, List.filter_cons, if_neg (by rw [hf]; decide)]
    show H3 D = some (.lst ((List.filter f (List.take i xs) ++ []).map e))
    rw [List.append_nil]
    exact e3 _ _ p2
theorem made_end {f : V → Bool} {e : V → V} {xs : List V} {D : Addr} {H' : Hp} (p : Made f e xs H D xs.length H') : H' D = some (.lst ((xs.filter f).map e)) := by
  have h := p.2
  rw [List.take_length] at h
  exact h
/-- [e for x in t if f], t a tuple -/
theorem evr_lcT {a : Addr} {xs : List V} (f : V → Bool) (e : V → V) (h : Ev tl σ H (.ref a)) (hx : SqT K H a xs) (hl : xs.length ≤ 1000) (hw : ∀ x, wipe ((wipe σ vs).set j (some x)) vs = wipe σ vs)
    (ht : ∀ x ∈ xs, EvT tt ((wipe σ vs).set j (some x)) H (f x)) (he : ∀ x ∈ xs, f x = true → Ev te ((wipe σ vs).set j (some x)) H (e x)) :
    EvR (tLc (iTup K tl) (gName j) tt te vs) σ H (fun v H1 => ∃ p, v = .ref p ∧ H p = none ∧ H1 p = some (.lst ((xs.filter f).map e))) := fun H1 e1 Q q =>
  h H1 e1 _ fun H2 e2 => ⟨a, rfl, ⟨xs, same_t (e1.trans e2) hx⟩, fun Dl hD =>
    lc_tup (Made f e xs H2 Dl) ⟨same_new hD, upd_same⟩ (fun i H' _ p => same_t p.1 (same_t (e1.trans e2) hx))
      (fun i x H' hi p => ⟨hw x, made_turn hD hl hi p ((ht x (List.mem_of_getElem? hi)).mono (e1.trans e2)) (fun hf => (he x (List.mem_of_getElem? hi) hf).mono (e1.trans e2))⟩)
      (fun H' p => q _ H' (e2.trans p.1) ⟨Dl, rfl, Same.free (e1.trans e2) hD, made_end p⟩)⟩
/-- .. over a list -/
theorem evr_lcL {xs : List V} (f : V → Bool) (e : V → V) (h : EvR tl σ H (fun v H1 => ∃ a, v = .ref a ∧ SqL K H1 a xs)) (hl : xs.length ≤ 1000) (hw : ∀ x, wipe ((wipe σ vs).set j (some x)) vs = wipe σ vs)
    (ht : ∀ x ∈ xs, EvT tt ((wipe σ vs).set j (some x)) H (f x)) (he : ∀ x ∈ xs, f x = true → Ev te ((wipe σ vs).set j (some x)) H (e x)) :
    EvR (tLc (iList K tl) (gName j) tt te vs) σ H (fun v H1 => ∃ p, v = .ref p ∧ H p = none ∧ H1 p = some (.lst ((xs.filter f).map e))) := fun H1 e1 Q q =>
  h H1 e1 _ fun v H2 e2 ⟨a, ev, hx⟩ => ⟨a, ev, ⟨xs, hx⟩, fun Dl hD =>
    lc_list (Made f e xs H2 Dl) ⟨same_new hD, upd_same⟩ (fun i H' _ p => same_l p.1 hx)
      (fun i x H' hi p => ⟨hw x, made_turn hD hl hi p ((ht x (List.mem_of_getElem? hi)).mono (e1.trans e2)) (fun hf => (he x (List.mem_of_getElem? hi) hf).mono (e1.trans e2))⟩)
      (fun H' p => q _ H' (e2.trans p.1) ⟨Dl, rfl, Same.free (e1.trans e2) hD, made_end p⟩)⟩
/-- .. over range(n) -/
theorem evr_lcR {ta : TA} {n : Nat} (f : V → Bool) (e : V → V) (h : EvA ta σ H [.int (n : Int)]) (hl : n ≤ 1000) (hw : ∀ x, wipe ((wipe σ vs).set j (some x)) vs = wipe σ vs)
    (ht : ∀ i : Nat, i < n → EvT tt ((wipe σ vs).set j (some (.int (i : Int)))) H (f (.int (i : Int)))) (he : ∀ i : Nat, i < n → f (.int (i : Int)) = true → Ev te ((wipe σ vs).set j (some (.int (i : Int)))) H (e (.int (i : Int)))) :
    EvR (tLc (iRng1 ta) (gName j) tt te vs) σ H (fun v H1 => ∃ p, v = .ref p ∧ H p = none ∧ H1 p = some (.lst ((((List.range n).map fun i : Nat => V.int (i : Int)).filter f).map e))) := fun H1 e1 Q q =>
  h H1 e1 _ fun H2 e2 => ⟨(n : Int), rfl, by omega, by omega, fun Dl hD => by
    rw [Int.toNat_natCast]
    have lx : ((List.range n).map fun i : Nat => V.int (i : Int)).length = n := by rw [List.length_map, List.length_range]
    refine lc_range (lo := 0) (n := n) (Made f e ((List.range n).map fun i : Nat => V.int (i : Int)) H2 Dl) ⟨same_new hD, upd_same⟩ (fun i H' hi p => ?_) (fun H' p => ?_)
    · have e0 : (0 : Int) + (i : Int) = (i : Int) := Int.zero_add _
      rw [e0]
      refine ⟨hw _, made_turn hD (by rw [lx]; exact hl) ?_ p ((ht i hi).mono (e1.trans e2)) (fun hf => (he i hi hf).mono (e1.trans e2))⟩
      rw [List.getElem?_map, List.getElem?_range hi]
      rfl
    · have p' : Made f e ((List.range n).map fun i : Nat => V.int (i : Int)) H2 Dl ((List.range n).map fun i : Nat => V.int (i : Int)).length H' := by rw [lx]; exact p
      exact q _ H' (e2.trans p.1) ⟨Dl, rfl, Same.free (e1.trans e2) hD, made_end p'⟩⟩
end

/-! ### defs -/
structure Cal (P : Program) (w : World) (K : PySem.W.Frag) (mg : Str → Option Value) (base : Heap) (k : Nat) (x : Str) (sp : Sp) : Prop where
  ex : ∃ (f : Addr) (fd : FuncData) (ps : List Str), FnOk P w K mg base CX0 k f fd ps sp ∧ mg x = some (.ref f) ∧ PySem.W.keepIn K (.ref f) = true ∧ Binds K fd ps []
theorem pe_c {X : Cx} {k j : Nat} {x : Str} {sp : Sp} {p pos : Pos} {e : Expr} {es : List Expr} {t : TA} (c : Cal X.prog X.w X.K X.mg X.base k x sp) (hr : Room j X.A) (hk : k ≤ j) (hg : Gl X x) (ha : PA X (e :: es) t)
    (hdb : (x == ("__debug__" : Str)) = false := by decide) (he : starEach (e :: es) X.env = (false, eval e X.env) :: starEach es X.env := by rfl) (hpl : (backTo pos (starEach es X.env)).any (·.1) = false := by rfl) :
    PE X (.Call (.Name x p) (e :: es) [] pos) (tCall sp [] E0 t) := by
  obtain ⟨f, fd, ps, F, hm, kp, b⟩ := c.ex
  exact pe_call F (hr.mono hk) hg hm kp b .nil pass0 ha hdb he hpl
structure Has (K : PySem.W.Frag) (mg : Str → Option Value) (x : Str) (st : Stmt) (ps : List Str) : Prop where
  ex : ∃ (f : Addr) (fd : FuncData), Fun K x x st f fd ∧ mg x = some (.ref f) ∧ Binds K fd ps []
/-- a def that is named and never called -/
theorem Has.never {P : Program} {w : World} {K : PySem.W.Frag} {mg : Str → Option Value} {base : Heap} {x : Str} {st : Stmt} {ps : List Str} {k : Nat} (D : Has K mg x st ps) : Cal P w K mg base k x (fun _ _ _ _ => False) := by
  obtain ⟨f, fd, F, hm, b⟩ := D.ex
  exact ⟨f, fd, ps, ⟨fun _ _ _ _ z => z.elim, fun _ _ _ _ _ _ _ _ _ _ _ _ _ z => z.elim⟩, hm, F.kp, b⟩
theorem Has.cal {P : Program} {w : World} {K : PySem.W.Frag} {mg : Str → Option Value} {base : Heap} {x : Str} {st : Stmt} {N ps : List Str} {k : Nat} {sp : Sp} (D : Has K mg x st ps) (S : FnScope N ps (defScope st)) (len : ∀ vs H Q E, sp vs H Q E → vs.length = ps.length)
    (hbody : ∀ (f : Addr) (cdv : Value) (A : Around) (outer : List Env) (s : Shared) (H : Hp) (vs : List V) (Q : VK) (E : XK), Room k (A.deeper (envOfC x (defScope st) s.heap.objs.size f cdv)) → sp vs H Q E →
      ∃ t, PSs (cxOf CX0 P w K mg base N x (defScope st) f cdv A outer s H E).nox (defBody st) t ∧ Run t { nx := fun _ H' => Q .non H', rt := Q } (start N vs) H) : Cal P w K mg base (k + 1) x sp := by
  obtain ⟨f, fd, F, hm, b⟩ := D.ex
  refine ⟨f, fd, ps, F.ok S len (fun cdv A outer s H vs Q E hr h => ?_), hm, F.kp, b⟩
  obtain ⟨t, h1, h2⟩ := hbody f cdv A outer s H vs Q E hr h
  exact ⟨t, h1, h2.go⟩
/-- the same for the law's own def -/
theorem fn_run {P : Program} {w : World} {K : PySem.W.Frag} {mg : Str → Option Value} {base : Heap} {x : Str} {st : Stmt} {f : Addr} {fd : FuncData} {N ps : List Str} {k : Nat} {sp : Sp} (F : Fun K x x st f fd) (S : FnScope N ps (defScope st)) (len : ∀ vs H Q E, sp vs H Q E → vs.length = ps.length)
    (hbody : ∀ (cdv : Value) (A : Around) (outer : List Env) (s : Shared) (H : Hp) (vs : List V) (Q : VK) (E : XK), Room k (A.deeper (envOfC x (defScope st) s.heap.objs.size f cdv)) → sp vs H Q E →
      ∃ t, PSs (cxOf CX0 P w K mg base N x (defScope st) f cdv A outer s H E).nox (defBody st) t ∧ Run t { nx := fun _ H' => Q .non H', rt := Q } (start N vs) H) : FnOk P w K mg base CX0 (k + 1) f fd ps sp :=
  F.ok S len fun cdv A outer s H vs Q E hr h => by
    obtain ⟨t, h1, h2⟩ := hbody cdv A outer s H vs Q E hr h
    exact ⟨t, h1, h2.go⟩
/-- the built-in names are free -/
structure Glob (mg : Str → Option Value) : Prop where
  bi_len : mg "len" = none
  bi_abs : mg "abs" = none
  bi_max : mg "max" = none
  bi_min : mg "min" = none
  bi_int : mg "int" = none
  bi_sorted : mg "sorted" = none
  bi_tuple : mg "tuple" = none
  bi_list : mg "list" = none
  bi_isinstance : mg "isinstance" = none
  bi_all : mg "all" = none
  bi_range : mg "range" = none
  bi_bool : mg "bool" = none
  bi_str : mg "str" = none

/-! ### texts of comparisons -/
def Cmp.str : Cmp → Str
  | .lt => "<" | .le => "<=" | .eq => "=" | .ne => "!=" | .ge => ">=" | .gt => ">"
theorem Cmp.str_eq (c d : Cmp) : decide (V.str c.str = V.str d.str) = decide (c = d) := by
  have h : ∀ c d : Cmp, c.str = d.str → c = d := by
    intro c d
    cases c <;> cases d <;> first
      | (intro _; rfl)
      | (intro q; exact absurd q (by decide +kernel))
  exact decide_eq_decide.mpr ⟨fun q => h c d (V.str.inj q), fun q => by rw [q]⟩
theorem rv_eqC {c : Cmp} {H : Hp} (d : Cmp) : RV rEq (.str c.str) (.str d.str) H (.bl (decide (c = d))) := fun H1 _ Q q => ⟨rfl, by
  rw [Cmp.str_eq]
  exact q⟩
theorem rv_eqC0 {c : Cmp} {H : Hp} : RV rEq (.str c.str) (.str "<") H (.bl (decide (c = .lt))) := rv_eqC .lt
theorem rv_eqC1 {c : Cmp} {H : Hp} : RV rEq (.str c.str) (.str "<=") H (.bl (decide (c = .le))) := rv_eqC .le
theorem rv_eqC2 {c : Cmp} {H : Hp} : RV rEq (.str c.str) (.str "=") H (.bl (decide (c = .eq))) := rv_eqC .eq
theorem rv_eqC3 {c : Cmp} {H : Hp} : RV rEq (.str c.str) (.str "!=") H (.bl (decide (c = .ne))) := rv_eqC .ne
theorem rv_eqC4 {c : Cmp} {H : Hp} : RV rEq (.str c.str) (.str ">=") H (.bl (decide (c = .ge))) := rv_eqC .ge
theorem rv_eqC5 {c : Cmp} {H : Hp} : RV rEq (.str c.str) (.str ">") H (.bl (decide (c = .gt))) := rv_eqC .gt
/-- in a written pair of texts -/
theorem ev_in2 {K : PySem.W.Frag} {σ : L2.St} {H : Hp} {ta : TE} {c : Cmp} {s1 s2 : Str} (c1 c2 : Cmp) (h1 : c1.str = s1) (h2 : c2.str = s2) (ha : Ev ta σ H (.str c.str)) :
    Ev (tOp (rIn K false) ta (tTup (tCons (tC (.str s1)) (tCons (tC (.str s2)) tNil)))) σ H (.bl (decide (c = c1) || decide (c = c2))) := fun H1 e Q q => ha H1 e _ fun H2 e2 =>
  ⟨by show 2 ≤ sizeLine; decide, fun p hp => ⟨p, [.str s1, .str s2], rfl, .inr (SqT.of upd_same), rfl, rfl, by
    have eq1 : ∀ d : Cmp, eqV (.str d.str) (.str c.str) = decide (c = d) := fun d => by
      have := Cmp.str_eq c d
      rw [← this]
      show (d.str == c.str) = _
      rw [Bool.eq_iff_iff]
      simp
      exact ⟨fun q => q.symm, fun q => q.symm⟩
    have e3 : inV (.str c.str) [.str s1, .str s2] = (decide (c = c1) || decide (c = c2)) := by
      subst h1 h2
      show (eqV _ _ || (eqV _ _ || false)) = _
      rw [eq1, eq1, Bool.or_false]
    show Q (.bl (inV (.str c.str) [.str s1, .str s2])) _
    rw [e3]
    exact q _ (e2.trans (same_new hp))⟩⟩

/-! ### the comparison turned, by a written dict -/
def flips4 : List (TE × TE) := [(tC (.str "<"), tC (.str ">")), (tC (.str "<="), tC (.str ">=")), (tC (.str ">"), tC (.str "<")), (tC (.str ">="), tC (.str "<="))]
def flips6 : List (TE × TE) := [(tC (.str "<"), tC (.str ">")), (tC (.str "<="), tC (.str ">=")), (tC (.str ">"), tC (.str "<")), (tC (.str ">="), tC (.str "<=")), (tC (.str "="), tC (.str "=")), (tC (.str "!="), tC (.str "!="))]
def kvs4 : List (Key × V) := [(.inr "<", .str ">"), (.inr "<=", .str ">="), (.inr ">", .str "<"), (.inr ">=", .str "<=")]
def kvs6 : List (Key × V) := [(.inr "<", .str ">"), (.inr "<=", .str ">="), (.inr ">", .str "<"), (.inr ">=", .str "<="), (.inr "=", .str "="), (.inr "!=", .str "!=")]
theorem kvs4_at (c : Cmp) : (valV (mergeK [] kvs4) (.inr c.str)).getD (.str c.str) = .str c.flip.str := by
  cases c <;> decide +kernel
theorem kvs6_at (c : Cmp) : valV (mergeK [] kvs6) (.inr c.str) = some (.str c.flip.str) := by
  cases c <;> decide +kernel
theorem ev_flip4 {σ : L2.St} {H : Hp} {ta tb : TE} {c : Cmp} (ha : Ev ta σ H (.str c.str)) (hb : Ev tb σ H (.str c.str)) : Ev (tDGet2 (tDisp flips4) ta tb) σ H (.str c.flip.str) := fun H1 e Q q => by
  intro p hp
  refine ⟨upd_same, kvs4, rfl, by decide, p, rfl, .inl ⟨_, .inl upd_same⟩, ?_⟩
  have s1 : Same H1 (upd (upd H1 p (.dK [])) p (.dK (mergeK [] kvs4))) := by
    rw [upd_upd]
    exact same_new hp
  refine ha _ (e.trans s1) _ fun H2 e2 => hb _ ((e.trans s1).trans e2) _ fun H3 e3 => ?_
  refine ⟨_, DGet.k (k := .inr c.str) (e3 _ _ (e2 _ _ upd_same)), ?_⟩
  rw [kvs4_at]
  exact q H3 ((s1.trans e2).trans e3)
theorem ev_flip6 {σ : L2.St} {H : Hp} {ta : TE} {c : Cmp} (ha : Ev ta σ H (.str c.str)) : Ev (tDGet (tDisp flips6) ta) σ H (.str c.flip.str) := fun H1 e Q q => by
  intro p hp
  refine ⟨upd_same, kvs6, rfl, by decide, ?_⟩
  have s1 : Same H1 (upd (upd H1 p (.dK [])) p (.dK (mergeK [] kvs6))) := by
    rw [upd_upd]
    exact same_new hp
  refine ha _ (e.trans s1) _ fun H2 e2 => ⟨p, .str c.flip.str, rfl, ?_, q H2 (s1.trans e2)⟩
  have := DGet.k (k := .inr c.str) (e2 _ _ upd_same)
  rw [kvs6_at] at this
  exact this

/-! ### divisors -/
def Dv (d : Int) : Prop := 0 < d ∧ d.natAbs.log2 < 9000
theorem rv_div {i d : Int} {H : Hp} (h : Dv d) : RV (rI CDivW fun i j => .int (i / j)) (.int i) (.int d) H (.int (i / d)) := fun H1 _ _ q => ⟨i, d, rfl, rfl, h, q⟩
theorem rv_mod {i d : Int} {H : Hp} (h : 0 < d) : RV (rI (fun _ j => 0 < j) fun i j => .int (i % j)) (.int i) (.int d) H (.int (i % d)) := fun H1 _ _ q => ⟨i, d, rfl, rfl, h, q⟩
theorem rv_modD {i d : Int} {H : Hp} (h : Dv d) : RV (rI (fun _ j => 0 < j) fun i j => .int (i % j)) (.int i) (.int d) H (.int (i % d)) := rv_mod h.1
theorem dv_of {d : Int} (h : 0 < d) (b : d.natAbs < 2 ^ 60) : Dv d := ⟨h, by
  have := PySem.Flt.log2_lt_of (k := 60) (by decide) b
  omega⟩

/-! ### stages on the heap -/
def StgAt (K : PySem.W.Frag) (H : Hp) (a : Addr) : Stg → Prop
  | .scale k => SqT K H a [.str "scale", .int k]
  | .sift c b => SqT K H a [.str "sift", .str c.str, .int b]
theorem StgAt.mono {K : PySem.W.Frag} {H H' : Hp} {a : Addr} {s : Stg} (e : Same H H') (h : StgAt K H a s) : StgAt K H' a s := by
  cases s with
  | scale k => exact same_t e h
  | sift c b => exact same_t e h
theorem rv_eqK {H : Hp} {x y : Str} {b : Bool} (h : decide (x = y) = b) : RV rEq (.str x) (.str y) H (.bl b) := fun H1 _ Q q => ⟨rfl, by
  have e : decide (V.str x = V.str y) = decide (x = y) := decide_eq_decide.mpr ⟨fun h => V.str.inj h, fun h => by rw [h]⟩
  rw [e, h]
  exact q⟩
theorem rv_k1 {H : Hp} : RV rEq (.str "scale") (.str "later") H (.bl false) := rv_eqK (by decide +kernel)
theorem rv_k2 {H : Hp} : RV rEq (.str "sift") (.str "later") H (.bl false) := rv_eqK (by decide +kernel)
theorem rv_k3 {H : Hp} : RV rEq (.str "scale") (.str "sift") H (.bl false) := rv_eqK (by decide +kernel)
theorem rv_k4 {H : Hp} : RV rEq (.str "sift") (.str "sift") H (.bl true) := rv_eqK (by decide +kernel)
theorem rv_k5 {H : Hp} : RV rEq (.str "scale") (.str "only") H (.bl false) := rv_eqK (by decide +kernel)
theorem rv_k6 {H : Hp} : RV rEq (.str "scale") (.str "rekey") H (.bl false) := rv_eqK (by decide +kernel)
theorem rv_k7 {H : Hp} : RV rEq (.str "scale") (.str "scale") H (.bl true) := rv_eqK (by decide +kernel)
theorem rv_k8 {H : Hp} : RV rEq (.str "sift") (.str "scale") H (.bl false) := rv_eqK (by decide +kernel)
theorem rv_pow {i j : Int} {H : Hp} (h : CPow i j) : RV (rI CPow fun i j => .int (i ^ j.toNat)) (.int i) (.int j) H (.int (i ^ j.toNat)) := fun H1 _ _ q => ⟨i, j, rfl, rfl, h, q⟩
theorem rv_mul {i j : Int} {H : Hp} (h : CMul i j) : RV (rI CMul fun i j => .int (i * j)) (.int i) (.int j) H (.int (i * j)) := fun H1 _ _ q => ⟨i, j, rfl, rfl, h, q⟩

/-! ### lists made of lists -/
section
variable {K : PySem.W.Frag} {σ : L2.St} {H : Hp} {te tf : TE} {xs ys : List V}
theorem evr_rev (h : EvR te σ H (fun v H1 => ∃ p, v = .ref p ∧ SqL K H1 p xs)) : EvR (tRevL K te) σ H (fun v H1 => ∃ p, v = .ref p ∧ H1 p = some (.lst xs.reverse)) := fun H1 e Q q =>
  h H1 e _ fun v H2 e2 ⟨p, ev, hp⟩ => ⟨p, xs, ev, hp, fun p2 hp2 => q _ _ (e2.trans (same_new hp2)) ⟨p2, rfl, upd_same⟩⟩
theorem evr_tupOf (h : EvR te σ H (fun v H1 => ∃ p, v = .ref p ∧ SqL K H1 p xs)) :
    EvR (tCB (fun xs H Q => ∃ p ys, xs = [.ref p] ∧ ((SqL K H p ys ∧ ∀ l, H l = none → Q (.ref l) (upd H l (.tup ys))) ∨ (SqT K H p ys ∧ Q (.ref p) H))) (tCons te tNil)) σ H (fun v H1 => ∃ p, v = .ref p ∧ H1 p = some (.tup xs)) := fun H1 e Q q =>
  h H1 e _ fun v H2 e2 ⟨p, ev, hp⟩ => ⟨p, xs, by rw [ev], .inl ⟨hp, fun l hl => q _ _ (e2.trans (same_new hl)) ⟨l, rfl, upd_same⟩⟩⟩
theorem evr_lstOfT {a : Addr} (h : Ev te σ H (.ref a)) (hx : SqT K H a xs) :
    EvR (tCB (fun xs H Q => ∃ p ys, xs = [.ref p] ∧ (SqL K H p ys ∨ SqT K H p ys) ∧ ∀ l, H l = none → Q (.ref l) (upd H l (.lst ys))) (tCons te tNil)) σ H (fun v H1 => ∃ p, v = .ref p ∧ H1 p = some (.lst xs)) := fun H1 e Q q =>
  h H1 e _ fun H2 e2 => ⟨a, xs, rfl, .inr (same_t (e.trans e2) hx), fun l hl => q _ _ (e2.trans (same_new hl)) ⟨l, rfl, upd_same⟩⟩
theorem evr_lstOfL {a : Addr} (h : Ev te σ H (.ref a)) (hx : SqL K H a xs) :
    EvR (tCB (fun xs H Q => ∃ p ys, xs = [.ref p] ∧ (SqL K H p ys ∨ SqT K H p ys) ∧ ∀ l, H l = none → Q (.ref l) (upd H l (.lst ys))) (tCons te tNil)) σ H (fun v H1 => ∃ p, v = .ref p ∧ H1 p = some (.lst xs)) := fun H1 e Q q =>
  h H1 e _ fun H2 e2 => ⟨a, xs, rfl, .inl (same_l (e.trans e2) hx), fun l hl => q _ _ (e2.trans (same_new hl)) ⟨l, rfl, upd_same⟩⟩
theorem evr_lstR {ta : TA} {RA : List V → Hp → Prop} {R : V → Hp → Prop} (h : EvAR ta σ H RA) (hl : ∀ vs H1, RA vs H1 → vs.length ≤ 1000) (k : ∀ vs p H1 H2, Same H H1 → Same H1 H2 → RA vs H1 → H1 p = none → H2 p = some (.lst vs) → R (.ref p) H2) : EvR (tLst ta) σ H R := fun H1 e Q q =>
  h H1 e _ fun vs H2 e2 rv => ⟨sz1000 (hl vs H2 rv), fun p hp => q _ _ (e2.trans (same_new hp)) (k vs p H2 _ (e.trans e2) (same_new hp) rv hp upd_same)⟩
theorem evr_cat (h : EvR te σ H (fun v H1 => ∃ p, v = .ref p ∧ H1 p = some (.lst xs))) (k : EvR tf σ H (fun v H1 => ∃ p, v = .ref p ∧ H1 p = some (.lst ys))) (hl : xs.length + ys.length ≤ 1000) :
    EvR (tOp rCat te tf) σ H (fun v H1 => ∃ p, v = .ref p ∧ H1 p = some (.lst (xs ++ ys))) := fun H1 e Q q =>
  h H1 e _ fun v H2 e2 ⟨p, ev, hp⟩ => k H2 (e.trans e2) _ fun w H3 e3 ⟨p2, ew, hp2⟩ => ⟨p, p2, xs, ys, ev, ew, e3 _ _ hp, hp2, sz1000 hl, fun l hl => q _ _ ((e2.trans e3).trans (same_new hl)) ⟨l, rfl, upd_same⟩⟩
theorem evr_sorted {ns : List Int} (h : EvR te σ H (fun v H1 => ∃ p, v = .ref p ∧ SqL K H1 p (ns.map V.int))) (hl : ns.length < 64) :
    EvR (tCB (rSorted K) (tCons te tNil)) σ H (fun v H1 => ∃ (p : Addr) (ns' : List Int), v = .ref p ∧ H1 p = some (.lst (ns'.map V.int)) ∧ ns'.Perm ns ∧ ns'.Pairwise (· ≤ ·)) := fun H1 e Q q =>
  h H1 e _ fun v H2 e2 ⟨p, ev, hp⟩ => ⟨p, ns, by rw [ev], hp, hl, fun ns' l pm so hl => q _ _ (e2.trans (same_new hl)) ⟨l, ns', rfl, upd_same, pm, so⟩⟩
theorem evr_max {ns : List Int} (h : EvR te σ H (fun v H1 => ∃ p, v = .ref p ∧ SqL K H1 p (ns.map V.int))) (hl : 0 < ns.length) :
    EvR (tCB (rMax K) (tCons te tNil)) σ H (fun v _ => ∃ m, v = .int m ∧ m ∈ ns ∧ ∀ y, y ∈ ns → y ≤ m) := fun H1 e Q q =>
  h H1 e _ fun v H2 e2 ⟨p, ev, hp⟩ => ⟨p, ns, by rw [ev], hp, hl, fun m a b => q _ _ e2 ⟨m, rfl, a, b⟩⟩
theorem evr_all {bs : List Bool} (h : EvR te σ H (fun v H1 => ∃ p, v = .ref p ∧ SqL K H1 p (bs.map V.bl))) : EvR (tCB (rAll K) (tCons te tNil)) σ H (fun v _ => v = .bl (bs.all id)) := fun H1 e Q q =>
  h H1 e _ fun v H2 e2 ⟨p, ev, hp⟩ => ⟨p, bs, by rw [ev], hp, q _ _ e2 rfl⟩
end

/-! ### isinstance -/
section
variable {K : PySem.W.Frag} {σ : L2.St} {H : Hp} {te : TE} {x : V} {T : String}
/-- its type, whatever is made besides -/
def OfTy (K : PySem.W.Frag) (H : Hp) (x : V) (T : String) : Prop := ∀ H1, Same H H1 → TyX K H1 x (.type T)
theorem OfTy.mono {H' : Hp} (e : Same H H') (h : OfTy K H x T) : OfTy K H' x T := fun H1 a => h H1 (e.trans a)
theorem ofTy_non : OfTy K H .non "NoneType" := fun _ _ => .base .non
theorem ofTy_int (i : Int) : OfTy K H (.int i) "int" := fun _ _ => .base (.int i)
theorem ofTy_bl (b : Bool) : OfTy K H (.bl b) "bool" := fun _ _ => .base (.bl b)
theorem ofTy_tup {a : Addr} {xs : List V} (h : SqT K H a xs) : OfTy K H (.ref a) "tuple" := fun H1 e => by
  rcases same_t e h with (h | ⟨o, h⟩) | ⟨o, its, n, h, hc, _⟩
  · exact .base (.tup h)
  · exact .fTuple h
  · exact .kTuple h hc
theorem ev_isi {c : String} {b : Bool} (k : kitB T c = some b) (h : Ev te σ H x) (ty : OfTy K H x T) : Ev (tCB (rIsi K) (tCons te (tCons (tC (.ty c)) tNil))) σ H (.bl b) := fun H1 e Q q =>
  h H1 e _ fun H2 e2 => ⟨x, .ty c, .type T, .type c, b, rfl, .ty c, ty H2 (e.trans e2), kit_ty k, q H2 e2⟩
theorem ev_isiLT {b c : Bool} (k1 : kitB T "list" = some b) (k2 : kitB T "tuple" = some c) (h : Ev te σ H x) (ty : OfTy K H x T) :
    Ev (tCB (rIsiT K) (tCons te (tCons (tTup (tCons (tC (.ty "list")) (tCons (tC (.ty "tuple")) tNil))) tNil))) σ H (.bl (b || c)) := fun H1 e Q q =>
  h H1 e _ fun H2 e2 => ⟨by show 2 ≤ sizeLine; decide, fun p hp => ⟨x, p, [.ty "list", .ty "tuple"], .type T, [.type "list", .type "tuple"], b || c, rfl, upd_same, .cons (.ty _) (.cons (.ty _) .nil),
    ty _ ((e.trans e2).trans (same_new hp)), kitAny_cons (kit_ty k1) (fun hb => kitAny_cons (kit_ty k2) (fun hc => by rw [hb, hc]; exact kitAny_nil) (fun hc => by rw [hc]; exact Bool.or_true _)) (fun hb => by rw [hb]; rfl), q _ (e2.trans (same_new hp))⟩⟩
end

/-! ### shows on the heap -/
def oV : Option Int → V
  | none => .non
  | some i => .int i
def ShAt (K : PySem.W.Frag) (H : Hp) (a : Addr) (s : Sh) : Prop := ∃ t, SqT K H a [.non, oV s.low, oV s.high, .ref t, .int s.f, .non] ∧ SqT K H t (s.holes.map V.int)
theorem ShAt.mono {K : PySem.W.Frag} {H H' : Hp} {a : Addr} {s : Sh} (e : Same H H') (h : ShAt K H a s) : ShAt K H' a s := by
  obtain ⟨t, h1, h2⟩ := h
  exact ⟨t, same_t e h1, same_t e h2⟩
def ShV (K : PySem.W.Frag) (H : Hp) (v : V) : Option Sh → Prop
  | none => v = .non
  | some s => ∃ a, v = .ref a ∧ ShAt K H a s
theorem ShV.mono {K : PySem.W.Frag} {H H' : Hp} {v : V} {o : Option Sh} (e : Same H H') (h : ShV K H v o) : ShV K H' v o := by
  cases o with
  | none => exact h
  | some s =>
    obtain ⟨a, e1, h1⟩ := h
    exact ⟨a, e1, h1.mono e⟩
end TF
namespace TF
open PySem PySem.Spec PyProof.Rows L2
/-! ### short words for the readings -/
local macro_rules | `(tactic| walk_at "tf rv") => `(tactic| first
  | exact rv_I0 | exact rv_eqI | exact rv_isNi | exact rv_isN0 | exact rv_notNi | exact rv_notN0 | exact rv_isNr | exact rv_notNr | exact rv_neI | exact rv_isNb | exact rv_isNs
  | exact rv_eqC0 | exact rv_eqC1 | exact rv_eqC2 | exact rv_eqC3 | exact rv_eqC4 | exact rv_eqC5 | exact rv_neB
  | exact rv_inT (by assumption) | exact rv_niT (by assumption) | exact rv_inL (by assumption) | exact rv_niL (by assumption) | exact rv_ixT (by assumption) rfl | exact rv_ixL (by assumption) rfl
  | exact rv_div (by assumption) | exact rv_modD (by assumption) | exact rv_mod (by assumption) | exact rv_mod (by decide) | exact rv_div ⟨by decide, by decide⟩ | exact rv_mul (by assumption)
  | exact rv_k1 | exact rv_k2 | exact rv_k3 | exact rv_k4 | exact rv_k5 | exact rv_k6 | exact rv_k7 | exact rv_k8)
local macro_rules | `(tactic| walk_at "tf sp") => `(tactic| assumption)
local macro_rules | `(tactic| walk_at "tf ea") => `(tactic| first
  | exact ea_nil
  | (refine' ea_cons ?ha ?hb; (case ha => walk_at "tf ev"); (case hb => walk_at "tf ea")))
local macro_rules | `(tactic| walk_at "tf ev") => `(tactic| first
  | exact ev_c
  | exact ev_var rfl
  | (refine' ev_op ?ha ?hb ?hc; (case ha => walk_at "tf ev"); (case hb => walk_at "tf ev"); (case hc => walk_at "tf rv"))
  | (refine' ev_un ?ha ru_neg; (case ha => walk_at "tf ev"))
  | (refine' ev_cb ?ha ?hb; (case ha => walk_at "tf ea"); (case hb => first | exact rc_max2 | exact rc_min2 | exact rc_abs | exact rc_int | exact rc_lenT (by assumption) | exact rc_lenL (by assumption)))
  | (refine' ev_call ?ha ?hb; (case ha => walk_at "tf ea"); (case hb => walk_at "tf sp"))
  | (refine' ev_ift ?ha ?hb; (case ha => walk_at "tf et"); (case hb => walk_at "tf ev"))
  | (refine' ev_iff ?ha ?hb; (case ha => walk_at "tf et"); (case hb => walk_at "tf ev")))
local macro_rules | `(tactic| walk_at "tf et") => `(tactic| first
  | (refine' et_test ?ha; (case ha => walk_at "tf ev"))
  | (refine' et_B ?ha; (case ha => walk_at "tf ev"))
  | (refine' et_not ?ha; (case ha => walk_at "tf et"))
  | (refine' et_andf ?ha; (case ha => walk_at "tf et"))
  | (refine' et_andt ?ha ?hb; (case ha => walk_at "tf et"); (case hb => walk_at "tf et"))
  | (refine' et_and ?ha ?hb; (case ha => walk_at "tf et"); (case hb => walk_at "tf et"))
  | (refine' et_ort ?ha; (case ha => walk_at "tf et"))
  | (refine' et_orf ?ha ?hb; (case ha => walk_at "tf et"); (case hb => walk_at "tf et"))
  | (refine' et_or ?ha ?hb; (case ha => walk_at "tf et"); (case hb => walk_at "tf et")))
/-- what a test of known outcome leaves -/
local macro_rules | `(tactic| walk_at "tf k") => `(tactic| first
  | refine ⟨fun _ => ?_, fun z => (Bool.false_ne_true z.symm).elim⟩
  | refine ⟨fun z => (Bool.false_ne_true z).elim, fun _ => run_nx ?_⟩
  | refine ⟨fun z => (Bool.false_ne_true z).elim, fun _ => ?_⟩
  | refine ⟨fun hb => ?_, fun hb => run_nx ?_⟩
  | refine ⟨fun hb => ?_, fun hb => ?_⟩)
local macro_rules | `(tactic| walk_at "tf if") => `(tactic| (refine' run_if ?hif ?kif; (case hif => walk_at "tf et"); walk_at "tf k"))
local macro_rules | `(tactic| walk_at "tf set") => `(tactic| (refine' run_set ?hset ?kset; (case hset => walk_at "tf ev")))
local macro_rules | `(tactic| walk_at "tf ret") => `(tactic| (refine' run_ret ?hret ?kret; (case hret => walk_at "tf ev")))
section

section
variable {P : Program} {w : World} {K : PySem.W.Frag} {mg : Str → Option Value} {base : Heap}
/-! ### passes -/
-- passes: topS 1; slots comparison=0 value=1 bound=2; cells []; callees []
abbrev s_passes : Stmt := topS 1
theorem sc_passes : FnScope ["comparison", "value", "bound"] ["comparison", "value", "bound"] (defScope s_passes) := ⟨rfl, rfl, rfl, by decide +kernel, rfl, by decide +kernel, by decide +kernel⟩
def spPasses : Sp := fun vs H Q _ => ∃ (c : Cmp) (v b : Int), vs = [.str c.str, .int v, .int b] ∧ ∀ H', Same H H' → Q (.bl (c.test v b)) H'
theorem spv_passes {c : Cmp} {v b : Int} {H : Hp} : SpV spPasses [.str c.str, .int v, .int b] H (.bl (c.test v b)) := fun H1 _ Q q => ⟨c, v, b, rfl, q⟩
theorem ok_passes (D : Has K mg "passes" s_passes ["comparison", "value", "bound"]) : Cal P w K mg base 1 "passes" spPasses := by
  have sc := sc_passes
  refine D.cal sc (fun vs H Q E h => ?_) (fun f cdv A outer s H vs Q E hr h => ?_)
  · obtain ⟨c, v, b, rfl, _⟩ := h
    rfl
  · obtain ⟨c, v, b, rfl, q⟩ := h
    refine ⟨_, (pss_cons (ps_if (pt_cmpR op_eq (pv 0) pe_str (nomark _)) (pss_one (ps_ret (pe_cmpR op_lt (pv 1) (pv 2) (nomark _)))) pss_nil)
    (pss_cons (ps_if (pt_cmpR op_eq (pv 0) pe_str (nomark _)) (pss_one (ps_ret (pe_cmpR op_le (pv 1) (pv 2) (nomark _)))) pss_nil)
    (pss_cons (ps_if (pt_cmpR op_eq (pv 0) pe_str (nomark _)) (pss_one (ps_ret (pe_cmpR op_eq (pv 1) (pv 2) (nomark _)))) pss_nil)
    (pss_cons (ps_if (pt_cmpR op_eq (pv 0) pe_str (nomark _)) (pss_one (ps_ret (pe_cmpR op_ne (pv 1) (pv 2) (nomark _)))) pss_nil)
    (pss_one (ps_ret (pe_ifExp (pt_cmpR op_eq (pv 0) pe_str (nomark _)) (pe_cmpR op_ge (pv 1) (pv 2) (nomark _)) (pe_cmpR op_gt (pv 1) (pv 2) (nomark _))))))))), ?_⟩
    walk_at "tf if"
    · cases of_decide_eq_true (by assumption)
      walk_at "tf ret"
      exact q
    walk_at "tf if"
    · cases of_decide_eq_true (by assumption)
      walk_at "tf ret"
      exact q
    walk_at "tf if"
    · cases of_decide_eq_true (by assumption)
      walk_at "tf ret"
      exact q
    walk_at "tf if"
    · cases of_decide_eq_true (by assumption)
      walk_at "tf ret"
      exact q
    rename_i h1 h2 h3 h4
    refine run_ret (v := .bl (c.test v b)) (ev_if (b := decide (c = .ge)) (by walk_at "tf et") (fun hb => ?_) (fun hb => ?_)) q
    · cases of_decide_eq_true hb
      walk_at "tf ev"
    · have e : c = .gt := by cases c <;> simp_all
      subst e
      walk_at "tf ev"
/-! ### _law_passes: the same -/
-- _law_passes: topS 27; slots _law_comparison=0 _law_value=1 _law_bound_here=2; cells []; callees []
abbrev s_law_passes : Stmt := topS 27
theorem sc_law_passes : FnScope ["_law_comparison", "_law_value", "_law_bound_here"] ["_law_comparison", "_law_value", "_law_bound_here"] (defScope s_law_passes) := ⟨rfl, rfl, rfl, by decide +kernel, rfl, by decide +kernel, by decide +kernel⟩
theorem ok_law_passes (D : Has K mg "_law_passes" s_law_passes ["_law_comparison", "_law_value", "_law_bound_here"]) : Cal P w K mg base 1 "_law_passes" spPasses := by
  have sc := sc_law_passes
  refine D.cal sc (fun vs H Q E h => ?_) (fun f cdv A outer s H vs Q E hr h => ?_)
  · obtain ⟨c, v, b, rfl, _⟩ := h
    rfl
  · obtain ⟨c, v, b, rfl, q⟩ := h
    refine ⟨_, (pss_cons (ps_if (pt_cmpR op_eq (pv 0) pe_str (nomark _)) (pss_one (ps_ret (pe_cmpR op_lt (pv 1) (pv 2) (nomark _)))) pss_nil)
    (pss_cons (ps_if (pt_cmpR op_eq (pv 0) pe_str (nomark _)) (pss_one (ps_ret (pe_cmpR op_le (pv 1) (pv 2) (nomark _)))) pss_nil)
    (pss_cons (ps_if (pt_cmpR op_eq (pv 0) pe_str (nomark _)) (pss_one (ps_ret (pe_cmpR op_eq (pv 1) (pv 2) (nomark _)))) pss_nil)
    (pss_cons (ps_if (pt_cmpR op_eq (pv 0) pe_str (nomark _)) (pss_one (ps_ret (pe_cmpR op_ne (pv 1) (pv 2) (nomark _)))) pss_nil)
    (pss_cons (ps_if (pt_cmpR op_eq (pv 0) pe_str (nomark _)) (pss_one (ps_ret (pe_cmpR op_ge (pv 1) (pv 2) (nomark _)))) pss_nil)
    (pss_one (ps_ret (pe_cmpR op_gt (pv 1) (pv 2) (nomark _))))))))), ?_⟩
    walk_at "tf if"
    · cases of_decide_eq_true (by assumption)
      walk_at "tf ret"
      exact q
    walk_at "tf if"
    · cases of_decide_eq_true (by assumption)
      walk_at "tf ret"
      exact q
    walk_at "tf if"
    · cases of_decide_eq_true (by assumption)
      walk_at "tf ret"
      exact q
    walk_at "tf if"
    · cases of_decide_eq_true (by assumption)
      walk_at "tf ret"
      exact q
    walk_at "tf if"
    · cases of_decide_eq_true (by assumption)
      walk_at "tf ret"
      exact q
    rename_i h1 h2 h3 h4 h5
    have e : c = .gt := by cases c <;> simp_all
    subst e
    walk_at "tf ret"
    exact q
/-! ### rounded_up, greater, lesser -/
-- rounded_up: topS 4; slots number=0 divisor=1; cells []; callees []
abbrev s_rounded_up : Stmt := topS 4
theorem sc_rounded_up : FnScope ["number", "divisor"] ["number", "divisor"] (defScope s_rounded_up) := ⟨rfl, rfl, rfl, by decide +kernel, rfl, by decide +kernel, by decide +kernel⟩
def spRoundedUp : Sp := fun vs H Q _ => ∃ n d : Int, vs = [.int n, .int d] ∧ Dv d ∧ ∀ H', Same H H' → Q (.int (-((-n) / d))) H'
theorem spv_rounded_up {n d : Int} {H : Hp} (h : Dv d) : SpV spRoundedUp [.int n, .int d] H (.int (-((-n) / d))) := fun H1 _ Q q => ⟨n, d, rfl, h, q⟩
theorem ok_rounded_up (D : Has K mg "rounded_up" s_rounded_up ["number", "divisor"]) : Cal P w K mg base 1 "rounded_up" spRoundedUp := by
  have sc := sc_rounded_up
  refine D.cal sc (fun vs H Q E h => ?_) (fun f cdv A outer s H vs Q E hr h => ?_)
  · obtain ⟨n, d, rfl, _⟩ := h
    rfl
  · obtain ⟨n, d, rfl, hd, q⟩ := h
    refine ⟨_, (pss_one (ps_ret (pe_un un_neg (pe_op op_fdivW (pe_un un_neg (pv 0)) (pv 1))))), ?_⟩
    walk_at "tf ret"
    exact q
def maxO : Option Int → Int → Int
  | none, b => b
  | some a, b => max a b
def minO : Option Int → Int → Int
  | none, b => b
  | some a, b => min a b
-- greater: topS 6; slots first=0 second=1; cells []; callees []
abbrev s_greater : Stmt := topS 6
theorem sc_greater : FnScope ["first", "second"] ["first", "second"] (defScope s_greater) := ⟨rfl, rfl, rfl, by decide +kernel, rfl, by decide +kernel, by decide +kernel⟩
def spGreater : Sp := fun vs H Q _ => ∃ (a : Option Int) (b : Int), vs = [oV a, .int b] ∧ ∀ H', Same H H' → Q (.int (maxO a b)) H'
theorem spv_greater {a : Option Int} {b : Int} {H : Hp} : SpV spGreater [oV a, .int b] H (.int (maxO a b)) := fun H1 _ Q q => ⟨a, b, rfl, q⟩
theorem ok_greater (G : Glob mg) (D : Has K mg "greater" s_greater ["first", "second"]) : Cal P w K mg base 1 "greater" spGreater := by
  have sc := sc_greater
  refine D.cal sc (fun vs H Q E h => ?_) (fun f cdv A outer s H vs Q E hr h => ?_)
  · obtain ⟨a, b, rfl, _⟩ := h
    rfl
  · obtain ⟨a, b, rfl, q⟩ := h
    refine ⟨_, (pss_cons (ps_if (PW.pt (pw_or (pt_cmpR op_isN (pv 0) pe_non (nomark _)) (pw_or1 (pt_cmpR op_isN (pv 1) pe_non (nomark _))))) (pss_one (ps_ret (pe_ifExp (pt_cmpR op_isN (pv 0) pe_non (nomark _)) (pv 1) (pv 0)))) pss_nil)
    (pss_one (ps_ret (pe_callB (call_max2 rfl) (by rfl) G.bi_max (by decide +kernel) (pa_cons (pv 0) (pa_cons (pv 1) pa_nil)))))), ?_⟩
    cases a with
    | none =>
      walk_at "tf if"
      walk_at "tf ret"
      exact q
    | some a =>
      walk_at "tf if"
      walk_at "tf ret"
      exact q
-- lesser: topS 7; slots first=0 second=1; cells []; callees []
abbrev s_lesser : Stmt := topS 7
theorem sc_lesser : FnScope ["first", "second"] ["first", "second"] (defScope s_lesser) := ⟨rfl, rfl, rfl, by decide +kernel, rfl, by decide +kernel, by decide +kernel⟩
def spLesser : Sp := fun vs H Q _ => ∃ (a : Option Int) (b : Int), vs = [oV a, .int b] ∧ ∀ H', Same H H' → Q (.int (minO a b)) H'
theorem spv_lesser {a : Option Int} {b : Int} {H : Hp} : SpV spLesser [oV a, .int b] H (.int (minO a b)) := fun H1 _ Q q => ⟨a, b, rfl, q⟩
theorem ok_lesser (G : Glob mg) (D : Has K mg "lesser" s_lesser ["first", "second"]) : Cal P w K mg base 1 "lesser" spLesser := by
  have sc := sc_lesser
  refine D.cal sc (fun vs H Q E h => ?_) (fun f cdv A outer s H vs Q E hr h => ?_)
  · obtain ⟨a, b, rfl, _⟩ := h
    rfl
  · obtain ⟨a, b, rfl, q⟩ := h
    refine ⟨_, (pss_cons (ps_if (PW.pt (pw_or (pt_cmpR op_isN (pv 0) pe_non (nomark _)) (pw_or1 (pt_cmpR op_isN (pv 1) pe_non (nomark _))))) (pss_one (ps_ret (pe_ifExp (pt_cmpR op_isN (pv 0) pe_non (nomark _)) (pv 1) (pv 0)))) pss_nil)
    (pss_one (ps_ret (pe_callB (call_min2 rfl) (by rfl) G.bi_min (by decide +kernel) (pa_cons (pv 0) (pa_cons (pv 1) pa_nil)))))), ?_⟩
    cases a with
    | none =>
      walk_at "tf if"
      walk_at "tf ret"
      exact q
    | some a =>
      walk_at "tf if"
      walk_at "tf ret"
      exact q
/-! ### turned -/
-- turned: topS 5; slots comparison=0 bound=1 factor=2; cells []; callees ['rounded_up']
abbrev s_turned : Stmt := topS 5
theorem sc_turned : FnScope ["comparison", "bound", "factor"] ["comparison", "bound", "factor"] (defScope s_turned) := ⟨rfl, rfl, rfl, by decide +kernel, rfl, by decide +kernel, by decide +kernel⟩
def spTurned : Sp := fun vs H Q _ => ∃ (c : Cmp) (b f : Int), vs = [.str c.str, .int b, .int f] ∧ f ≠ 0 ∧ f.natAbs < 2 ^ 60 ∧
  ∀ (p : Addr) (c' : Cmp) (o : Option Int) H', Same H H' → H' p = some (.tup [.str c'.str, oV o]) → Turned c b f c' o → Q (.ref p) H'
local macro_rules | `(tactic| walk_at "tf sp") => `(tactic| exact spv_rounded_up (by assumption))
theorem ok_turned (G : Glob mg) (C_rounded_up : Cal P w K mg base 1 "rounded_up" spRoundedUp) (D : Has K mg "turned" s_turned ["comparison", "bound", "factor"]) : Cal P w K mg base 2 "turned" spTurned := by
  have sc := sc_turned
  refine D.cal sc (fun vs H Q E h => ?_) (fun f cdv A outer s H vs Q E hr h => ?_)
  · obtain ⟨c, b, f, rfl, _⟩ := h
    rfl
  · obtain ⟨c, b, f, rfl, hf, hz, q⟩ := h
    refine ⟨_, (Evl.pss_cut (ps_if (pt_cmpR op_lt (pv 2) pe_int (nomark _)) (pss_cons (ps_set (i := 0) sc.nd rfl (Or.inl rfl) (pe_dget2 (hu_of hr) (pe_disp (pps_cons pe_str pe_str (pps_cons pe_str pe_str (pps_cons pe_str pe_str (pps_cons pe_str pe_str pps_nil)))) (by rfl) (by rfl) (fun z => by cases z) (by decide)) (pv 0) (pv 0) ⟨rfl, rfl, rfl, rfl⟩))
      (pss_one (ps_par (i := 1) (j := 2) rfl sc.nd rfl rfl (by decide) rfl rfl (pa_cons (pe_un un_neg (pv 1)) (pa_cons (pe_un un_neg (pv 2)) pa_nil)) rfl))) pss_nil)
    (pss_cons (ps_if (pt_cmpR op_in_seq (pv 0) (pe_tup (pa_cons pe_str (pa_cons pe_str pa_nil))) (by with_unfolding_all rfl)) (pss_one (ps_ret (pe_ifExp (pt_cmpR op_eq (pe_op op_mod (pv 1) (pv 2)) pe_int (nomark _)) (pe_tup (pa_cons (pv 0) (pa_cons (pe_op op_fdivW (pv 1) (pv 2)) pa_nil))) (pe_tup (pa_cons (pv 0) (pa_cons pe_non pa_nil)))))) pss_nil)
    (pss_cons (ps_if (pt_cmpR op_eq (pv 0) pe_str (nomark _)) (pss_one (ps_ret (pe_tup (pa_cons pe_str (pa_cons (pe_op op_sub (pe_c C_rounded_up hr (by omega) (by rfl) (pa_cons (pv 1) (pa_cons (pv 2) pa_nil))) pe_int) pa_nil))))) pss_nil)
    (pss_cons (ps_if (pt_cmpR op_eq (pv 0) pe_str (nomark _)) (pss_one (ps_ret (pe_tup (pa_cons pe_str (pa_cons (pe_op op_fdivW (pv 1) (pv 2)) pa_nil))))) pss_nil)
    (pss_cons (ps_if (pt_cmpR op_eq (pv 0) pe_str (nomark _)) (pss_one (ps_ret (pe_tup (pa_cons pe_str (pa_cons (pe_op op_add (pe_op op_fdivW (pv 1) (pv 2)) pe_int) pa_nil))))) pss_nil)
    (pss_one (ps_ret (pe_tup (pa_cons pe_str (pa_cons (pe_c C_rounded_up hr (by omega) (by rfl) (pa_cons (pv 1) (pa_cons (pv 2) pa_nil))) pa_nil)))))))))), ?_⟩
    refine run_cut (fun σ' => ∃ (c1 : Cmp) (b1 f1 : Int), σ' = [some (.str c1.str), some (.int b1), some (.int f1)] ∧ Dv f1 ∧ ∀ c' o, Turned c1 b1 f1 c' o → Turned c b f c' o) ?_ ?_
    · refine run_if1 (b := decide (f < 0)) (by walk_at "tf et") ⟨fun hb => ?_, fun hb => ?_⟩
      · have hlt := of_decide_eq_true hb
        refine run_set (ev_flip4 (ev_var rfl) (ev_var rfl)) ?_
        refine run_par1 (by walk_at "tf ea") fun H1 e => ⟨⟨c.flip, -b, -f, rfl, dv_of (by omega) (by omega), fun c' o t => t.neg⟩, e⟩
      · have hge := of_decide_eq_false hb
        exact fun H1 e => ⟨⟨c, b, f, rfl, dv_of (by omega) hz, fun c' o t => t⟩, e⟩
    · rintro σ' ⟨c1, b1, f1, rfl, hd, ht⟩
      have q' : ∀ (p : Addr) (c' : Cmp) (o : Option Int) H', Same H H' → H' p = some (.tup [.str c'.str, oV o]) → Turned c1 b1 f1 c' o → Q (.ref p) H' := fun p c' o H' e hp t => q p c' o H' e hp (ht c' o t)
      refine run_if (b := decide (c1 = .eq) || decide (c1 = .ne)) (et_test (ev_in2 .eq .ne rfl rfl (ev_var rfl))) ⟨fun hb => ?_, fun hb => run_nx ?_⟩
      · refine run_retR (evr_if (R := fun v H' => Q v H') (b := decide (b1 % f1 = 0)) (by walk_at "tf et") (fun hm => ?_) (fun hm => ?_)) (fun v H1 e r => r)
        · have hm := of_decide_eq_true hm
          refine evr_tup (by walk_at "tf ea") (Nat.le_of_ble_eq_true rfl) fun p H1 e hp => ?_
          rcases Bool.or_eq_true_iff.mp hb with h | h
          · cases of_decide_eq_true h
            exact q' p .eq (some (b1 / f1)) H1 e hp (turned_eq hd.1 hm)
          · cases of_decide_eq_true h
            exact q' p .ne (some (b1 / f1)) H1 e hp (turned_ne hd.1 hm)
        · have hm := of_decide_eq_false hm
          refine evr_tup (by walk_at "tf ea") (Nat.le_of_ble_eq_true rfl) fun p H1 e hp => ?_
          rcases Bool.or_eq_true_iff.mp hb with h | h
          · cases of_decide_eq_true h
            exact q' p .eq none H1 e hp (turned_eq0 hm)
          · cases of_decide_eq_true h
            exact q' p .ne none H1 e hp (turned_ne0 hm)
      obtain ⟨h1, h2⟩ := Bool.or_eq_false_iff.mp hb
      walk_at "tf if"
      · cases of_decide_eq_true (by assumption)
        refine run_retR (evr_tup (R := fun v H' => Q v H') (by walk_at "tf ea") (Nat.le_of_ble_eq_true rfl) fun p H1 e hp => ?_) (fun v H1 e r => r)
        exact q' p .le (some _) H1 e hp (turned_lt hd.1)
      walk_at "tf if"
      · cases of_decide_eq_true (by assumption)
        refine run_retR (evr_tup (R := fun v H' => Q v H') (by walk_at "tf ea") (Nat.le_of_ble_eq_true rfl) fun p H1 e hp => ?_) (fun v H1 e r => r)
        exact q' p .le (some _) H1 e hp (turned_le hd.1)
      walk_at "tf if"
      · cases of_decide_eq_true (by assumption)
        refine run_retR (evr_tup (R := fun v H' => Q v H') (by walk_at "tf ea") (Nat.le_of_ble_eq_true rfl) fun p H1 e hp => ?_) (fun v H1 e r => r)
        exact q' p .ge (some _) H1 e hp (turned_gt hd.1)
      rename_i h3 h4 h5
      have e : c1 = .ge := by cases c1 <;> simp_all
      subst e
      refine run_retR (evr_tup (R := fun v H' => Q v H') (by walk_at "tf ea") (Nat.le_of_ble_eq_true rfl) fun p H1 e hp => ?_) (fun v H1 e r => r)
      exact q' p .ge (some _) H1 e hp (turned_ge hd.1)
end
end
section

section
variable {P : Program} {w : World} {K : PySem.W.Frag} {mg : Str → Option Value} {base : Heap}
/-! ### shows_value, is_shown, _law_inside -/
theorem memF_low {l v : Int} {high : Option Int} {holes : List Int} (h : v < l) : false = decide (Mem (some l) high holes v) :=
  (decide_eq_false fun m => by
    have := m.1 l rfl
    omega).symm
theorem memF_high {u v : Int} {low : Option Int} {holes : List Int} (h : u < v) : false = decide (Mem low (some u) holes v) :=
  (decide_eq_false fun m => by
    have := m.2.1 u rfl
    omega).symm
theorem memI {v : Int} {low high : Option Int} {holes : List Int} (hl : ∀ l, low = some l → ¬ v < l) (hu : ∀ u, high = some u → ¬ u < v) : (!decide (v ∈ holes)) = decide (Mem low high holes v) := by
  by_cases h : v ∈ holes
  · rw [decide_eq_true h, decide_eq_false fun m => m.2.2 h]
    rfl
  · rw [decide_eq_false h, decide_eq_true (p := Mem low high holes v) ⟨fun l e => by have := hl l e; omega, fun u e => by have := hu u e; omega, h⟩]
    rfl
def spShows (K : PySem.W.Frag) : Sp := fun vs H Q _ => ∃ (a : Addr) (s : Sh) (v : Int), vs = [.ref a, .int v] ∧ ShAt K H a s ∧ ∀ H', Same H H' → Q (.bl (decide (s.mem v))) H'
theorem spv_shows {a : Addr} {s : Sh} {v : Int} {H : Hp} (h : ShAt K H a s) : SpV (spShows K) [.ref a, .int v] H (.bl (decide (s.mem v))) := fun H1 e Q q => ⟨a, s, v, rfl, h.mono e, q⟩
local macro_rules | `(tactic| walk_at "tf sp") => `(tactic| exact spv_shows (by assumption))
-- shows_value: topS 12; slots show=0 value=1; cells []; callees []
abbrev s_shows_value : Stmt := topS 12
theorem sc_shows_value : FnScope ["show", "value"] ["show", "value"] (defScope s_shows_value) := ⟨rfl, rfl, rfl, by decide +kernel, rfl, by decide +kernel, by decide +kernel⟩
theorem ok_shows_value (D : Has K mg "shows_value" s_shows_value ["show", "value"]) : Cal P w K mg base 1 "shows_value" (spShows K) := by
  have sc := sc_shows_value
  refine D.cal sc (fun vs H Q E h => ?_) (fun f cdv A outer s H vs Q E hr h => ?_)
  · obtain ⟨a, s, v, rfl, _⟩ := h
    rfl
  · obtain ⟨a, ⟨low, high, holes, f⟩, v, rfl, ⟨t, h1, h2⟩, q⟩ := h
    have q' : ∀ b, b = decide (Mem low high holes v) → ∀ H', Same H H' → Q (.bl b) H' := fun b e H' h => by
      rw [e]
      exact q H' h
    refine ⟨_, (pss_cons (ps_if (PW.pt (pw_or (PW.pt (pw_and (pt_cmpR op_notN (pe_ix ix_tup (pv 0) pe_int (fun _ _ => rfl)) pe_non (nomark _)) (pw_and1 (pt_cmpR op_lt (pv 1) (pe_ix ix_tup (pv 0) pe_int (fun _ _ => rfl)) (nomark _))))) (pw_or1 (PW.pt (pw_and (pt_cmpR op_notN (pe_ix ix_tup (pv 0) pe_int (fun _ _ => rfl)) pe_non (nomark _)) (pw_and1 (pt_cmpR op_gt (pv 1) (pe_ix ix_tup (pv 0) pe_int (fun _ _ => rfl)) (nomark _)))))))) (pss_one (ps_ret pe_bl)) pss_nil)
    (pss_one (ps_ret (pe_cmpR op_notIn_seq (pv 1) (pe_ix ix_tup (pv 0) pe_int (fun _ _ => rfl)) (by with_unfolding_all rfl))))), ?_⟩
    cases low with
    | none =>
      cases high with
      | none =>
        walk_at "tf if"
        walk_at "tf ret"
        exact q' _ (memI (fun l e => nomatch e) (fun l e => nomatch e))
      | some u =>
        walk_at "tf if"
        · walk_at "tf ret"
          exact q' _ (memF_high (of_decide_eq_true (by assumption)))
        · rename_i hb
          walk_at "tf ret"
          exact q' _ (memI (fun l e => nomatch e) (fun l e => by cases e; exact of_decide_eq_false hb))
    | some l =>
      cases high with
      | none =>
        walk_at "tf if"
        · rename_i hb
          walk_at "tf ret"
          simp at hb
          exact q' _ (memF_low hb)
        · rename_i hb
          walk_at "tf ret"
          simp at hb
          exact q' _ (memI (fun l e => by cases e; omega) (fun l e => nomatch e))
      | some u =>
        walk_at "tf if"
        · rename_i hb
          walk_at "tf ret"
          simp at hb
          rcases hb with hb | hb
          · exact q' _ (memF_low hb)
          · exact q' _ (memF_high hb)
        · rename_i hb
          walk_at "tf ret"
          simp at hb
          exact q' _ (memI (fun l e => by cases e; omega) (fun l e => by cases e; omega))
-- is_shown: topS 14; slots show=0 value=1; cells []; callees ['shows_value']
abbrev s_is_shown : Stmt := topS 14
theorem sc_is_shown : FnScope ["show", "value"] ["show", "value"] (defScope s_is_shown) := ⟨rfl, rfl, rfl, by decide +kernel, rfl, by decide +kernel, by decide +kernel⟩
theorem ok_is_shown (C_shows_value : Cal P w K mg base 1 "shows_value" (spShows K)) (D : Has K mg "is_shown" s_is_shown ["show", "value"]) : Cal P w K mg base 2 "is_shown" (spShows K) := by
  have sc := sc_is_shown
  refine D.cal sc (fun vs H Q E h => ?_) (fun f cdv A outer s H vs Q E hr h => ?_)
  · obtain ⟨a, s, v, rfl, _⟩ := h
    rfl
  · obtain ⟨a, s, v, rfl, h, q⟩ := h
    refine ⟨_, (pss_one (ps_ret (pe_c C_shows_value hr (by omega) (by rfl) (pa_cons (pv 0) (pa_cons (pv 1) pa_nil))))), ?_⟩
    walk_at "tf ret"
    exact q
-- _law_inside: topS 28; slots _law_show=0 _law_value=1; cells []; callees []
abbrev s_law_inside : Stmt := topS 28
theorem sc_law_inside : FnScope ["_law_show", "_law_value"] ["_law_show", "_law_value"] (defScope s_law_inside) := ⟨rfl, rfl, rfl, by decide +kernel, rfl, by decide +kernel, by decide +kernel⟩
theorem ok_law_inside (D : Has K mg "_law_inside" s_law_inside ["_law_show", "_law_value"]) : Cal P w K mg base 1 "_law_inside" (spShows K) := by
  have sc := sc_law_inside
  refine D.cal sc (fun vs H Q E h => ?_) (fun f cdv A outer s H vs Q E hr h => ?_)
  · obtain ⟨a, s, v, rfl, _⟩ := h
    rfl
  · obtain ⟨a, ⟨low, high, holes, f⟩, v, rfl, ⟨t, h1, h2⟩, q⟩ := h
    have q' : ∀ b, b = decide (Mem low high holes v) → ∀ H', Same H H' → Q (.bl b) H' := fun b e H' h => by
      rw [e]
      exact q H' h
    refine ⟨_, (pss_cons (ps_if (PW.pt (pw_and (pt_cmpR op_notN (pe_ix ix_tup (pv 0) pe_int (fun _ _ => rfl)) pe_non (nomark _)) (pw_and1 (pt_cmpR op_lt (pv 1) (pe_ix ix_tup (pv 0) pe_int (fun _ _ => rfl)) (nomark _))))) (pss_one (ps_ret pe_bl)) pss_nil)
    (pss_cons (ps_if (PW.pt (pw_and (pt_cmpR op_notN (pe_ix ix_tup (pv 0) pe_int (fun _ _ => rfl)) pe_non (nomark _)) (pw_and1 (pt_cmpR op_gt (pv 1) (pe_ix ix_tup (pv 0) pe_int (fun _ _ => rfl)) (nomark _))))) (pss_one (ps_ret pe_bl)) pss_nil)
    (pss_one (ps_ret (pe_cmpR op_notIn_seq (pv 1) (pe_ix ix_tup (pv 0) pe_int (fun _ _ => rfl)) (by with_unfolding_all rfl)))))), ?_⟩
    cases low with
    | none =>
      walk_at "tf if"
      cases high with
      | none =>
        walk_at "tf if"
        walk_at "tf ret"
        exact q' _ (memI (fun l e => nomatch e) (fun l e => nomatch e))
      | some u =>
        walk_at "tf if"
        · walk_at "tf ret"
          exact q' _ (memF_high (of_decide_eq_true (by assumption)))
        · rename_i hb
          walk_at "tf ret"
          exact q' _ (memI (fun l e => nomatch e) (fun l e => by cases e; exact of_decide_eq_false hb))
    | some l =>
      walk_at "tf if"
      · walk_at "tf ret"
        exact q' _ (memF_low (of_decide_eq_true (by assumption)))
      rename_i hl
      cases high with
      | none =>
        walk_at "tf if"
        walk_at "tf ret"
        exact q' _ (memI (fun l e => by cases e; exact of_decide_eq_false hl) (fun l e => nomatch e))
      | some u =>
        walk_at "tf if"
        · walk_at "tf ret"
          exact q' _ (memF_high (of_decide_eq_true (by assumption)))
        · rename_i hb
          walk_at "tf ret"
          exact q' _ (memI (fun l e => by cases e; exact of_decide_eq_false hl) (fun l e => by cases e; exact of_decide_eq_false hb))
/-! ### step_out -/
def spStep (K : PySem.W.Frag) : Sp := fun vs H Q _ => ∃ (t : Addr) (holes : List Int) (v st : Int), vs = [.ref t, .int v, .int st] ∧ SqT K H t (holes.map V.int) ∧
  ((st = 1 ∧ ∀ r H', Same H H' → Up holes v r → r ∉ holes → Q (.int r) H') ∨ (st = -1 ∧ ∀ r H', Same H H' → Down holes v r → r ∉ holes → Q (.int r) H'))
theorem spr_up {t : Addr} {holes : List Int} {v : Int} {H : Hp} (h : SqT K H t (holes.map V.int)) : SpR (spStep K) [.ref t, .int v, .int 1] H (fun x _ => ∃ r, x = .int r ∧ Up holes v r ∧ r ∉ holes) :=
  fun H1 e Q q => ⟨t, holes, v, 1, rfl, same_t e h, .inl ⟨rfl, fun r H' e' a b => q _ _ e' ⟨r, rfl, a, b⟩⟩⟩
theorem spr_down {t : Addr} {holes : List Int} {v : Int} {H : Hp} (h : SqT K H t (holes.map V.int)) : SpR (spStep K) [.ref t, .int v, .int (-1)] H (fun x _ => ∃ r, x = .int r ∧ Down holes v r ∧ r ∉ holes) :=
  fun H1 e Q q => ⟨t, holes, v, -1, rfl, same_t e h, .inr ⟨rfl, fun r H' e' a b => q _ _ e' ⟨r, rfl, a, b⟩⟩⟩
-- step_out: topS 15; slots holes=0 value=1 step=2; cells []; callees []
abbrev s_step_out : Stmt := topS 15
theorem sc_step_out : FnScope ["holes", "value", "step"] ["holes", "value", "step"] (defScope s_step_out) := ⟨rfl, rfl, rfl, by decide +kernel, rfl, by decide +kernel, by decide +kernel⟩
theorem ok_step_out (D : Has K mg "step_out" s_step_out ["holes", "value", "step"]) : Cal P w K mg base 1 "step_out" (spStep K) := by
  have sc := sc_step_out
  refine D.cal sc (fun vs H Q E h => ?_) (fun f cdv A outer s H vs Q E hr h => ?_)
  · obtain ⟨t, holes, v, st, rfl, _⟩ := h
    rfl
  · obtain ⟨t, holes, v, st, rfl, hT, ⟨rfl, q⟩ | ⟨rfl, q⟩⟩ := h
    · refine ⟨_, (pss_cons (ps_while PassesOwn.never (pt_cmpR op_in_seq (pv 1) (pv 0) (by with_unfolding_all rfl)) (pss_one (ps_aug (i := 1) sc.nd rfl (Or.inl rfl) (pv 2) ip_add)))
    (pss_one (ps_ret (pv 1)))), ?_⟩
      refine run_while (fun m σ' => ∃ r : Int, σ' = [some (.ref t), some (.int r), some (.int 1)] ∧ Up holes v r ∧ m = holes.length - (r - v).toNat) _ ⟨v, rfl, Up.refl _ _, rfl⟩ ?_
      rintro m σ' ⟨r, rfl, hu, rfl⟩
      refine ⟨decide (r ∈ holes), by walk_at "tf et", fun hb => ?_, fun hb => ?_⟩
      · have hm := of_decide_eq_true hb
        have hs := hu.step hm
        have h1 := hu.1
        have h2 := up_len (k := (r + 1 - v).toNat) hs (by omega)
        exact run_aug1 rfl (ev_var rfl) fun H1 e => ⟨⟨_, by omega, r + 1, rfl, hs, rfl⟩, e⟩
      · walk_at "tf ret"
        exact fun H1 e => q r H1 e hu (of_decide_eq_false hb)
    · refine ⟨_, (pss_cons (ps_while PassesOwn.never (pt_cmpR op_in_seq (pv 1) (pv 0) (by with_unfolding_all rfl)) (pss_one (ps_aug (i := 1) sc.nd rfl (Or.inl rfl) (pv 2) ip_add)))
    (pss_one (ps_ret (pv 1)))), ?_⟩
      refine run_while (fun m σ' => ∃ r : Int, σ' = [some (.ref t), some (.int r), some (.int (-1))] ∧ Down holes v r ∧ m = holes.length - (v - r).toNat) _ ⟨v, rfl, Down.refl _ _, rfl⟩ ?_
      rintro m σ' ⟨r, rfl, hu, rfl⟩
      refine ⟨decide (r ∈ holes), by walk_at "tf et", fun hb => ?_, fun hb => ?_⟩
      · have hm := of_decide_eq_true hb
        have hs := hu.step hm
        have h1 := hu.1
        have h2 := down_len (k := (v - (r - 1)).toNat) hs (by omega)
        exact run_aug1 rfl (ev_var rfl) fun H1 e => ⟨⟨_, by omega, r - 1, rfl, hs, rfl⟩, e⟩
      · walk_at "tf ret"
        exact fun H1 e => q r H1 e hu (of_decide_eq_false hb)
/-! ### written -/
def spWritten (K : PySem.W.Frag) : Sp := fun vs H Q _ => ∃ (low high : Option Int) (t : Addr) (holes : List Int) (f : Int), vs = [.non, oV low, oV high, .ref t, .int f, .non] ∧ SqT K H t (holes.map V.int) ∧ holes.Nodup ∧ holes.length < 64 ∧
  ∀ (v : V) (o : Option Sh) H', Same H H' → ShV K H' v o → IsC (Mem low high holes) f o → (∀ s, o = some s → s.holes.length ≤ holes.length) → Q v H'
theorem spr_written {t : Addr} {low high : Option Int} {holes : List Int} {f : Int} {H : Hp} (h : SqT K H t (holes.map V.int)) (nd : holes.Nodup) (hz : holes.length < 64) :
    SpR (spWritten K) [.non, oV low, oV high, .ref t, .int f, .non] H (fun v H' => ∃ o, ShV K H' v o ∧ IsC (Mem low high holes) f o ∧ ∀ s, o = some s → s.holes.length ≤ holes.length) :=
  fun H1 e Q q => ⟨low, high, t, holes, f, rfl, same_t e h, nd, hz, fun v o H' e' a b c => q v H' e' ⟨o, a, b, c⟩⟩
/-- the loop over the lower bound goes on -/
def goLow (holes : List Int) (high : Option Int) (l : Int) : Bool := decide (l ∈ holes) && (match high with | none => true | some u => decide (l ≤ u))
def goHigh (holes : List Int) (low : Option Int) (u : Int) : Bool := decide (u ∈ holes) && (match low with | none => true | some l => decide (l ≤ u))
def gtO : Option Int → Int → Bool
  | none, _ => true
  | some l, h => decide (l < h)
def ltO : Option Int → Int → Bool
  | none, _ => true
  | some u, h => decide (h < u)
theorem filter_ints (f : Int → Bool) (g : V → Bool) (h : ∀ i, g (.int i) = f i) : ∀ xs : List Int, ((xs.map V.int).filter g).map id = (xs.filter f).map V.int
  | [] => rfl
  | x :: r => by
    have ih := filter_ints f g h r
    rw [List.map_id] at ih ⊢
    rw [List.map_cons, List.filter_cons, List.filter_cons, h x]
    split
    · rw [List.map_cons, ih]
    · exact ih
-- written: topS 8; slots keys=0 low=1 high=2 holes=3 factor=4 name=5 inner=6 hole=7; cells ['high', 'low']; callees []
abbrev s_written : Stmt := topS 8
theorem sc_written : FnScope ["keys", "low", "high", "holes", "factor", "name", "inner", "hole"] ["keys", "low", "high", "holes", "factor", "name"] (defScope s_written) := ⟨rfl, rfl, rfl, by decide +kernel, rfl, by decide +kernel, by decide +kernel⟩
theorem ok_written (G : Glob mg) (D : Has K mg "written" s_written ["keys", "low", "high", "holes", "factor", "name"]) : Cal P w K mg base 1 "written" (spWritten K) := by
  have sc := sc_written
  refine D.cal sc (fun vs H Q E h => ?_) (fun f cdv A outer s H vs Q E hr h => ?_)
  · obtain ⟨low, high, t, holes, f, rfl, _⟩ := h
    rfl
  · obtain ⟨low, high, t, holes, f, rfl, hT, nd, hz, q⟩ := h
    refine ⟨_, (pss_cons (ps_while PassesOwn.never (PW.pt (pw_and (pt_cmpR op_notN (pv 1) pe_non (nomark _)) (pw_and (pt_cmpR op_in_seq (pv 1) (pv 3) (by with_unfolding_all rfl)) (pw_and1 (PW.pt (pw_or (pt_cmpR op_isN (pv 2) pe_non (nomark _)) (pw_or1 (pt_cmpR op_le (pv 1) (pv 2) (nomark _))))))))) (pss_one (ps_aug (i := 1) sc.nd rfl (Or.inr rfl) pe_int ip_add)))
    (pss_cons (ps_while PassesOwn.never (PW.pt (pw_and (pt_cmpR op_notN (pv 2) pe_non (nomark _)) (pw_and (pt_cmpR op_in_seq (pv 2) (pv 3) (by with_unfolding_all rfl)) (pw_and1 (PW.pt (pw_or (pt_cmpR op_isN (pv 1) pe_non (nomark _)) (pw_or1 (pt_cmpR op_le (pv 1) (pv 2) (nomark _))))))))) (pss_one (ps_aug (i := 2) sc.nd rfl (Or.inr rfl) pe_int ip_sub)))
    (pss_cons (ps_if (PW.pt (pw_or (PW.pt (pw_and (pt_cmpR op_notN (pv 1) pe_non (nomark _)) (pw_and (pt_cmpR op_notN (pv 2) pe_non (nomark _)) (pw_and1 (pt_cmpR op_gt (pv 1) (pv 2) (nomark _)))))) (pw_or1 (pt_cmpR (op_eqD hr.units) (pv 0) (pe_tup pa_nil) (nomark _))))) (pss_one (ps_ret pe_non)) pss_nil)
    (pss_cons (ps_setLc (i := 6) (own := [("hole", 7)]) (g := gName 7) rfl sc.nd rfl rfl (sw_true rfl rfl rfl (by decide +kernel)) (pi_tup (pv 3)) (blkOk_by (N := ["keys", "low", "high", "holes", "factor", "name", "inner", "hole"]) (sc := defScope s_written) (own := [("hole", 7)]) (by decide +kernel)) (fun _ _ _ _ _ => pg_name (i := 7) sc.nd rfl (Or.inl rfl)) (fun _ _ _ _ _ => (pts_one (PW.pt (pw_and (PW.pt (pw_or (pt_cmpR op_isN (pv 1) pe_non (nomark _)) (pw_or1 (pt_cmpR op_gt (pv 7) (pv 1) (nomark _))))) (pw_and1 (PW.pt (pw_or (pt_cmpR op_isN (pv 2) pe_non (nomark _)) (pw_or1 (pt_cmpR op_lt (pv 7) (pv 2) (nomark _)))))))))) (fun _ _ _ _ _ => (pv 7)))
    (pss_one (ps_ret (pe_tup (pa_cons (pv 0) (pa_cons (pv 1) (pa_cons (pv 2) (pa_cons (pe_callTy call_tuple_of (by rfl) G.bi_tuple (by decide +kernel) (pa_cons (pe_callB cr_sorted (by rfl) G.bi_sorted (by decide +kernel) (pa_cons (pv 6) pa_nil)) pa_nil)) (pa_cons (pv 4) (pa_cons (pv 5) pa_nil))))))))))))), ?_⟩
    refine run_while (fun m σ' => ∃ low' : Option Int, σ' = [some .non, some (oV low'), some (oV high), some (.ref t), some (.int f), some .non, none, none] ∧ UpO holes low low' ∧ m = holes.length - ((low'.getD 0) - (low.getD 0)).toNat) _ ⟨low, rfl, by cases low with | none => rfl | some l => exact ⟨l, rfl, Up.refl _ _⟩, rfl⟩ ?_
    rintro m σ' ⟨low', rfl, hu, rfl⟩
    -- the first loop
    refine ⟨match low' with | none => false | some l => goLow holes high l, ?_, fun hb => ?_, fun hb => ?_⟩
    · cases low' with
      | none => walk_at "tf et"
      | some l => cases high <;> walk_at "tf et"
    · cases low with
      | none =>
        cases hu
        cases hb
      | some l =>
        obtain ⟨l', rfl, hu⟩ := hu
        have hm : l' ∈ holes := of_decide_eq_true (Bool.and_eq_true_iff.mp hb).1
        have hs := hu.step hm
        have h1 := hu.1
        have h2 := up_len (k := (l' + 1 - l).toNat) hs (by omega)
        exact run_aug1 rfl ev_c fun H1 e => ⟨⟨_, by show holes.length - (l' + 1 - l).toNat < holes.length - (l' - l).toNat; omega, some (l' + 1), rfl, ⟨_, rfl, hs⟩, rfl⟩, e⟩
    -- the second loop
    refine run_while (fun m σ' => ∃ high' : Option Int, σ' = [some .non, some (oV low'), some (oV high'), some (.ref t), some (.int f), some .non, none, none] ∧ DownO holes high high' ∧ m = holes.length - ((high.getD 0) - (high'.getD 0)).toNat) _ ⟨high, rfl, by cases high with | none => rfl | some l => exact ⟨l, rfl, Down.refl _ _⟩, rfl⟩ ?_
    rintro m σ' ⟨high', rfl, hd, rfl⟩
    refine ⟨match high' with | none => false | some u => goHigh holes low' u, ?_, fun hb2 => ?_, fun hb2 => ?_⟩
    · cases high' with
      | none => walk_at "tf et"
      | some l => cases low' <;> walk_at "tf et"
    · cases high with
      | none =>
        cases hd
        cases hb2
      | some u =>
        obtain ⟨u', rfl, hd⟩ := hd
        have hm : u' ∈ holes := of_decide_eq_true (Bool.and_eq_true_iff.mp hb2).1
        have hs := hd.step hm
        have h1 := hd.1
        have h2 := down_len (k := (u - (u' - 1)).toNat) hs (by omega)
        exact run_aug1 rfl ev_c fun H1 e => ⟨⟨_, by show holes.length - (u - (u' - 1)).toNat < holes.length - (u - u').toNat; omega, some (u' - 1), rfl, ⟨_, rfl, hs⟩, rfl⟩, e⟩
    have mm := mem_moved hu hd
    have F1 : ∀ l', low' = some l' → l' ∈ holes → ∃ u, high = some u ∧ u < l' := fun l' e hm => by
      subst e
      have hb : goLow holes high l' = false := hb
      unfold goLow at hb
      rw [decide_eq_true hm, Bool.true_and] at hb
      cases high with
      | none => cases hb
      | some u => exact ⟨u, rfl, by have := of_decide_eq_false hb; omega⟩
    have F2 : ∀ u', high' = some u' → u' ∈ holes → ∃ l, low' = some l ∧ u' < l := fun u' e hm => by
      subst e
      have hb2 : goHigh holes low' u' = false := hb2
      unfold goHigh at hb2
      rw [decide_eq_true hm, Bool.true_and] at hb2
      cases low' with
      | none => cases hb2
      | some l => exact ⟨l, rfl, by have := of_decide_eq_false hb2; omega⟩
    -- if low > high or keys == (): return None
    have eK : Ev (tOp (rEqD K) (tVar 0) (tTup tNil)) [some .non, some (oV low'), some (oV high'), some (.ref t), some (.int f), some .non, none, none] H (.bl false) := fun H1 e Q' q' => ⟨.non, rfl, Nat.zero_le _, fun p hp => ⟨.none, .tuple [], .non, .tup (SqT.of upd_same) .nil, rfl, rfl, q' _ (same_new hp)⟩⟩
    refine run_if (b := match low', high' with | some l, some u => decide (u < l) | _, _ => false) ?_ ⟨fun hb3 => ?_, fun hb3 => run_nx ?_⟩
    · cases low' with
      | none => exact et_orf (by walk_at "tf et") (et_test eK)
      | some l =>
        cases high' with
        | none => exact et_orf (by walk_at "tf et") (et_test eK)
        | some u => exact (et_or (by walk_at "tf et") (et_test eK)).to (Bool.or_false _)
    · cases low' with
      | none => cases hb3
      | some l =>
        cases high' with
        | none => cases hb3
        | some u =>
          walk_at "tf ret"
          exact fun H1 e => q .non none H1 e rfl (isC_congr mm (isC_none rfl rfl (of_decide_eq_true hb3))) (fun s z => nomatch z)
    have ne : ∀ l u, low' = some l → high' = some u → l ≤ u := fun l u e1 e2 => by
      subst e1 e2
      have := of_decide_eq_false hb3
      omega
    have nl : ∀ l, low' = some l → l ∉ holes := fun l e hm => by
      obtain ⟨u, e2, h⟩ := F1 l e hm
      subst e2
      obtain ⟨u', rfl, hd⟩ := hd
      have := ne l u' e rfl
      have := hd.1
      omega
    have nh : ∀ u, high' = some u → u ∉ holes := fun u e hm => by
      obtain ⟨l, e2, h⟩ := F2 u e hm
      have := ne l u e2 e
      omega
    -- inner
    have hfI : ∀ h, (gtO low' h && ltO high' h) = true ↔ Within low' high' h := fun h => by
      unfold Within
      cases low' <;> cases high' <;> simp [gtO, ltO]
    generalize hF : (fun h => gtO low' h && ltO high' h) = fI
    have hFa : ∀ h, fI h = (gtO low' h && ltO high' h) := fun h => by rw [← hF]
    refine run_setR (evr_lcT (K := K) (a := t) (xs := holes.map V.int) (fun x => match x with | .int h => fI h | _ => false) id (ev_var rfl) hT (by rw [List.length_map]; omega) (fun x => rfl) (fun x hx => ?_) (fun x hx _ => ev_var rfl)) ?_
    · obtain ⟨h, _, rfl⟩ := List.mem_map.mp hx
      show EvT _ _ H (fI h)
      rw [hFa]
      cases low' with
      | none => cases high' <;> exact et_and (by walk_at "tf et") (by walk_at "tf et")
      | some l => cases high' <;> exact et_and (by walk_at "tf et") (by walk_at "tf et")
    rintro v H1 e1 ⟨p, rfl, hp, h1⟩
    rw [filter_ints fI _ (fun i => rfl)] at h1
    -- return the show
    have ndI : (holes.filter fI).Nodup := nd.sublist List.filter_sublist
    have lenI : (holes.filter fI).length ≤ holes.length := List.length_filter_le _ _
    refine run_retR (R := fun v H2 => ∃ inner : List Int, inner.Perm (holes.filter fI) ∧ inner.Pairwise (· ≤ ·) ∧ ShV K H2 v (some ⟨low', high', inner, f⟩)) ?_ ?_
    · refine evr_tupR (RA := fun vs H2 => ∃ (inner : List Int) (tt : Addr), inner.Perm (holes.filter fI) ∧ inner.Pairwise (· ≤ ·) ∧ vs = [.non, oV low', oV high', .ref tt, .int f, .non] ∧ H2 tt = some (.tup (inner.map V.int)))
        (ear_cons1 (ev_var rfl) (ear_cons1 (ev_var rfl) (ear_cons1 (ev_var rfl) (ear_cons (R := fun v H2 => ∃ (inner : List Int) (tt : Addr), inner.Perm (holes.filter fI) ∧ inner.Pairwise (· ≤ ·) ∧ v = .ref tt ∧ H2 tt = some (.tup (inner.map V.int))) ?_ (fun x H2 e2 hx => ear_of (ea_cons (ev_var rfl) (ea_cons (ev_var rfl) ea_nil)) (fun H3 e3 => ?_)))))) ?_ ?_
      · intro H2 e2 Q' q'
        refine ⟨.ref p, rfl, p, holes.filter fI, rfl, .inl (.inl (e2 _ _ h1)), by omega, fun ns' r pm srt hr' => ⟨r, ns'.map V.int, rfl, .inl ⟨SqL.of upd_same, fun l hl => ?_⟩⟩⟩
        exact q' _ _ ((same_new hr').trans (same_new hl)) ⟨ns', l, pm, srt, rfl, upd_same⟩
      · obtain ⟨inner, tt, a, b, rfl, c⟩ := hx
        exact ⟨inner, tt, a, b, rfl, e3 _ _ c⟩
      · rintro vs H2 ⟨inner, tt, _, _, rfl, _⟩
        exact Nat.le_of_ble_eq_true rfl
      · rintro vs p2 H2 H3 e2 e3 ⟨inner, tt, a, b, rfl, c⟩ hp2
        exact ⟨inner, a, b, p2, rfl, tt, SqT.of hp2, SqT.of (e3 _ _ c)⟩
    · rintro v H2 e2 ⟨inner, pm, srt, hv⟩
      refine q v _ H2 (e1.trans e2) hv (isC_congr mm (isC_of (asc_of srt (pm.nodup_iff.mpr ndI)) (fun h => ?_) nl nh ne)) (fun s z => ?_)
      · rw [pm.mem_iff, List.mem_filter, hFa, hfI]
      · cases z
        show inner.length ≤ _
        rw [pm.length_eq]
        exact lenI
end
end
section

section
variable {P : Program} {w : World} {K : PySem.W.Frag} {mg : Str → Option Value} {base : Heap}
/-! ### the sets behind a stage -/
theorem mem_ge {low high : Option Int} {holes : List Int} {x v : Int} : Mem (some (maxO low x)) high holes v ↔ (Mem low high holes v ∧ x ≤ v) := by
  unfold Mem
  cases low with
  | none =>
    constructor
    · rintro ⟨a, b, c⟩
      exact ⟨⟨fun l e => (nomatch e), b, c⟩, a x rfl⟩
    · rintro ⟨⟨a, b, c⟩, d⟩
      exact ⟨fun l e => by cases e; exact d, b, c⟩
  | some l =>
    constructor
    · rintro ⟨a, b, c⟩
      have := a (max l x) rfl
      exact ⟨⟨fun l' e => by cases e; omega, b, c⟩, by omega⟩
    · rintro ⟨⟨a, b, c⟩, d⟩
      have := a l rfl
      exact ⟨fun l' e => by cases e; show max l x ≤ v; omega, b, c⟩
theorem mem_le {low high : Option Int} {holes : List Int} {x v : Int} : Mem low (some (minO high x)) holes v ↔ (Mem low high holes v ∧ v ≤ x) := by
  unfold Mem
  cases high with
  | none =>
    constructor
    · rintro ⟨a, b, c⟩
      exact ⟨⟨a, fun l e => (nomatch e), c⟩, b x rfl⟩
    · rintro ⟨⟨a, b, c⟩, d⟩
      exact ⟨a, fun l e => by cases e; exact d, c⟩
  | some u =>
    constructor
    · rintro ⟨a, b, c⟩
      have := b (min u x) rfl
      exact ⟨⟨a, fun l' e => by cases e; omega, c⟩, by omega⟩
    · rintro ⟨⟨a, b, c⟩, d⟩
      have := b u rfl
      exact ⟨a, fun l' e => by cases e; show v ≤ min u x; omega, c⟩
theorem mem_ne {low high : Option Int} {holes : List Int} {x v : Int} : Mem low high (holes ++ [x]) v ↔ (Mem low high holes v ∧ v ≠ x) := by
  unfold Mem
  constructor
  · rintro ⟨a, b, c⟩
    exact ⟨⟨a, b, fun h => c (List.mem_append_left _ h)⟩, fun h => c (List.mem_append_right _ (by rw [h]; exact List.mem_singleton_self _))⟩
  · rintro ⟨⟨a, b, c⟩, d⟩
    refine ⟨a, b, fun h => ?_⟩
    rcases List.mem_append.mp h with h | h
    · exact c h
    · exact d (List.mem_singleton.mp h)
/-! ### sifted -/
def Fit (n : Nat) (o : Option Sh) : Prop := ∀ s, o = some s → s.holes.length ≤ n
def spSifted (K : PySem.W.Frag) : Sp := fun vs H Q _ => ∃ (a : Addr) (s : Sh) (c : Cmp) (b : Int), vs = [.ref a, .str c.str, .int b] ∧ ShAt K H a s ∧ Canon s ∧ s.f.natAbs < 2 ^ 60 ∧ s.holes.length < 60 ∧
  ∀ (v : V) (o : Option Sh) H', Same H H' → ShV K H' v o → IsC (fun v => s.mem v ∧ c.test (s.f * v) b = true) s.f o → Fit (s.holes.length + 1) o → Q v H'
theorem spr_sifted {a : Addr} {s : Sh} {c : Cmp} {b : Int} {H : Hp} (h : ShAt K H a s) (cn : Canon s) (hf : s.f.natAbs < 2 ^ 60) (hz : s.holes.length < 60) :
    SpR (spSifted K) [.ref a, .str c.str, .int b] H (fun v H' => ∃ o, ShV K H' v o ∧ IsC (fun v => s.mem v ∧ c.test (s.f * v) b = true) s.f o ∧ Fit (s.holes.length + 1) o) :=
  fun H1 e Q q => ⟨a, s, c, b, rfl, h.mono e, cn, hf, hz, fun v o H' e' x y z => q v H' e' ⟨o, x, y, z⟩⟩
local macro_rules | `(tactic| walk_at "tf sp") => `(tactic| first | exact spv_passes | exact spv_greater | exact spv_lesser)
-- sifted: topS 9; slots show=0 comparison=1 bound=2 keys=3 low=4 high=5 holes=6 factor=7 name=8 more=9; cells []; callees ['passes', 'turned', 'written', 'greater', 'lesser']
abbrev s_sifted : Stmt := topS 9
theorem sc_sifted : FnScope ["show", "comparison", "bound", "keys", "low", "high", "holes", "factor", "name", "more"] ["show", "comparison", "bound"] (defScope s_sifted) := ⟨rfl, rfl, rfl, by decide +kernel, rfl, by decide +kernel, by decide +kernel⟩
theorem ok_sifted (C_passes : Cal P w K mg base 1 "passes" spPasses) (C_turned : Cal P w K mg base 2 "turned" spTurned) (C_written : Cal P w K mg base 1 "written" (spWritten K)) (C_greater : Cal P w K mg base 1 "greater" spGreater) (C_lesser : Cal P w K mg base 1 "lesser" spLesser)
    (D : Has K mg "sifted" s_sifted ["show", "comparison", "bound"]) : Cal P w K mg base 3 "sifted" (spSifted K) := by
  have sc := sc_sifted
  refine D.cal sc (fun vs H Q E h => ?_) (fun f cdv A outer s H vs Q E hr h => ?_)
  · obtain ⟨a, s, c, b, rfl, _⟩ := h
    rfl
  · obtain ⟨a, s, c, b, rfl, hS, cn, hf, hz, q⟩ := h
    obtain ⟨t, h1, h2⟩ := id hS
    have nd : s.holes.Nodup := cn.asc.imp (fun h => by omega)
    have e0 : (fun v => s.mem v) = s.mem := rfl
    refine ⟨_, (pss_cons (ps_asg (pv 0) (pg_tup rfl (pgs_cons (pg_name (i := 3) sc.nd rfl (Or.inl rfl)) (pgs_cons (pg_name (i := 4) sc.nd rfl (Or.inl rfl)) (pgs_cons (pg_name (i := 5) sc.nd rfl (Or.inl rfl)) (pgs_cons (pg_name (i := 6) sc.nd rfl (Or.inl rfl)) (pgs_cons (pg_name (i := 7) sc.nd rfl (Or.inl rfl)) (pgs_cons (pg_name (i := 8) sc.nd rfl (Or.inl rfl)) pgs_nil))))))))
    (pss_cons (ps_if (pt_cmpR op_eq (pv 7) pe_int (nomark _)) (pss_one (ps_ret (pe_ifExp (pt_val (pe_c C_passes hr (by omega) (by rfl) (pa_cons (pv 1) (pa_cons pe_int (pa_cons (pv 2) pa_nil))))) (pv 0) pe_non))) pss_nil)
    (pss_cons (ps_asg (pe_c C_turned hr (by omega) (by rfl) (pa_cons (pv 1) (pa_cons (pv 2) (pa_cons (pv 7) pa_nil)))) (pg_tup rfl (pgs_cons (pg_name (i := 1) sc.nd rfl (Or.inl rfl)) (pgs_cons (pg_name (i := 2) sc.nd rfl (Or.inl rfl)) pgs_nil))))
    (pss_cons (ps_if (pt_cmpR op_eq (pv 1) pe_str (nomark _)) (pss_cons (ps_set (i := 9) sc.nd rfl (Or.inl rfl) (pe_ifExp (PW.pt (pw_or (pt_cmpR op_isN (pv 2) pe_non (nomark _)) (pw_or1 (pt_cmpR op_in_seq (pv 2) (pv 6) (by with_unfolding_all rfl))))) (pe_tup pa_nil) (pe_tup (pa_cons (pv 2) pa_nil))))
      (pss_one (ps_ret (pe_c C_written hr (by omega) (by rfl) (pa_cons (pv 3) (pa_cons (pv 4) (pa_cons (pv 5) (pa_cons (pe_op op_catA (pv 6) (pv 9)) (pa_cons (pv 7) (pa_cons (pv 8) pa_nil)))))))))) pss_nil)
    (pss_cons (ps_if (pt_cmpR op_isN (pv 2) pe_non (nomark _)) (pss_one (ps_ret pe_non)) pss_nil)
    (pss_cons (ps_if (pt_cmpR op_in_seq (pv 1) (pe_tup (pa_cons pe_str (pa_cons pe_str pa_nil))) (by with_unfolding_all rfl)) (pss_one (ps_set (i := 4) sc.nd rfl (Or.inl rfl) (pe_c C_greater hr (by omega) (by rfl) (pa_cons (pv 4) (pa_cons (pv 2) pa_nil))))) pss_nil)
    (pss_cons (ps_if (pt_cmpR op_in_seq (pv 1) (pe_tup (pa_cons pe_str (pa_cons pe_str pa_nil))) (by with_unfolding_all rfl)) (pss_one (ps_set (i := 5) sc.nd rfl (Or.inl rfl) (pe_c C_lesser hr (by omega) (by rfl) (pa_cons (pv 5) (pa_cons (pv 2) pa_nil))))) pss_nil)
    (pss_one (ps_ret (pe_c C_written hr (by omega) (by rfl) (pa_cons (pv 3) (pa_cons (pv 4) (pa_cons (pv 5) (pa_cons (pv 6) (pa_cons (pv 7) (pa_cons (pv 8) pa_nil)))))))))))))))), ?_⟩
    refine run_tup6 (ev_var rfl) h1 ?_
    show Run _ _ [some (.ref a), some (.str c.str), some (.int b), some .non, some (oV s.low), some (oV s.high), some (.ref t), some (.int s.f), some .non, none] H
    refine run_if (b := decide (s.f = 0)) (by walk_at "tf et") ⟨fun hb => ?_, fun hb => run_nx ?_⟩
    · have hb := of_decide_eq_true hb
      have e1 : ∀ v, c.test (s.f * v) b = c.test 0 b := fun v => by rw [hb, Int.zero_mul]
      refine run_retR (evr_if (R := fun v H' => Q v H') (b := c.test 0 b) (by walk_at "tf et") (fun ht => ?_) (fun ht => ?_)) (fun v H1 e r => r)
      · refine evr_of (ev_var rfl) fun H1 e => q _ (some s) H1 e ⟨a, rfl, hS.mono e⟩ (.inr ⟨s, rfl, cn, rfl, fun v => ?_⟩) (fun s' z => by cases z; omega)
        show (s.mem v ∧ c.test (s.f * v) b = true) ↔ s.mem v
        rw [e1, ht]
        simp
      · refine evr_of ev_c fun H1 e => q _ none H1 e rfl (.inl ⟨rfl, fun v => ?_⟩) (fun s' z => nomatch z)
        show ¬ (s.mem v ∧ c.test (s.f * v) b = true)
        rw [e1, ht]
        simp
    have hb := of_decide_eq_false hb
    -- comparison, bound = turned(comparison, bound, factor)
    refine run_tup2R (R := fun v H1 => ∃ p c' o, v = .ref p ∧ H1 p = some (.tup [.str c'.str, oV o]) ∧ Turned c b s.f c' o)
      (evr_call (by walk_at "tf ea") fun H1 e Q' q' => ⟨c, b, s.f, rfl, hb, hf, fun p c' o H' e' hp ht => q' _ _ e' ⟨p, c', o, rfl, hp, ht⟩⟩) ?_
    rintro v H1 e1 ⟨p, c', o, rfl, hp, ht⟩
    refine ⟨p, _, _, rfl, SqT.of hp, ?_⟩
    show Run _ _ [some (.ref a), some (.str c'.str), some (oV o), some .non, some (oV s.low), some (oV s.high), some (.ref t), some (.int s.f), some .non, none] H1
    have hT := same_t e1 h2
    have fin : ∀ (low high : Option Int) (holes : List Int), (∀ v, Mem low high holes v ↔ (s.mem v ∧ c.test (s.f * v) b = true)) → holes.length ≤ s.holes.length + 1 → ∀ v H2, Same H1 H2 → (∃ o, ShV K H2 v o ∧ IsC (Mem low high holes) s.f o ∧ ∀ s', o = some s' → s'.holes.length ≤ holes.length) → Q v H2 :=
      fun low high holes hm hl v H2 e2 ⟨o, a1, a2, a3⟩ => q v o H2 (e1.trans e2) a1 (isC_congr (fun v => (hm v).symm) a2) (fun s' z => Nat.le_trans (a3 s' z) hl)
    cases o with
    | none =>
      have hte := ht.t rfl
      rcases ht.n rfl with hc | hc
      · -- never
        subst hc
        refine run_if (b := false) (EvT.to (b := decide (Cmp.eq = Cmp.ne)) (by walk_at "tf et") rfl) ⟨fun z => (Bool.false_ne_true z).elim, fun _ => run_nx ?_⟩
        walk_at "tf if"
        walk_at "tf ret"
        exact fun H2 e2 => q .non none H2 (e1.trans e2) rfl (.inl ⟨rfl, fun v hv => by
          have h3 := hv.2
          rw [hte v] at h3
          exact absurd (of_decide_eq_true h3) (by decide)⟩) (fun s' z => nomatch z)
      · -- always
        subst hc
        refine run_if (b := true) (EvT.to (b := decide (Cmp.ne = Cmp.ne)) (by walk_at "tf et") rfl) ⟨fun _ => ?_, fun z => (Bool.false_ne_true z.symm).elim⟩
        refine run_setR (R := fun v H2 => ∃ pm, v = .ref pm ∧ H2 pm = some (.tup [])) (evr_if (b := true) (by walk_at "tf et") (fun _ => evr_tup ea_nil (Nat.zero_le _) fun pm H2 e2 h => ⟨pm, rfl, h⟩) (fun z => (Bool.false_ne_true z.symm).elim)) ?_
        rintro v H2 e2 ⟨pm, rfl, hpm⟩
        show Run _ _ [some (.ref a), some (.str Cmp.ne.str), some .non, some .non, some (oV s.low), some (oV s.high), some (.ref t), some (.int s.f), some .non, some (.ref pm)] H2
        have hT2 := same_t e2 hT
        refine run_retR (evr_callR (RA := fun vs H3 => ∃ qa, vs = [.non, oV s.low, oV s.high, .ref qa, .int s.f, .non] ∧ SqT K H3 qa (s.holes.map V.int))
          (ear_cons1 (ev_var rfl) (ear_cons1 (ev_var rfl) (ear_cons1 (ev_var rfl) (ear_cons (R := fun v H3 => ∃ qa, v = .ref qa ∧ SqT K H3 qa (s.holes.map V.int)) ?_ (fun x H3 e3 hx => ear_of (ea_cons (ev_var rfl) (ea_cons (ev_var rfl) ea_nil)) (fun H4 e4 => ?_))))))
          (fun vs H3 e3 hvs => ?_)) (fun v H3 e3 r => fin s.low s.high s.holes (fun v => ?_) (by omega) v H3 (e2.trans e3) r)
        · intro H3 e3 Q' q'
          refine ⟨.ref t, rfl, .ref pm, rfl, t, pm, _, _, rfl, rfl, same_t e3 hT2, SqT.of (e3 _ _ hpm), ?_, fun z => ?_, fun z1 z2 => ?_, fun z1 z2 => absurd rfl z2⟩
          · rw [List.length_map]
            exact sz1000 (by show s.holes.length + 0 ≤ 1000; omega)
          · refine q' _ _ (Same.refl _) ⟨pm, rfl, ?_⟩
            rw [z]
            exact SqT.of (e3 _ _ hpm)
          · exact q' _ _ (Same.refl _) ⟨t, rfl, same_t e3 hT2⟩
        · obtain ⟨qa, rfl, h⟩ := hx
          exact ⟨qa, rfl, same_t e4 h⟩
        · obtain ⟨qa, rfl, h⟩ := hvs
          exact spr_written h nd (by omega)
        · rw [hte v]
          simp
    | some x =>
      have hts := ht.s x rfl
      rcases ht.h with hc | hc | hc | hc
      · subst hc
        refine run_if (b := false) (EvT.to (b := decide (Cmp.le = Cmp.ne)) (by walk_at "tf et") rfl) ⟨fun z => (Bool.false_ne_true z).elim, fun _ => run_nx ?_⟩
        walk_at "tf if"
        refine run_if (b := false) (EvT.to (b := decide (Cmp.le = Cmp.eq) || decide (Cmp.le = Cmp.ge)) (et_test (ev_in2 .eq .ge rfl rfl (ev_var rfl))) rfl) ⟨fun z => (Bool.false_ne_true z).elim, fun _ => run_nx ?_⟩
        refine run_if (b := true) (EvT.to (b := decide (Cmp.le = Cmp.eq) || decide (Cmp.le = Cmp.le)) (et_test (ev_in2 .eq .le rfl rfl (ev_var rfl))) rfl) ⟨fun _ => ?_, fun z => (Bool.false_ne_true z.symm).elim⟩
        refine run_set1k (v := .int (minO s.high x)) (by walk_at "tf ev") ?_
        refine run_retR (evr_call (by walk_at "tf ea") (spr_written (low := s.low) (high := some (minO s.high x)) hT nd (by omega))) (fun v H3 e3 r => fin _ _ _ (fun v => ?_) (by omega) v H3 e3 r)
        rw [mem_le, hts v]
        simp [Cmp.test]
      · subst hc
        refine run_if (b := false) (EvT.to (b := decide (Cmp.ge = Cmp.ne)) (by walk_at "tf et") rfl) ⟨fun z => (Bool.false_ne_true z).elim, fun _ => run_nx ?_⟩
        walk_at "tf if"
        refine run_if (b := true) (EvT.to (b := decide (Cmp.ge = Cmp.eq) || decide (Cmp.ge = Cmp.ge)) (et_test (ev_in2 .eq .ge rfl rfl (ev_var rfl))) rfl) ⟨fun _ => ?_, fun z => (Bool.false_ne_true z.symm).elim⟩
        refine run_set1k (v := .int (maxO s.low x)) (by walk_at "tf ev") ?_
        refine run_if (b := false) (EvT.to (b := decide (Cmp.ge = Cmp.eq) || decide (Cmp.ge = Cmp.le)) (et_test (ev_in2 .eq .le rfl rfl (ev_var rfl))) rfl) ⟨fun z => (Bool.false_ne_true z).elim, fun _ => run_nx ?_⟩
        refine run_retR (evr_call (by walk_at "tf ea") (spr_written (low := some (maxO s.low x)) (high := s.high) hT nd (by omega))) (fun v H3 e3 r => fin _ _ _ (fun v => ?_) (by omega) v H3 e3 r)
        rw [mem_ge, hts v]
        simp [Cmp.test]
      · subst hc
        refine run_if (b := false) (EvT.to (b := decide (Cmp.eq = Cmp.ne)) (by walk_at "tf et") rfl) ⟨fun z => (Bool.false_ne_true z).elim, fun _ => run_nx ?_⟩
        walk_at "tf if"
        refine run_if (b := true) (EvT.to (b := decide (Cmp.eq = Cmp.eq) || decide (Cmp.eq = Cmp.ge)) (et_test (ev_in2 .eq .ge rfl rfl (ev_var rfl))) rfl) ⟨fun _ => ?_, fun z => (Bool.false_ne_true z.symm).elim⟩
        refine run_set1k (v := .int (maxO s.low x)) (by walk_at "tf ev") ?_
        refine run_if (b := true) (EvT.to (b := decide (Cmp.eq = Cmp.eq) || decide (Cmp.eq = Cmp.le)) (et_test (ev_in2 .eq .le rfl rfl (ev_var rfl))) rfl) ⟨fun _ => ?_, fun z => (Bool.false_ne_true z.symm).elim⟩
        refine run_set1k (v := .int (minO s.high x)) (by walk_at "tf ev") ?_
        refine run_retR (evr_call (by walk_at "tf ea") (spr_written (low := some (maxO s.low x)) (high := some (minO s.high x)) hT nd (by omega))) (fun v H4 e4 r => fin _ _ _ (fun v => ?_) (by omega) v H4 e4 r)
        rw [mem_ge, mem_le, hts v]
        show ((s.mem v ∧ v ≤ x) ∧ x ≤ v) ↔ (s.mem v ∧ decide (v = x) = true)
        rw [decide_eq_true_iff]
        constructor
        · rintro ⟨⟨a, b⟩, c⟩
          exact ⟨a, by omega⟩
        · rintro ⟨a, b⟩
          exact ⟨⟨a, by omega⟩, by omega⟩
      · subst hc
        refine run_if (b := true) (EvT.to (b := decide (Cmp.ne = Cmp.ne)) (by walk_at "tf et") rfl) ⟨fun _ => ?_, fun z => (Bool.false_ne_true z.symm).elim⟩
        refine run_setR (R := fun v H2 => ∃ pm ms, v = .ref pm ∧ H2 pm = some (.tup (ms.map V.int)) ∧ (s.holes ++ ms).Nodup ∧ ms.length ≤ 1 ∧ ∀ v, Mem s.low s.high (s.holes ++ ms) v ↔ (s.mem v ∧ v ≠ x))
          (evr_if (b := decide (x ∈ s.holes)) (by walk_at "tf et") (fun hx => evr_tup ea_nil (Nat.zero_le _) fun pm H2 e2 h => ⟨pm, [], rfl, h, by rw [List.append_nil]; exact nd, Nat.zero_le _, fun v => by
            rw [List.append_nil]
            exact ⟨fun m => ⟨m, fun z => m.2.2 (z ▸ of_decide_eq_true hx)⟩, fun m => m.1⟩⟩)
            (fun hx => evr_tup (ea_cons (ev_var rfl) ea_nil) (Nat.le_of_ble_eq_true rfl) fun pm H2 e2 h => ⟨pm, [x], rfl, h, by
              have hx := of_decide_eq_false hx
              rw [List.nodup_append]
              refine ⟨nd, by simp, fun a ha b hb => ?_⟩
              cases List.mem_singleton.mp hb
              exact fun z => hx (z ▸ ha), by simp, fun v => mem_ne⟩)) ?_
        rintro v H2 e2 ⟨pm, ms, rfl, hpm, ndm, lm, mm⟩
        show Run _ _ [some (.ref a), some (.str Cmp.ne.str), some (.int x), some .non, some (oV s.low), some (oV s.high), some (.ref t), some (.int s.f), some .non, some (.ref pm)] H2
        have hT2 := same_t e2 hT
        refine run_retR (evr_callR (RA := fun vs H3 => ∃ qa, vs = [.non, oV s.low, oV s.high, .ref qa, .int s.f, .non] ∧ SqT K H3 qa ((s.holes ++ ms).map V.int))
          (ear_cons1 (ev_var rfl) (ear_cons1 (ev_var rfl) (ear_cons1 (ev_var rfl) (ear_cons (R := fun v H3 => ∃ qa, v = .ref qa ∧ SqT K H3 qa ((s.holes ++ ms).map V.int)) ?_ (fun x H3 e3 hx => ear_of (ea_cons (ev_var rfl) (ea_cons (ev_var rfl) ea_nil)) (fun H4 e4 => ?_))))))
          (fun vs H3 e3 hvs => ?_)) (fun v H3 e3 r => fin s.low s.high (s.holes ++ ms) (fun v => ?_) (by rw [List.length_append]; omega) v H3 (e2.trans e3) r)
        · intro H3 e3 Q' q'
          refine ⟨.ref t, rfl, .ref pm, rfl, t, pm, _, _, rfl, rfl, same_t e3 hT2, SqT.of (e3 _ _ hpm), ?_, fun z => ?_, fun z1 z2 => ?_, fun z1 z2 p' hp' => ?_⟩
          · rw [List.length_map, List.length_map]
            exact sz1000 (by omega)
          · refine q' _ _ (Same.refl _) ⟨pm, rfl, ?_⟩
            rw [List.map_append, z]
            exact SqT.of (e3 _ _ hpm)
          · refine q' _ _ (Same.refl _) ⟨t, rfl, ?_⟩
            rw [List.map_append, z2, List.append_nil]
            exact same_t e3 hT2
          · refine q' _ _ (same_new hp') ⟨p', rfl, ?_⟩
            rw [List.map_append]
            exact SqT.of upd_same
        · obtain ⟨qa, rfl, h⟩ := hx
          exact ⟨qa, rfl, same_t e4 h⟩
        · obtain ⟨qa, rfl, h⟩ := hvs
          exact spr_written h ndm (by rw [List.length_append]; omega)
        · rw [mm v, hts v]
          simp [Cmp.test]
/-! ### narrowed -/
def spNarrowed (K : PySem.W.Frag) : Sp := fun vs H Q _ => ∃ (v : V) (o : Option Sh) (b : Addr) (sg : Stg) (m : Int → Prop) (f : Int) (n : Nat), vs = [v, .ref b] ∧ ShV K H v o ∧ IsC m f o ∧ Fit n o ∧ n < 60 ∧ f.natAbs < 2 ^ 60 ∧ StgAt K H b sg ∧ sg.ok ∧
  ∀ (v' : V) (o' : Option Sh) H', Same H H' → ShV K H' v' o' → IsC (Sem.step (m, f) sg).1 (Sem.step (m, f) sg).2 o' → Fit (n + 1) o' → Q v' H'
-- narrowed: topS 11; slots show=0 stage=1 keys=2 low=3 high=4 holes=5 factor=6 name=7; cells []; callees ['sifted']
abbrev s_narrowed : Stmt := topS 11
theorem sc_narrowed : FnScope ["show", "stage", "keys", "low", "high", "holes", "factor", "name"] ["show", "stage"] (defScope s_narrowed) := ⟨rfl, rfl, rfl, by decide +kernel, rfl, by decide +kernel, by decide +kernel⟩
theorem ok_narrowed (C_sifted : Cal P w K mg base 3 "sifted" (spSifted K)) (D : Has K mg "narrowed" s_narrowed ["show", "stage"]) : Cal P w K mg base 4 "narrowed" (spNarrowed K) := by
  have sc := sc_narrowed
  refine D.cal sc (fun vs H Q E h => ?_) (fun f cdv A outer s H vs Q E hr h => ?_)
  · obtain ⟨v, o, b, sg, m, f, n, rfl, _⟩ := h
    rfl
  · obtain ⟨v, o, b, sg, m, f, n, rfl, hv, hc, fit, hn, hf, hs, ok, q⟩ := h
    refine ⟨_, (pss_cons (ps_if (PW.pt (pw_or (pt_cmpR op_isN (pv 0) pe_non (nomark _)) (pw_or1 (pt_cmpR op_eq (pe_ix ix_tup (pv 1) pe_int (fun _ _ => rfl)) pe_str (nomark _))))) (pss_one (ps_ret (pv 0))) pss_nil)
    (pss_cons (ps_if (pt_cmpR op_eq (pe_ix ix_tup (pv 1) pe_int (fun _ _ => rfl)) pe_str (nomark _)) (pss_one (ps_ret (pe_c C_sifted hr (by omega) (by rfl) (pa_cons (pv 0) (pa_cons (pe_ix ix_tup (pv 1) pe_int (fun _ _ => rfl)) (pa_cons (pe_ix ix_tup (pv 1) pe_int (fun _ _ => rfl)) pa_nil)))))) pss_nil)
    (pss_cons (ps_if (pt_cmpR op_eq (pe_ix ix_tup (pv 1) pe_int (fun _ _ => rfl)) pe_str (nomark _)) pss_never pss_nil)
    (pss_cons (ps_asg (pv 0) (pg_tup rfl (pgs_cons (pg_name (i := 2) sc.nd rfl (Or.inl rfl)) (pgs_cons (pg_name (i := 3) sc.nd rfl (Or.inl rfl)) (pgs_cons (pg_name (i := 4) sc.nd rfl (Or.inl rfl)) (pgs_cons (pg_name (i := 5) sc.nd rfl (Or.inl rfl)) (pgs_cons (pg_name (i := 6) sc.nd rfl (Or.inl rfl)) (pgs_cons (pg_name (i := 7) sc.nd rfl (Or.inl rfl)) pgs_nil))))))))
    (pss_cons (ps_if (pt_cmpR op_eq (pe_ix ix_tup (pv 1) pe_int (fun _ _ => rfl)) pe_str (nomark _)) (pss_one (ps_ret (pe_tup (pa_cons (pv 2) (pa_cons (pv 3) (pa_cons (pv 4) (pa_cons (pv 5) (pa_cons (pv 6) (pa_cons (pe_ix ix_tup (pv 1) pe_int (fun _ _ => rfl)) pa_nil))))))))) pss_nil)
    (pss_one (ps_ret (pe_tup (pa_cons (pv 2) (pa_cons (pv 3) (pa_cons (pv 4) (pa_cons (pv 5) (pa_cons (pe_op op_mul (pv 6) (pe_ix ix_tup (pv 1) pe_int (fun _ _ => rfl))) (pa_cons (pv 7) pa_nil)))))))))))))), ?_⟩
    cases o with
    | none =>
      cases hv
      walk_at "tf if"
      walk_at "tf ret"
      refine fun H1 e => q .non none H1 e rfl ?_ (fun s z => nomatch z)
      rcases hc with ⟨_, hm⟩ | ⟨s, z, _⟩
      · refine .inl ⟨rfl, fun v => ?_⟩
        cases sg with
        | scale k => exact hm v
        | sift c b => exact fun z => hm v z.1
      · cases z
    | some s =>
      obtain ⟨a, rfl, hS⟩ := hv
      have hfit := fit s rfl
      rcases hc with ⟨z, _⟩ | ⟨s', z, cn, rfl, hm⟩
      · cases z
      cases z
      cases sg with
      | scale k =>
        have hs : SqT K H b [.str "scale", .int k] := hs
        have hk : k.natAbs ≤ 1000 := ok
        have hmul : CMul s.f k := .inr ⟨by omega, by omega⟩
        obtain ⟨t, h1, h2⟩ := id hS
        walk_at "tf if"
        walk_at "tf if"
        walk_at "tf if"
        refine run_tup6 (ev_var rfl) h1 ?_
        walk_at "tf if"
        refine run_retR (R := fun v H' => Q v H') (evr_tup (by walk_at "tf ea") (Nat.le_of_ble_eq_true rfl) fun p H1 e hp => ?_) (fun v H1 e r => r)
        refine q _ (some ⟨s.low, s.high, s.holes, s.f * k⟩) H1 e ⟨p, rfl, t, SqT.of hp, same_t e h2⟩ (.inr ⟨_, rfl, ⟨cn.asc, cn.lo, cn.hi, cn.ne⟩, rfl, hm⟩) (fun s' z => by cases z; show s.holes.length ≤ n + 1; omega)
      | sift c b' =>
        have hs : SqT K H b [.str "sift", .str c.str, .int b'] := hs
        walk_at "tf if"
        walk_at "tf if"
        refine run_retR (evr_call (by walk_at "tf ea") (spr_sifted hS cn hf (by omega))) ?_
        rintro v H1 e ⟨o, ho, hc, hfo⟩
        refine q v o H1 e ho (isC_congr (fun v => ?_) hc) (fun s' z => by have := hfo s' z; omega)
        show (m v ∧ c.test (s.f * v) b' = true) ↔ _
        rw [hm v]
end
end
section

section
variable {P : Program} {w : World} {K : PySem.W.Frag} {mg : Str → Option Value} {base : Heap}
local macro_rules | `(tactic| walk_at "tf sp") => `(tactic| exact spv_shows (by assumption))
/-! ### the ends of a run -/
theorem head_least {xs : List Int} {p : Int → Bool} {x : Int} {r : List Int} (a : xs.Pairwise (· < ·)) (h : xs.filter p = x :: r) : x ∈ xs ∧ p x = true ∧ ∀ y ∈ xs, p y = true → x ≤ y := by
  have hm : x ∈ xs.filter p := by rw [h]; exact List.mem_cons_self ..
  have ha : (xs.filter p).Pairwise (· < ·) := a.sublist List.filter_sublist
  refine ⟨(List.mem_filter.mp hm).1, (List.mem_filter.mp hm).2, fun y hy py => ?_⟩
  have hy2 : y ∈ xs.filter p := List.mem_filter.mpr ⟨hy, py⟩
  rw [h] at hy2 ha
  rcases List.mem_cons.mp hy2 with e | e
  · omega
  · have := (List.pairwise_cons.mp ha).1 y e
    omega
theorem last_most {xs : List Int} {p : Int → Bool} {x : Int} {r : List Int} (a : xs.Pairwise (· < ·)) (h : xs.filter p = r ++ [x]) : x ∈ xs ∧ p x = true ∧ ∀ y ∈ xs, p y = true → y ≤ x := by
  have hm : x ∈ xs.filter p := by rw [h]; exact List.mem_append_right _ (List.mem_singleton_self _)
  have ha : (xs.filter p).Pairwise (· < ·) := a.sublist List.filter_sublist
  refine ⟨(List.mem_filter.mp hm).1, (List.mem_filter.mp hm).2, fun y hy py => ?_⟩
  have hy2 : y ∈ xs.filter p := List.mem_filter.mpr ⟨hy, py⟩
  rw [h] at hy2 ha
  rcases List.mem_append.mp hy2 with e | e
  · have := (List.pairwise_append.mp ha).2.2 y e x (List.mem_singleton_self _)
    omega
  · cases List.mem_singleton.mp e
    omega
theorem none_of {xs : List Int} {p : Int → Bool} (h : xs.filter p = []) : ∀ y ∈ xs, ¬ p y = true := fun y hy py => by
  have : y ∈ xs.filter p := List.mem_filter.mpr ⟨hy, py⟩
  rw [h] at this
  cases this
def isI (p : Int → Bool) : V → Bool
  | .int i => p i
  | _ => false
def spTop (K : PySem.W.Frag) : Sp := fun vs H Q _ => ∃ (a : Addr) (s : Sh) (v : Int), vs = [.ref a, .int v] ∧ ShAt K H a s ∧ Canon s ∧ s.holes.length ≤ 100 ∧ ∀ o H', Same H H' → IsTop s.mem v o → Q (oV o) H'
theorem spr_top {a : Addr} {s : Sh} {v : Int} {H : Hp} (h : ShAt K H a s) (c : Canon s) (z : s.holes.length ≤ 100) : SpR (spTop K) [.ref a, .int v] H (fun x _ => ∃ o, x = oV o ∧ IsTop s.mem v o) :=
  fun H1 e Q q => ⟨a, s, v, rfl, h.mono e, c, z, fun o H' e' t => q _ _ e' ⟨o, rfl, t⟩⟩
-- run_top: topS 16; slots show=0 value=1 low=2 high=3 holes=4 above=5 hole=6; cells ['value']; callees ['is_shown', 'step_out']
abbrev s_run_top : Stmt := topS 16
theorem sc_run_top : FnScope ["show", "value", "low", "high", "holes", "above", "hole"] ["show", "value"] (defScope s_run_top) := ⟨rfl, rfl, rfl, by decide +kernel, rfl, by decide +kernel, by decide +kernel⟩
theorem ok_run_top (C_is_shown : Cal P w K mg base 2 "is_shown" (spShows K)) (C_step_out : Cal P w K mg base 1 "step_out" (spStep K)) (D : Has K mg "run_top" s_run_top ["show", "value"]) : Cal P w K mg base 3 "run_top" (spTop K) := by
  have sc := sc_run_top
  refine D.cal sc (fun vs H Q E h => ?_) (fun f cdv A outer s H vs Q E hr h => ?_)
  · obtain ⟨a, s, v, rfl, _⟩ := h
    rfl
  · obtain ⟨a, s, v, rfl, hS, cn, hz, q⟩ := h
    obtain ⟨t, h1, h2⟩ := id hS
    refine ⟨_, (pss_cons (ps_par3 (i := 2) (j := 3) (l := 4) rfl sc.nd rfl rfl rfl (by decide) (by decide) (by decide) rfl rfl rfl (pa_cons (pe_ix ix_tup (pv 0) pe_int (fun _ _ => rfl)) (pa_cons (pe_ix ix_tup (pv 0) pe_int (fun _ _ => rfl)) (pa_cons (pe_ix ix_tup (pv 0) pe_int (fun _ _ => rfl)) pa_nil))) rfl)
    (pss_cons (ps_if (pt_val (pe_c C_is_shown hr (by omega) (by rfl) (pa_cons (pv 0) (pa_cons (pv 1) pa_nil)))) (pss_cons (ps_setLc (i := 5) (own := [("hole", 6)]) (g := gName 6) rfl sc.nd rfl rfl (sw_true rfl rfl rfl (by decide +kernel)) (pi_tup (pv 4)) (blkOk_by (N := ["show", "value", "low", "high", "holes", "above", "hole"]) (sc := defScope s_run_top) (own := [("hole", 6)]) (by decide +kernel)) (fun _ _ _ _ _ => pg_name (i := 6) sc.nd rfl (Or.inl rfl)) (fun _ _ _ _ _ => (pts_one (pt_cmpR op_gt (pv 6) (pv 1) (nomark _)))) (fun _ _ _ _ _ => (pv 6)))
      (pss_one (ps_ret (pe_ifExp (pt_truth (pv 5) (by intro _; rfl)) (pe_op op_sub (pe_ix ix_list (pv 5) pe_int (fun _ _ => rfl)) pe_int) (pv 3))))) pss_nil)
    (pss_cons (ps_if (PW.pt (pw_and (pt_cmpR op_notN (pv 2) pe_non (nomark _)) (pw_and1 (pt_cmpR op_lt (pv 1) (pv 2) (nomark _))))) (pss_one (ps_ret (pe_op op_sub (pv 2) pe_int))) pss_nil)
    (pss_cons (ps_if (PW.pt (pw_and (pt_cmpR op_notN (pv 3) pe_non (nomark _)) (pw_and1 (pt_cmpR op_gt (pv 1) (pv 3) (nomark _))))) (pss_one (ps_ret pe_non)) pss_nil)
    (pss_one (ps_ret (pe_op op_sub (pe_c C_step_out hr (by omega) (by rfl) (pa_cons (pv 4) (pa_cons (pv 1) (pa_cons pe_int pa_nil)))) pe_int))))))), ?_⟩
    refine run_par3 (x := oV s.low) (y := oV s.high) (z := .ref t) (by walk_at "tf ea") ?_
    show Run _ _ [some (.ref a), some (.int v), some (oV s.low), some (oV s.high), some (.ref t), none, none] H
    refine run_if (b := decide (s.mem v)) (by walk_at "tf et") ⟨fun hb => ?_, fun hb => run_nx ?_⟩
    · have m := of_decide_eq_true hb
      refine run_setR (evr_lcT (K := K) (a := t) (xs := s.holes.map V.int) (isI fun h => decide (v < h)) id (ev_var rfl) h2 (by rw [List.length_map]; omega) (fun x => rfl) (fun x hx => ?_) (fun x hx _ => ev_var rfl)) ?_
      · obtain ⟨h, _, rfl⟩ := List.mem_map.mp hx
        show EvT _ _ H (decide (v < h))
        walk_at "tf et"
      rintro x H1 e1 ⟨p, rfl, hp, hl⟩
      rw [filter_ints (fun h => decide (v < h)) _ (fun i => rfl)] at hl
      have hL : SqL K H1 p ((s.holes.filter fun h => decide (v < h)).map V.int) := SqL.of hl
      cases e : s.holes.filter fun h => decide (v < h) with
      | nil =>
        rw [e] at hL
        refine run_ret (v := oV s.high) (ev_iff (et_truL (ev_var rfl) hL rfl) (ev_var rfl)) fun H2 e2 => q s.high H2 (e1.trans e2) (top_in_high m fun h hh z => none_of e h hh (decide_eq_true z))
      | cons x r =>
        rw [e] at hL
        obtain ⟨x1, x2, x3⟩ := head_least cn.asc e
        have hL : SqL K H1 p (.int x :: r.map V.int) := hL
        refine run_ret (v := oV (some (x - 1))) (ev_ift (et_truL (ev_var rfl) hL rfl) (ev_op (ev_op (ev_var rfl) ev_c (rv_ixL hL (atI_nat (j := 0) rfl))) ev_c rv_I0)) fun H2 e2 => q (some (x - 1)) H2 (e1.trans e2) (top_in cn m x1 (of_decide_eq_true x2) fun h hh z => x3 h hh (decide_eq_true z))
    have nm := of_decide_eq_false hb
    -- below the lower bound
    refine run_if (b := match s.low with | none => false | some l => decide (v < l)) ?_ ⟨fun hb2 => ?_, fun hb2 => run_nx ?_⟩
    · cases e : s.low <;> walk_at "tf et"
    · cases e : s.low with
      | none =>
        rw [e] at hb2
        cases hb2
      | some l =>
        rw [e] at hb2
        refine run_ret (v := oV (some (l - 1))) (by walk_at "tf ev") fun H2 e2 => q (some (l - 1)) H2 e2 (top_low cn e (of_decide_eq_true hb2))
    -- above the upper one
    refine run_if (b := match s.high with | none => false | some u => decide (u < v)) ?_ ⟨fun hb3 => ?_, fun hb3 => run_nx ?_⟩
    · cases e : s.high <;> walk_at "tf et"
    · cases e : s.high with
      | none =>
        rw [e] at hb3
        cases hb3
      | some u =>
        rw [e] at hb3
        refine run_ret (v := oV none) ev_c fun H2 e2 => q none H2 e2 (top_high e (of_decide_eq_true hb3))
    have hv : v ∈ s.holes := hole_of nm (fun l e => by
      rw [e] at hb2
      exact of_decide_eq_false hb2) (fun u e => by
      rw [e] at hb3
      exact of_decide_eq_false hb3)
    refine run_retR (evr_opI (evr_call (by walk_at "tf ea") (spr_up h2)) ev_c) ?_
    rintro x H1 e1 ⟨r, rfl, hu, hn⟩
    exact q (some (r - 1)) H1 e1 (top_hole cn hv hu hn)
def spBot (K : PySem.W.Frag) : Sp := fun vs H Q _ => ∃ (a : Addr) (s : Sh) (v : Int), vs = [.ref a, .int v] ∧ ShAt K H a s ∧ Canon s ∧ s.holes.length ≤ 100 ∧ ∀ o H', Same H H' → IsBot s.mem v o → Q (oV o) H'
theorem spr_bot {a : Addr} {s : Sh} {v : Int} {H : Hp} (h : ShAt K H a s) (c : Canon s) (z : s.holes.length ≤ 100) : SpR (spBot K) [.ref a, .int v] H (fun x _ => ∃ o, x = oV o ∧ IsBot s.mem v o) :=
  fun H1 e Q q => ⟨a, s, v, rfl, h.mono e, c, z, fun o H' e' t => q _ _ e' ⟨o, rfl, t⟩⟩
-- run_bottom: topS 17; slots show=0 value=1 low=2 high=3 holes=4 below=5 hole=6; cells ['value']; callees ['is_shown', 'step_out']
abbrev s_run_bottom : Stmt := topS 17
theorem sc_run_bottom : FnScope ["show", "value", "low", "high", "holes", "below", "hole"] ["show", "value"] (defScope s_run_bottom) := ⟨rfl, rfl, rfl, by decide +kernel, rfl, by decide +kernel, by decide +kernel⟩
theorem ok_run_bottom (C_is_shown : Cal P w K mg base 2 "is_shown" (spShows K)) (C_step_out : Cal P w K mg base 1 "step_out" (spStep K)) (D : Has K mg "run_bottom" s_run_bottom ["show", "value"]) : Cal P w K mg base 3 "run_bottom" (spBot K) := by
  have sc := sc_run_bottom
  refine D.cal sc (fun vs H Q E h => ?_) (fun f cdv A outer s H vs Q E hr h => ?_)
  · obtain ⟨a, s, v, rfl, _⟩ := h
    rfl
  · obtain ⟨a, s, v, rfl, hS, cn, hz, q⟩ := h
    obtain ⟨t, h1, h2⟩ := id hS
    refine ⟨_, (pss_cons (ps_par3 (i := 2) (j := 3) (l := 4) rfl sc.nd rfl rfl rfl (by decide) (by decide) (by decide) rfl rfl rfl (pa_cons (pe_ix ix_tup (pv 0) pe_int (fun _ _ => rfl)) (pa_cons (pe_ix ix_tup (pv 0) pe_int (fun _ _ => rfl)) (pa_cons (pe_ix ix_tup (pv 0) pe_int (fun _ _ => rfl)) pa_nil))) rfl)
    (pss_cons (ps_if (pt_val (pe_c C_is_shown hr (by omega) (by rfl) (pa_cons (pv 0) (pa_cons (pv 1) pa_nil)))) (pss_cons (ps_setLc (i := 5) (own := [("hole", 6)]) (g := gName 6) rfl sc.nd rfl rfl (sw_true rfl rfl rfl (by decide +kernel)) (pi_tup (pv 4)) (blkOk_by (N := ["show", "value", "low", "high", "holes", "below", "hole"]) (sc := defScope s_run_bottom) (own := [("hole", 6)]) (by decide +kernel)) (fun _ _ _ _ _ => pg_name (i := 6) sc.nd rfl (Or.inl rfl)) (fun _ _ _ _ _ => (pts_one (pt_cmpR op_lt (pv 6) (pv 1) (nomark _)))) (fun _ _ _ _ _ => (pv 6)))
      (pss_one (ps_ret (pe_ifExp (pt_truth (pv 5) (by intro _; rfl)) (pe_op op_add (pe_ix ix_list (pv 5) (pe_un un_neg pe_int) (fun _ _ => rfl)) pe_int) (pv 2))))) pss_nil)
    (pss_cons (ps_if (PW.pt (pw_and (pt_cmpR op_notN (pv 3) pe_non (nomark _)) (pw_and1 (pt_cmpR op_gt (pv 1) (pv 3) (nomark _))))) (pss_one (ps_ret (pe_op op_add (pv 3) pe_int))) pss_nil)
    (pss_cons (ps_if (PW.pt (pw_and (pt_cmpR op_notN (pv 2) pe_non (nomark _)) (pw_and1 (pt_cmpR op_lt (pv 1) (pv 2) (nomark _))))) (pss_one (ps_ret pe_non)) pss_nil)
    (pss_one (ps_ret (pe_op op_add (pe_c C_step_out hr (by omega) (by rfl) (pa_cons (pv 4) (pa_cons (pv 1) (pa_cons (pe_un un_neg pe_int) pa_nil)))) pe_int))))))), ?_⟩
    refine run_par3 (x := oV s.low) (y := oV s.high) (z := .ref t) (by walk_at "tf ea") ?_
    show Run _ _ [some (.ref a), some (.int v), some (oV s.low), some (oV s.high), some (.ref t), none, none] H
    refine run_if (b := decide (s.mem v)) (by walk_at "tf et") ⟨fun hb => ?_, fun hb => run_nx ?_⟩
    · have m := of_decide_eq_true hb
      refine run_setR (evr_lcT (K := K) (a := t) (xs := s.holes.map V.int) (isI fun h => decide (h < v)) id (ev_var rfl) h2 (by rw [List.length_map]; omega) (fun x => rfl) (fun x hx => ?_) (fun x hx _ => ev_var rfl)) ?_
      · obtain ⟨h, _, rfl⟩ := List.mem_map.mp hx
        show EvT _ _ H (decide (h < v))
        walk_at "tf et"
      rintro x H1 e1 ⟨p, rfl, hp, hl⟩
      rw [filter_ints (fun h => decide (h < v)) _ (fun i => rfl)] at hl
      have hL : SqL K H1 p ((s.holes.filter fun h => decide (h < v)).map V.int) := SqL.of hl
      by_cases e : (s.holes.filter fun h => decide (h < v)) = []
      · rw [e] at hL
        refine run_ret (v := oV s.low) (ev_iff (et_truL (ev_var rfl) hL rfl) (ev_var rfl)) fun H2 e2 => q s.low H2 (e1.trans e2) (bot_in_low m fun h hh z => none_of e h hh (decide_eq_true z))
      · obtain ⟨r, x, e⟩ : ∃ r x, (s.holes.filter fun h => decide (h < v)) = r ++ [x] := ⟨_, _, (List.dropLast_concat_getLast e).symm⟩
        rw [e, List.map_append] at hL
        obtain ⟨x1, x2, x3⟩ := last_most cn.asc e
        have hL : SqL K H1 p (r.map V.int ++ [.int x]) := hL
        refine run_ret (v := oV (some (x + 1))) (ev_ift (et_truL (ev_var rfl) hL (by cases r <;> rfl)) (ev_op (ev_op (ev_var rfl) (ev_un ev_c ru_neg) (rv_ixL hL (atI_last _ _))) ev_c rv_I0)) fun H2 e2 => q (some (x + 1)) H2 (e1.trans e2) (bot_in cn m x1 (of_decide_eq_true x2) fun h hh z => x3 h hh (decide_eq_true z))
    have nm := of_decide_eq_false hb
    refine run_if (b := match s.high with | none => false | some u => decide (u < v)) ?_ ⟨fun hb3 => ?_, fun hb3 => run_nx ?_⟩
    · cases e : s.high <;> walk_at "tf et"
    · cases e : s.high with
      | none =>
        rw [e] at hb3
        cases hb3
      | some u =>
        rw [e] at hb3
        refine run_ret (v := oV (some (u + 1))) (by walk_at "tf ev") fun H2 e2 => q (some (u + 1)) H2 e2 (bot_high cn e (of_decide_eq_true hb3))
    refine run_if (b := match s.low with | none => false | some l => decide (v < l)) ?_ ⟨fun hb2 => ?_, fun hb2 => run_nx ?_⟩
    · cases e : s.low <;> walk_at "tf et"
    · cases e : s.low with
      | none =>
        rw [e] at hb2
        cases hb2
      | some l =>
        rw [e] at hb2
        refine run_ret (v := oV none) ev_c fun H2 e2 => q none H2 e2 (bot_low e (of_decide_eq_true hb2))
    have hv : v ∈ s.holes := hole_of nm (fun l e => by
      rw [e] at hb2
      exact of_decide_eq_false hb2) (fun u e => by
      rw [e] at hb3
      exact of_decide_eq_false hb3)
    refine run_retR (evr_opI (evr_call (by walk_at "tf ea") (spr_down h2)) ev_c) ?_
    rintro x H1 e1 ⟨r, rfl, hu, hn⟩
    exact q (some (r + 1)) H1 e1 (bot_hole cn hv hu hn)
/-! ### classes -/
def spClassOf (K : PySem.W.Frag) : Sp := fun vs H Q _ => ∃ (a : Addr) (s : Sh) (v : Int) (t b : Option Int), vs = [.ref a, .int v, oV t, oV b] ∧ ShAt K H a s ∧ ∀ H', Same H H' → Q (oV (clsOf s.f (decide (s.mem v)) v t b)) H'
theorem spv_class_of {a : Addr} {s : Sh} {v : Int} {t b : Option Int} {H : Hp} (h : ShAt K H a s) : SpV (spClassOf K) [.ref a, .int v, oV t, oV b] H (oV (clsOf s.f (decide (s.mem v)) v t b)) :=
  fun H1 e Q q => ⟨a, s, v, t, b, rfl, h.mono e, q⟩
-- class_of: topS 18; slots show=0 value=1 first=2 last=3; cells []; callees ['is_shown']
abbrev s_class_of : Stmt := topS 18
theorem sc_class_of : FnScope ["show", "value", "first", "last"] ["show", "value", "first", "last"] (defScope s_class_of) := ⟨rfl, rfl, rfl, by decide +kernel, rfl, by decide +kernel, by decide +kernel⟩
theorem ok_class_of (C_is_shown : Cal P w K mg base 2 "is_shown" (spShows K)) (D : Has K mg "class_of" s_class_of ["show", "value", "first", "last"]) : Cal P w K mg base 3 "class_of" (spClassOf K) := by
  have sc := sc_class_of
  refine D.cal sc (fun vs H Q E h => ?_) (fun f cdv A outer s H vs Q E hr h => ?_)
  · obtain ⟨a, s, v, t, b, rfl, _⟩ := h
    rfl
  · obtain ⟨a, s, v, t, b, rfl, hS, q⟩ := h
    obtain ⟨th, h1, h2⟩ := id hS
    unfold clsOf at q
    refine ⟨_, (pss_cons (ps_if (PW.pt (pw_and (pt_cmpR op_ne (pe_ix ix_tup (pv 0) pe_int (fun _ _ => rfl)) pe_int (nomark _)) (pw_and1 (pt_val (pe_c C_is_shown hr (by omega) (by rfl) (pa_cons (pv 0) (pa_cons (pv 1) pa_nil))))))) (pss_one (ps_ret (pv 1))) pss_nil)
    (pss_cons (ps_if (pt_cmpR op_notN (pv 2) pe_non (nomark _)) (pss_one (ps_ret (pv 2))) pss_nil)
    (pss_cons (ps_if (pt_not (pt_val (pe_c C_is_shown hr (by omega) (by rfl) (pa_cons (pv 0) (pa_cons (pv 1) pa_nil))))) (pss_one (ps_ret pe_non)) pss_nil)
    (pss_one (ps_ret (pe_ifExp (pt_cmpR op_notN (pv 3) pe_non (nomark _)) (pv 3) pe_int)))))), ?_⟩
    refine run_if (b := (!decide (s.f = 0)) && decide (s.mem v)) (by walk_at "tf et") ⟨fun hb => ?_, fun hb => run_nx ?_⟩
    · have hb := Bool.and_eq_true_iff.mp hb
      rw [if_pos ⟨hb.2, by simpa using hb.1⟩] at q
      walk_at "tf ret"
      exact q
    rw [if_neg (fun z => by
      rw [z.1, decide_eq_false z.2] at hb
      cases hb)] at q
    cases t with
    | some x =>
      walk_at "tf if"
      walk_at "tf ret"
      exact q
    | none =>
      walk_at "tf if"
      refine run_if (b := !decide (s.mem v)) (by walk_at "tf et") ⟨fun hm => ?_, fun hm => run_nx ?_⟩
      · have hm : decide (s.mem v) = false := by simpa using hm
        rw [hm] at q
        walk_at "tf ret"
        exact q
      · have hm : decide (s.mem v) = true := by simpa using hm
        rw [hm] at q
        cases b with
        | none =>
          walk_at "tf ret"
          exact q
        | some x =>
          walk_at "tf ret"
          exact q
def spClassA (K : PySem.W.Frag) : Sp := fun vs H Q _ => ∃ (a : Addr) (s : Sh) (v : Int), vs = [.ref a, .int v] ∧ ShAt K H a s ∧ Canon s ∧ s.holes.length ≤ 100 ∧ ∀ o H', Same H H' → ClsA s.mem s.f v o → Q (oV o) H'
def spClassB (K : PySem.W.Frag) : Sp := fun vs H Q _ => ∃ (a : Addr) (s : Sh) (v : Int), vs = [.ref a, .int v] ∧ ShAt K H a s ∧ Canon s ∧ s.holes.length ≤ 100 ∧ ∀ o H', Same H H' → ClsB s.mem s.f v o → Q (oV o) H'
theorem spr_classA {a : Addr} {s : Sh} {v : Int} {H : Hp} (h : ShAt K H a s) (c : Canon s) (z : s.holes.length ≤ 100) : SpR (spClassA K) [.ref a, .int v] H (fun x _ => ∃ o, x = oV o ∧ ClsA s.mem s.f v o) :=
  fun H1 e Q q => ⟨a, s, v, rfl, h.mono e, c, z, fun o H' e' t => q _ _ e' ⟨o, rfl, t⟩⟩
theorem spr_classB {a : Addr} {s : Sh} {v : Int} {H : Hp} (h : ShAt K H a s) (c : Canon s) (z : s.holes.length ≤ 100) : SpR (spClassB K) [.ref a, .int v] H (fun x _ => ∃ o, x = oV o ∧ ClsB s.mem s.f v o) :=
  fun H1 e Q q => ⟨a, s, v, rfl, h.mono e, c, z, fun o H' e' t => q _ _ e' ⟨o, rfl, t⟩⟩
-- class_above: topS 19; slots show=0 value=1; cells []; callees ['class_of', 'run_bottom', 'run_top']
abbrev s_class_above : Stmt := topS 19
theorem sc_class_above : FnScope ["show", "value"] ["show", "value"] (defScope s_class_above) := ⟨rfl, rfl, rfl, by decide +kernel, rfl, by decide +kernel, by decide +kernel⟩
theorem ok_class_above (C_class_of : Cal P w K mg base 3 "class_of" (spClassOf K)) (C_run_top : Cal P w K mg base 3 "run_top" (spTop K)) (C_run_bottom : Cal P w K mg base 3 "run_bottom" (spBot K)) (D : Has K mg "class_above" s_class_above ["show", "value"]) : Cal P w K mg base 4 "class_above" (spClassA K) := by
  have sc := sc_class_above
  refine D.cal sc (fun vs H Q E h => ?_) (fun f cdv A outer s H vs Q E hr h => ?_)
  · obtain ⟨a, s, v, rfl, _⟩ := h
    rfl
  · obtain ⟨a, s, v, rfl, hS, cn, hz, q⟩ := h
    refine ⟨_, (pss_one (ps_ret (pe_c C_class_of hr (by omega) (by rfl) (pa_cons (pv 0) (pa_cons (pv 1) (pa_cons (pe_c C_run_top hr (by omega) (by rfl) (pa_cons (pv 0) (pa_cons (pv 1) pa_nil))) (pa_cons (pe_c C_run_bottom hr (by omega) (by rfl) (pa_cons (pv 0) (pa_cons (pv 1) pa_nil))) pa_nil))))))), ?_⟩
    refine run_retR (R := fun x _ => ∃ o, x = oV o ∧ ClsA s.mem s.f v o) (evr_callR (RA := fun vs _ => ∃ t b, vs = [.ref a, .int v, oV t, oV b] ∧ IsTop s.mem v t ∧ IsBot s.mem v b)
      (ear_cons1 (ev_var rfl) (ear_cons1 (ev_var rfl) (ear_cons (evr_call (by walk_at "tf ea") (spr_top hS cn hz)) fun x H1 e1 ⟨t, ex, ht⟩ => ear_cons (evr_call (by walk_at "tf ea") (spr_bot (hS.mono e1) cn hz)) fun y H2 e2 ⟨b, ey, hb⟩ =>
        ear_of ea_nil fun H3 e3 => ⟨t, b, by rw [ex, ey], ht, hb⟩)))
      (fun vs H1 e1 ⟨t, b, ev, ht, hb⟩ H2 e2 Q' q' => by
        rw [ev]
        exact spv_class_of (hS.mono e1) H2 e2 Q' fun H3 e3 => q' _ H3 e3 ⟨_, rfl, clsA_of decide_eq_true_iff ht hb⟩)) ?_
    rintro x H1 e1 ⟨o, rfl, ho⟩
    exact q o H1 e1 ho
-- class_below: topS 20; slots show=0 value=1; cells []; callees ['class_of', 'run_top', 'run_bottom']
abbrev s_class_below : Stmt := topS 20
theorem sc_class_below : FnScope ["show", "value"] ["show", "value"] (defScope s_class_below) := ⟨rfl, rfl, rfl, by decide +kernel, rfl, by decide +kernel, by decide +kernel⟩
theorem ok_class_below (C_class_of : Cal P w K mg base 3 "class_of" (spClassOf K)) (C_run_top : Cal P w K mg base 3 "run_top" (spTop K)) (C_run_bottom : Cal P w K mg base 3 "run_bottom" (spBot K)) (D : Has K mg "class_below" s_class_below ["show", "value"]) : Cal P w K mg base 4 "class_below" (spClassB K) := by
  have sc := sc_class_below
  refine D.cal sc (fun vs H Q E h => ?_) (fun f cdv A outer s H vs Q E hr h => ?_)
  · obtain ⟨a, s, v, rfl, _⟩ := h
    rfl
  · obtain ⟨a, s, v, rfl, hS, cn, hz, q⟩ := h
    refine ⟨_, (pss_one (ps_ret (pe_c C_class_of hr (by omega) (by rfl) (pa_cons (pv 0) (pa_cons (pv 1) (pa_cons (pe_c C_run_bottom hr (by omega) (by rfl) (pa_cons (pv 0) (pa_cons (pv 1) pa_nil))) (pa_cons (pe_c C_run_top hr (by omega) (by rfl) (pa_cons (pv 0) (pa_cons (pv 1) pa_nil))) pa_nil))))))), ?_⟩
    refine run_retR (R := fun x _ => ∃ o, x = oV o ∧ ClsB s.mem s.f v o) (evr_callR (RA := fun vs _ => ∃ t b, vs = [.ref a, .int v, oV b, oV t] ∧ IsTop s.mem v t ∧ IsBot s.mem v b)
      (ear_cons1 (ev_var rfl) (ear_cons1 (ev_var rfl) (ear_cons (evr_call (by walk_at "tf ea") (spr_bot hS cn hz)) fun x H1 e1 ⟨b, ex, hb⟩ => ear_cons (evr_call (by walk_at "tf ea") (spr_top (hS.mono e1) cn hz)) fun y H2 e2 ⟨t, ey, ht⟩ =>
        ear_of ea_nil fun H3 e3 => ⟨t, b, by rw [ex, ey], ht, hb⟩)))
      (fun vs H1 e1 ⟨t, b, ev, ht, hb⟩ H2 e2 Q' q' => by
        rw [ev]
        exact spv_class_of (hS.mono e1) H2 e2 Q' fun H3 e3 => q' _ H3 e3 ⟨_, rfl, clsB_of decide_eq_true_iff ht hb⟩)) ?_
    rintro x H1 e1 ⟨o, rfl, ho⟩
    exact q o H1 e1 ho
/-! ### count_limit, token -/
def spLim (K : PySem.W.Frag) : Sp := fun vs H Q _ => ∃ (a : Addr) (s : Sh), vs = [.ref a] ∧ ShAt K H a s ∧ Canon s ∧ s.holes.length ≤ 100 ∧ ∀ o H', Same H H' → IsLim s o → Q (oV o) H'
theorem spr_lim {a : Addr} {s : Sh} {H : Hp} (h : ShAt K H a s) (c : Canon s) (z : s.holes.length ≤ 100) : SpR (spLim K) [.ref a] H (fun x _ => ∃ o, x = oV o ∧ IsLim s o) :=
  fun H1 e Q q => ⟨a, s, rfl, h.mono e, c, z, fun o H' e' t => q _ _ e' ⟨o, rfl, t⟩⟩
-- count_limit: topS 21; slots show=0 low=1 high=2 holes=3 most=4; cells []; callees []
abbrev s_count_limit : Stmt := topS 21
theorem sc_count_limit : FnScope ["show", "low", "high", "holes", "most"] ["show"] (defScope s_count_limit) := ⟨rfl, rfl, rfl, by decide +kernel, rfl, by decide +kernel, by decide +kernel⟩
theorem ok_count_limit (G : Glob mg) (D : Has K mg "count_limit" s_count_limit ["show"]) : Cal P w K mg base 1 "count_limit" (spLim K) := by
  have sc := sc_count_limit
  refine D.cal sc (fun vs H Q E h => ?_) (fun f cdv A outer s H vs Q E hr h => ?_)
  · obtain ⟨a, s, rfl, _⟩ := h
    rfl
  · obtain ⟨a, s, rfl, hS, cn, hz, q⟩ := h
    obtain ⟨t, h1, h2⟩ := id hS
    unfold IsLim at q
    refine ⟨_, (pss_cons (ps_par3 (i := 1) (j := 2) (l := 3) rfl sc.nd rfl rfl rfl (by decide) (by decide) (by decide) rfl rfl rfl (pa_cons (pe_ix ix_tup (pv 0) pe_int (fun _ _ => rfl)) (pa_cons (pe_ix ix_tup (pv 0) pe_int (fun _ _ => rfl)) (pa_cons (pe_ix ix_tup (pv 0) pe_int (fun _ _ => rfl)) pa_nil))) rfl)
    (pss_cons (ps_if (pt_cmpR op_notN (pv 2) pe_non (nomark _)) (pss_one (ps_ret (pe_ifExp (pt_cmpR op_ge (pv 2) pe_int (nomark _)) (pe_op op_add (pv 2) pe_int) pe_int))) pss_nil)
    (pss_cons (ps_if (pt_cmpR op_ne (pe_ix ix_tup (pv 0) pe_int (fun _ _ => rfl)) pe_int (nomark _)) (pss_one (ps_ret pe_non)) pss_nil)
    (pss_cons (ps_set (i := 4) sc.nd rfl (Or.inl rfl) pe_int)
    (Evl.pss_cut (ps_if (pt_cmpR op_notN (pv 1) pe_non (nomark _)) (pss_one (ps_set (i := 4) sc.nd rfl (Or.inl rfl) (pe_callB (call_max2 rfl) (by rfl) G.bi_max (by decide +kernel) (pa_cons (pv 4) (pa_cons (pe_op op_sub (pv 1) pe_int) pa_nil))))) pss_nil)
    (pss_cons (ps_if (pt_truth (pv 3) (by intro _; rfl)) (pss_one (ps_set (i := 4) sc.nd rfl (Or.inl rfl) (pe_callB (call_max2 rfl) (by rfl) G.bi_max (by decide +kernel) (pa_cons (pv 4) (pa_cons (pe_ix ix_tup (pv 3) (pe_un un_neg pe_int) (fun _ _ => rfl)) pa_nil))))) pss_nil)
    (pss_one (ps_ret (pe_op op_add (pv 4) pe_int))))))))), ?_⟩
    refine run_par3 (x := oV s.low) (y := oV s.high) (z := .ref t) (by walk_at "tf ea") ?_
    show Run _ _ [some (.ref a), some (oV s.low), some (oV s.high), some (.ref t), none] H
    cases eh : s.high with
    | some u =>
      rw [eh] at q
      walk_at "tf if"
      refine run_ret (v := .int (if 1 ≤ u then u + 1 else 0)) (ev_if (b := decide (1 ≤ u)) (by walk_at "tf et") (fun hb => ?_) (fun hb => ?_)) fun H1 e => q _ H1 e rfl
      · rw [if_pos (of_decide_eq_true hb)]
        walk_at "tf ev"
      · rw [if_neg (of_decide_eq_false hb)]
        walk_at "tf ev"
    | none =>
      rw [eh] at q h1
      walk_at "tf if"
      refine run_if (b := !decide (s.f = 0)) (by walk_at "tf et") ⟨fun hb => ?_, fun hb => run_nx ?_⟩
      · walk_at "tf ret"
        exact fun H1 e => q none H1 e (.inl ⟨by simpa using hb, rfl⟩)
      have hf : s.f = 0 := by simpa using hb
      refine run_set ev_c ?_
      refine run_cut (fun σ' => ∃ m : Int, σ' = [some (.ref a), some (oV s.low), some .non, some (.ref t), some (.int m)] ∧ 0 ≤ m ∧ (∀ l, s.low = some l → l - 1 ≤ m) ∧ (m = 0 ∨ ∃ l, s.low = some l ∧ m = l - 1)) ?_ ?_
      · cases el : s.low with
        | none =>
          refine run_if1 (b := false) (by walk_at "tf et") ⟨fun z => (Bool.false_ne_true z).elim, fun _ => ?_⟩
          exact fun H1 e => ⟨⟨0, rfl, Int.le_refl _, fun l z => (nomatch z), .inl rfl⟩, e⟩
        | some l =>
          refine run_if1 (b := true) (by walk_at "tf et") ⟨fun _ => ?_, fun z => (Bool.false_ne_true z.symm).elim⟩
          exact run_set1 (v := .int (max 0 (l - 1))) (by walk_at "tf ev") fun H1 e => ⟨⟨max 0 (l - 1), rfl, by omega, fun l' z => by cases z; omega, by
            rcases Int.le_total (l - 1) 0 with z | z
            · exact .inl (by omega)
            · exact .inr ⟨l, rfl, by omega⟩⟩, e⟩
      · rintro σ' ⟨m, rfl, m0, m1, m2⟩
        by_cases eo : s.holes = []
        · have h3 : SqT K H t [] := by
            rw [eo] at h2
            exact h2
          refine run_if (et_truT (ev_var rfl) h3 rfl) ⟨fun z => (Bool.false_ne_true z).elim, fun _ => run_nx ?_⟩
          refine run_ret (v := .int (m + 1)) (by walk_at "tf ev") fun H1 e => q (some (m + 1)) H1 e (.inr ⟨hf, m, rfl, m0, m1, fun h hh => (by rw [eo] at hh; exact absurd hh List.not_mem_nil), ?_⟩)
          rcases m2 with z | z
          · exact .inl z
          · exact .inr (.inl z)
        · obtain ⟨r, x, e⟩ : ∃ r x, s.holes = r ++ [x] := ⟨_, _, (List.dropLast_concat_getLast eo).symm⟩
          have h3 : SqT K H t (r.map V.int ++ [.int x]) := by
            rw [e, List.map_append] at h2
            exact h2
          have hmx : ∀ h ∈ s.holes, h ≤ x := fun h hh => by
            have ha := cn.asc
            rw [e] at hh ha
            rcases List.mem_append.mp hh with z | z
            · have := (List.pairwise_append.mp ha).2.2 h z x (List.mem_singleton_self _)
              omega
            · cases List.mem_singleton.mp z
              omega
          refine run_if (et_truT (b := true) (ev_var rfl) h3 (by cases r <;> rfl)) ⟨fun _ => ?_, fun z => (Bool.false_ne_true z.symm).elim⟩
          refine run_set1k (v := .int (max m x)) (ev_cb (ea_cons (ev_var rfl) (ea_cons (ev_op (ev_var rfl) (ev_un ev_c ru_neg) (rv_ixT h3 (atI_last _ _))) ea_nil)) rc_max2) ?_
          refine run_ret (v := .int (max m x + 1)) (by walk_at "tf ev") fun H1 e1 => q (some (max m x + 1)) H1 e1 (.inr ⟨hf, max m x, rfl, by omega, fun l z => by have := m1 l z; omega, fun h hh => by have := hmx h hh; omega, ?_⟩)
          rcases Int.le_total x m with z | z
          · rw [show max m x = m by omega]
            rcases m2 with z | z
            · exact .inl z
            · exact .inr (.inl z)
          · rw [show max m x = x by omega]
            exact .inr (.inr (by rw [e]; exact List.mem_append_right _ (List.mem_singleton_self _)))
def spTok (K : PySem.W.Frag) : Sp := fun vs H Q _ => ∃ (a : Addr) (s : Sh), vs = [.ref a] ∧ ShAt K H a s ∧ Canon s ∧ s.holes.length ≤ 10 ∧ ∀ r H', Same H H' → IsTok s.mem r → Q (.int r) H'
theorem spr_tok {a : Addr} {s : Sh} {H : Hp} (h : ShAt K H a s) (c : Canon s) (z : s.holes.length ≤ 10) : SpR (spTok K) [.ref a] H (fun x _ => ∃ r, x = .int r ∧ IsTok s.mem r) :=
  fun H1 e Q q => ⟨a, s, rfl, h.mono e, c, z, fun o H' e' t => q _ _ e' ⟨o, rfl, t⟩⟩
-- token: topS 22; slots show=0 low=1 high=2 holes=3 up=4 down=5; cells []; callees ['step_out']
abbrev s_token : Stmt := topS 22
theorem sc_token : FnScope ["show", "low", "high", "holes", "up", "down"] ["show"] (defScope s_token) := ⟨rfl, rfl, rfl, by decide +kernel, rfl, by decide +kernel, by decide +kernel⟩
theorem ok_token (G : Glob mg) (C_step_out : Cal P w K mg base 1 "step_out" (spStep K)) (D : Has K mg "token" s_token ["show"]) : Cal P w K mg base 2 "token" (spTok K) := by
  have sc := sc_token
  refine D.cal sc (fun vs H Q E h => ?_) (fun f cdv A outer s H vs Q E hr h => ?_)
  · obtain ⟨a, s, rfl, _⟩ := h
    rfl
  · obtain ⟨a, s, rfl, hS, cn, hz, q⟩ := h
    obtain ⟨t, h1, h2⟩ := id hS
    refine ⟨_, (pss_cons (ps_par3 (i := 1) (j := 2) (l := 3) rfl sc.nd rfl rfl rfl (by decide) (by decide) (by decide) rfl rfl rfl (pa_cons (pe_ix ix_tup (pv 0) pe_int (fun _ _ => rfl)) (pa_cons (pe_ix ix_tup (pv 0) pe_int (fun _ _ => rfl)) (pa_cons (pe_ix ix_tup (pv 0) pe_int (fun _ _ => rfl)) pa_nil))) rfl)
    (pss_cons (ps_set (i := 4) sc.nd rfl (Or.inl rfl) (pe_c C_step_out hr (by omega) (by rfl) (pa_cons (pv 3) (pa_cons (pe_ifExp (pt_cmpR op_isN (pv 1) pe_non (nomark _)) pe_int (pe_callB (call_max2 rfl) (by rfl) G.bi_max (by decide +kernel) (pa_cons pe_int (pa_cons (pv 1) pa_nil)))) (pa_cons pe_int pa_nil)))))
    (pss_cons (ps_set (i := 5) sc.nd rfl (Or.inl rfl) (pe_c C_step_out hr (by omega) (by rfl) (pa_cons (pv 3) (pa_cons (pe_ifExp (pt_cmpR op_isN (pv 2) pe_non (nomark _)) pe_int (pe_callB (call_min2 rfl) (by rfl) G.bi_min (by decide +kernel) (pa_cons pe_int (pa_cons (pv 2) pa_nil)))) (pa_cons (pe_un un_neg pe_int) pa_nil)))))
    (pss_cons (ps_if (PW.pt (pw_and (pt_cmpR op_notN (pv 2) pe_non (nomark _)) (pw_and1 (pt_cmpR op_gt (pv 4) (pv 2) (nomark _))))) (pss_one (ps_ret (pv 5))) pss_nil)
    (pss_cons (ps_if (PW.pt (pw_and (pt_cmpR op_notN (pv 1) pe_non (nomark _)) (pw_and1 (pt_cmpR op_lt (pv 5) (pv 1) (nomark _))))) (pss_one (ps_ret (pv 4))) pss_nil)
    (pss_one (ps_ret (pe_ifExp (pt_cmpR op_le (pv 4) (pe_un un_neg (pv 5)) (nomark _)) (pv 4) (pv 5))))))))), ?_⟩
    refine run_par3 (x := oV s.low) (y := oV s.high) (z := .ref t) (by walk_at "tf ea") ?_
    show Run _ _ [some (.ref a), some (oV s.low), some (oV s.high), some (.ref t), none, none] H
    refine run_setR (evr_call (ea_cons (ev_var rfl) (ea_cons ?aU (ea_cons ev_c ea_nil))) (spr_up (v := upFrom s.low) h2)) ?kU
    case aU =>
      refine ev_if (b := s.low.isNone) ?_ (fun z => ?_) (fun z => ?_)
      · cases s.low <;> walk_at "tf et"
      · cases e : s.low with
        | none => exact ev_c
        | some l => rw [e] at z; cases z
      · cases e : s.low with
        | none => rw [e] at z; cases z
        | some l => exact ev_cb (ea_cons ev_c (ea_cons (ev_var rfl) ea_nil)) rc_max2
    rintro x H1 e1 ⟨up, rfl, hu, nu⟩
    show Run _ _ [some (.ref a), some (oV s.low), some (oV s.high), some (.ref t), some (.int up), none] H1
    refine run_setR (evr_call (ea_cons (ev_var rfl) (ea_cons ?aD (ea_cons (ev_un ev_c ru_neg) ea_nil))) (spr_down (v := downFrom s.high) (same_t e1 h2))) ?kD
    case aD =>
      refine ev_if (b := s.high.isNone) ?_ (fun z => ?_) (fun z => ?_)
      · cases s.high <;> walk_at "tf et"
      · cases e : s.high with
        | none => exact ev_c
        | some l => rw [e] at z; cases z
      · cases e : s.high with
        | none => rw [e] at z; cases z
        | some l => exact ev_cb (ea_cons ev_c (ea_cons (ev_var rfl) ea_nil)) rc_min2
    rintro x H2 e2 ⟨dn, rfl, hd, ndn⟩
    show Run _ _ [some (.ref a), some (oV s.low), some (oV s.high), some (.ref t), some (.int up), some (.int dn)] H2
    have q' : ∀ r H', Same H2 H' → IsTok s.mem r → Q (.int r) H' := fun r H' e => q r H' ((e1.trans e2).trans e)
    refine run_if (b := match s.high with | none => false | some u => decide (u < up)) ?_ ⟨fun hb => ?_, fun hb => run_nx ?_⟩
    · cases e : s.high <;> walk_at "tf et"
    · cases e : s.high with
      | none =>
        rw [e] at hb
        cases hb
      | some u =>
        rw [e] at hb
        walk_at "tf ret"
        exact fun H3 e3 => q' dn H3 e3 (tok_down cn hu hd ndn e (of_decide_eq_true hb))
    have ku : ∀ u, s.high = some u → up ≤ u := fun u e => by
      rw [e] at hb
      have := of_decide_eq_false hb
      omega
    refine run_if (b := match s.low with | none => false | some l => decide (dn < l)) ?_ ⟨fun hb2 => ?_, fun hb2 => run_nx ?_⟩
    · cases e : s.low <;> walk_at "tf et"
    · cases e : s.low with
      | none =>
        rw [e] at hb2
        cases hb2
      | some l =>
        rw [e] at hb2
        walk_at "tf ret"
        exact fun H3 e3 => q' up H3 e3 (tok_up hu nu hd ku e (of_decide_eq_true hb2))
    have kl : ∀ l, s.low = some l → l ≤ dn := fun l e => by
      rw [e] at hb2
      have := of_decide_eq_false hb2
      omega
    obtain ⟨k1, k2⟩ := tok_both hu nu hd ndn ku kl
    refine run_retR (evr_if (R := fun v H' => Q v H') (b := decide (up ≤ -dn)) (by walk_at "tf et") (fun z => ?_) (fun z => ?_)) (fun v H1 e r => r)
    · exact evr_of (ev_var rfl) fun H3 e3 => q' up H3 e3 (k1 (of_decide_eq_true z))
    · exact evr_of (ev_var rfl) fun H3 e3 => q' dn H3 e3 (k2 (of_decide_eq_false z))
end
end
section

section
variable {P : Program} {w : World} {K : PySem.W.Frag} {mg : Str → Option Value} {base : Heap}
local macro_rules | `(tactic| walk_at "tf sp") => `(tactic| exact spv_shows (by assumption))
/-! ### _law_top -/
theorem cut3 (v1 v2 v3 v4 v5 v6 : V) : cutV [v1, v2, v3, v4, v5, v6] (some 1) (some 4) = [v2, v3, v4] := rfl
-- _law_top: topS 33; slots _law_show=0 _law_value=1 _law_low=2 _law_high=3 _law_holes=4 _law_above=5 _law_k=6 _law_hole=7; cells ['_law_value']; callees ['_law_inside']
abbrev s_law_top : Stmt := topS 33
theorem sc_law_top : FnScope ["_law_show", "_law_value", "_law_low", "_law_high", "_law_holes", "_law_above", "_law_k", "_law_hole"] ["_law_show", "_law_value"] (defScope s_law_top) := ⟨rfl, rfl, rfl, by decide +kernel, rfl, by decide +kernel, by decide +kernel⟩
theorem ok_law_top (G : Glob mg) (C_law_inside : Cal P w K mg base 1 "_law_inside" (spShows K)) (D : Has K mg "_law_top" s_law_top ["_law_show", "_law_value"]) : Cal P w K mg base 2 "_law_top" (spTop K) := by
  have sc := sc_law_top
  refine D.cal sc (fun vs H Q E h => ?_) (fun f cdv A outer s H vs Q E hr h => ?_)
  · obtain ⟨a, s, v, rfl, _⟩ := h
    rfl
  · obtain ⟨a, s, v, rfl, hS, cn, hz, q⟩ := h
    obtain ⟨t, h1, h2⟩ := id hS
    refine ⟨_, (pss_cons (ps_asg (pe_slice sl_tup (pv 0) (po_some pe_int) (po_some pe_int)) (pg_tup rfl (pgs_cons (pg_name (i := 2) sc.nd rfl (Or.inl rfl)) (pgs_cons (pg_name (i := 3) sc.nd rfl (Or.inl rfl)) (pgs_cons (pg_name (i := 4) sc.nd rfl (Or.inl rfl)) pgs_nil)))))
    (pss_cons (ps_if (pt_val (pe_c C_law_inside hr (by omega) (by rfl) (pa_cons (pv 0) (pa_cons (pv 1) pa_nil)))) (pss_cons (ps_setLc (i := 5) (own := [("_law_hole", 7)]) (g := gName 7) rfl sc.nd rfl rfl (sw_true rfl rfl rfl (by decide +kernel)) (pi_tup (pv 4)) (blkOk_by (N := ["_law_show", "_law_value", "_law_low", "_law_high", "_law_holes", "_law_above", "_law_k", "_law_hole"]) (sc := defScope s_law_top) (own := [("_law_hole", 7)]) (by decide +kernel)) (fun _ _ _ _ _ => pg_name (i := 7) sc.nd rfl (Or.inl rfl)) (fun _ _ _ _ _ => (pts_one (pt_cmpR op_gt (pv 7) (pv 1) (nomark _)))) (fun _ _ _ _ _ => (pv 7)))
      (pss_one (ps_ret (pe_ifExp (pt_truth (pv 5) (by intro _; rfl)) (pe_op op_sub (pe_ix ix_list (pv 5) pe_int (fun _ _ => rfl)) pe_int) (pv 3))))) pss_nil)
    (pss_cons (ps_if (PW.pt (pw_and (pt_cmpR op_notN (pv 2) pe_non (nomark _)) (pw_and1 (pt_cmpR op_lt (pv 1) (pv 2) (nomark _))))) (pss_one (ps_ret (pe_op op_sub (pv 2) pe_int))) pss_nil)
    (pss_cons (ps_if (PW.pt (pw_and (pt_cmpR op_notN (pv 3) pe_non (nomark _)) (pw_and1 (pt_cmpR op_gt (pv 1) (pv 3) (nomark _))))) (pss_one (ps_ret pe_non)) pss_nil)
    (pss_cons (ps_for PassesOwn.never rfl (pi_range1 rfl G.bi_range (pa_cons (pe_callB call_len_seq (by rfl) G.bi_len (by decide +kernel) (pa_cons (pv 4) pa_nil)) pa_nil)) (pg_name (i := 6) sc.nd rfl (Or.inl rfl)) (pss_one (ps_if (pt_cmpR op_in_seq (pe_op op_add (pv 1) pe_int) (pv 4) (by with_unfolding_all rfl)) (pss_one (ps_set (i := 1) sc.nd rfl (Or.inr rfl) (pe_op op_add (pv 1) pe_int))) pss_nil)))
    (pss_one (ps_ret (pv 1)))))))), ?_⟩
    refine run_tup3R (R := fun x H1 => ∃ p, x = .ref p ∧ H1 p = some (.tup [oV s.low, oV s.high, .ref t])) (fun H1 e Q' q' => ?_) ?_
    · refine ⟨.ref a, rfl, 1, rfl, 4, rfl, a, _, rfl, same_t e h1, (by show ¬ (HT.sIx 6 0 (some 1) = 0 ∧ HT.sIx 6 6 (some 4) = 6); decide), fun p hp => ?_⟩
      rw [cut3]
      exact q' _ _ (same_new hp) ⟨p, rfl, upd_same⟩
    rintro x H1 e1 ⟨p, rfl, hp⟩
    refine ⟨p, _, _, _, rfl, SqT.of hp, ?_⟩
    show Run _ _ [some (.ref a), some (.int v), some (oV s.low), some (oV s.high), some (.ref t), none, none, none] H1
    have hS1 := hS.mono e1
    have h21 := same_t e1 h2
    have q' : ∀ o H', Same H1 H' → IsTop s.mem v o → Q (oV o) H' := fun o H' e => q o H' (e1.trans e)
    refine run_if (b := decide (s.mem v)) (by walk_at "tf et") ⟨fun hb => ?_, fun hb => run_nx ?_⟩
    · have m := of_decide_eq_true hb
      refine run_setR (evr_lcT (K := K) (a := t) (xs := s.holes.map V.int) (isI fun h => decide (v < h)) id (ev_var rfl) h21 (by rw [List.length_map]; omega) (fun x => rfl) (fun x hx => ?_) (fun x hx _ => ev_var rfl)) ?_
      · obtain ⟨h, _, rfl⟩ := List.mem_map.mp hx
        show EvT _ _ H1 (decide (v < h))
        walk_at "tf et"
      rintro x H2 e2 ⟨p2, rfl, hp2, hl⟩
      rw [filter_ints (fun h => decide (v < h)) _ (fun i => rfl)] at hl
      have hL : SqL K H2 p2 ((s.holes.filter fun h => decide (v < h)).map V.int) := SqL.of hl
      cases e : s.holes.filter fun h => decide (v < h) with
      | nil =>
        rw [e] at hL
        refine run_ret (v := oV s.high) (ev_iff (et_truL (ev_var rfl) hL rfl) (ev_var rfl)) fun H3 e3 => q' s.high H3 (e2.trans e3) (top_in_high m fun h hh z => none_of e h hh (decide_eq_true z))
      | cons x r =>
        rw [e] at hL
        obtain ⟨x1, x2, x3⟩ := head_least cn.asc e
        have hL : SqL K H2 p2 (.int x :: r.map V.int) := hL
        refine run_ret (v := oV (some (x - 1))) (ev_ift (et_truL (ev_var rfl) hL rfl) (ev_op (ev_op (ev_var rfl) ev_c (rv_ixL hL (atI_nat (j := 0) rfl))) ev_c rv_I0)) fun H3 e3 => q' (some (x - 1)) H3 (e2.trans e3) (top_in cn m x1 (of_decide_eq_true x2) fun h hh z => x3 h hh (decide_eq_true z))
    have nm := of_decide_eq_false hb
    refine run_if (b := match s.low with | none => false | some l => decide (v < l)) ?_ ⟨fun hb2 => ?_, fun hb2 => run_nx ?_⟩
    · cases e : s.low <;> walk_at "tf et"
    · cases e : s.low with
      | none =>
        rw [e] at hb2
        cases hb2
      | some l =>
        rw [e] at hb2
        refine run_ret (v := oV (some (l - 1))) (by walk_at "tf ev") fun H2 e2 => q' (some (l - 1)) H2 e2 (top_low cn e (of_decide_eq_true hb2))
    refine run_if (b := match s.high with | none => false | some u => decide (u < v)) ?_ ⟨fun hb3 => ?_, fun hb3 => run_nx ?_⟩
    · cases e : s.high <;> walk_at "tf et"
    · cases e : s.high with
      | none =>
        rw [e] at hb3
        cases hb3
      | some u =>
        rw [e] at hb3
        refine run_ret (v := oV none) ev_c fun H2 e2 => q' none H2 e2 (top_high e (of_decide_eq_true hb3))
    have hv : v ∈ s.holes := hole_of nm (fun l e => by
      rw [e] at hb2
      exact of_decide_eq_false hb2) (fun u e => by
      rw [e] at hb3
      exact of_decide_eq_false hb3)
    refine run_forR1 (n := s.holes.length) (ea_cons (ev_cb (ea_cons (ev_var rfl) ea_nil) (rc_lenT h21)) ea_nil |> fun z => by rw [List.length_map] at z; exact z) (by omega)
      (fun i σ' => ∃ (r : Int) (kk : Option V), σ' = [some (.ref a), some (.int r), some (oV s.low), some (oV s.high), some (.ref t), none, kk, none] ∧ Up s.holes v (r + 1) ∧ (r + 1 ∉ s.holes ∨ r = v + (i : Int)))
      ⟨v, none, rfl, (Up.refl _ _).step hv, .inr (by omega)⟩ ?_ ?_
    · rintro i σ' hi ⟨r, kk, rfl, hu, hr⟩
      refine run_if1 (b := decide (r + 1 ∈ s.holes)) (by walk_at "tf et") ⟨fun hb => ?_, fun hb => ?_⟩
      · have hm := of_decide_eq_true hb
        refine run_set1 (v := .int (r + 1)) (by walk_at "tf ev") fun H2 e2 => ⟨⟨r + 1, _, rfl, hu.step hm, .inr ?_⟩, e2⟩
        rcases hr with h | h
        · exact absurd hm h
        · omega
      · have hm := of_decide_eq_false hb
        exact fun H2 e2 => ⟨⟨r, _, rfl, hu, .inl hm⟩, e2⟩
    · rintro σ' ⟨r, kk, rfl, hu, hr⟩
      have hm : r + 1 ∉ s.holes := by
        rcases hr with h | h
        · exact h
        · have := up_len (k := s.holes.length + 1) hu (by omega)
          omega
      walk_at "tf ret"
      have ht := top_hole cn hv hu hm
      rw [show r + 1 - 1 = r by omega] at ht
      exact fun H2 e2 => q' (some r) H2 e2 ht
/-! ### _law_turned -/
def spTurn (K : PySem.W.Frag) : Sp := fun vs H Q _ => ∃ (a : Addr) (s : Sh), vs = [.ref a] ∧ ShAt K H a s ∧ s.holes.length ≤ 100 ∧ ∀ p H', Same H H' → ShAt K H' p s.turn → Q (.ref p) H'
theorem spr_turn {a : Addr} {s : Sh} {H : Hp} (h : ShAt K H a s) (z : s.holes.length ≤ 100) : SpR (spTurn K) [.ref a] H (fun x H' => ∃ p, x = .ref p ∧ ShAt K H' p s.turn) :=
  fun H1 e Q q => ⟨a, s, rfl, h.mono e, z, fun p H' e' t => q _ _ e' ⟨p, rfl, t⟩⟩
def negV : V → V
  | .int i => .int (-i)
  | x => x
theorem filter_negs : ∀ xs : List Int, ((xs.map V.int).filter fun _ => true).map negV = (xs.map (- ·)).map V.int
  | [] => rfl
  | x :: r => by
    rw [List.map_cons, List.filter_cons, if_pos rfl, List.map_cons, filter_negs r]
    rfl
-- _law_turned: topS 34; slots _law_show=0 _law_holes=1 _law_low=2 _law_hole=3; cells []; callees []
abbrev s_law_turned : Stmt := topS 34
theorem sc_law_turned : FnScope ["_law_show", "_law_holes", "_law_low", "_law_hole"] ["_law_show"] (defScope s_law_turned) := ⟨rfl, rfl, rfl, by decide +kernel, rfl, by decide +kernel, by decide +kernel⟩
theorem ok_law_turned (G : Glob mg) (D : Has K mg "_law_turned" s_law_turned ["_law_show"]) : Cal P w K mg base 1 "_law_turned" (spTurn K) := by
  have sc := sc_law_turned
  refine D.cal sc (fun vs H Q E h => ?_) (fun f cdv A outer s H vs Q E hr h => ?_)
  · obtain ⟨a, s, rfl, _⟩ := h
    rfl
  · obtain ⟨a, s, rfl, hS, hz, q⟩ := h
    obtain ⟨t, h1, h2⟩ := id hS
    refine ⟨_, (pss_cons (ps_set (i := 1) sc.nd rfl (Or.inl rfl) (pe_callTy call_tuple_of (by rfl) G.bi_tuple (by decide +kernel) (pa_cons (pe_revL (pe_lc (own := [("_law_hole", 3)]) (g := gName 3) rfl sc.nd (pi_tup (pe_ix ix_tup (pv 0) pe_int (fun _ _ => rfl))) (blkOk_by (N := ["_law_show", "_law_holes", "_law_low", "_law_hole"]) (sc := defScope s_law_turned) (own := [("_law_hole", 3)]) (by decide +kernel)) (fun _ _ _ _ _ => pg_name (i := 3) sc.nd rfl (Or.inl rfl)) (fun _ _ _ _ _ => pts_nil) (fun _ _ _ _ _ => (pe_un un_neg (pv 3))))) pa_nil)))
    (pss_cons (ps_set (i := 2) sc.nd rfl (Or.inl rfl) (pe_ifExp (pt_cmpR op_isN (pe_ix ix_tup (pv 0) pe_int (fun _ _ => rfl)) pe_non (nomark _)) pe_non (pe_un un_neg (pe_ix ix_tup (pv 0) pe_int (fun _ _ => rfl)))))
    (pss_one (ps_ret (pe_tup (pa_cons (pe_ix ix_tup (pv 0) pe_int (fun _ _ => rfl)) (pa_cons (pv 2) (pa_cons (pe_ifExp (pt_cmpR op_isN (pe_ix ix_tup (pv 0) pe_int (fun _ _ => rfl)) pe_non (nomark _)) pe_non (pe_un un_neg (pe_ix ix_tup (pv 0) pe_int (fun _ _ => rfl)))) (pa_cons (pv 1) (pa_cons (pe_ix ix_tup (pv 0) pe_int (fun _ _ => rfl)) (pa_cons (pe_ix ix_tup (pv 0) pe_int (fun _ _ => rfl)) pa_nil))))))))))), ?_⟩
    refine run_setR (evr_tupOf (xs := ((s.holes.map (- ·)).map V.int).reverse) (evr_imp (evr_rev (evr_imp (evr_lcT (K := K) (a := t) (xs := s.holes.map V.int) (fun _ => true) negV (by walk_at "tf ev") h2 (by rw [List.length_map]; omega) (fun x => rfl) (fun x hx => et_yes) (fun x hx _ => ?_))
      fun v H1 e1 ⟨p, ev, hp0, hl⟩ => ⟨p, ev, by rw [filter_negs] at hl; exact SqL.of hl⟩)) fun v H1 e1 ⟨p, ev, hl⟩ => ⟨p, ev, SqL.of hl⟩)) ?_
    · obtain ⟨h, _, rfl⟩ := List.mem_map.mp hx
      exact ev_un (ev_var rfl) ru_neg
    rintro x H1 e1 ⟨th, rfl, hth⟩
    show Run _ _ [some (.ref a), some (.ref th), none, none] H1
    have h11 := same_t e1 h1
    refine run_set (v := oV s.turn.low) ?_ ?_
    · refine ev_if (b := s.high.isNone) ?_ (fun z => ?_) (fun z => ?_)
      · cases e : s.high <;> (rw [e] at h11; walk_at "tf et")
      · cases e : s.high with
        | none =>
          refine ev_c.to ?_
          unfold Sh.turn
          rw [e]
          rfl
        | some u => rw [e] at z; cases z
      · cases e : s.high with
        | none => rw [e] at z; cases z
        | some u =>
          rw [e] at h11
          refine Ev.to (v := .int (-u)) (by walk_at "tf ev") ?_
          unfold Sh.turn
          rw [e]
          rfl
    show Run _ _ [some (.ref a), some (.ref th), some (oV s.turn.low), none] H1
    have aH : ∀ te, te = tIf (tTest (tOp (fun x y H Q => y = V.non ∧ Q (V.bl (decide (x = V.non))) H) (tOp (rIxT K) (tVar 0) (tC (V.int 1))) (tC V.non))) (tC V.non) (tUn (rU fun i => V.int (-i)) (tOp (rIxT K) (tVar 0) (tC (V.int 1)))) → Ev te [some (.ref a), some (.ref th), some (oV s.turn.low), none] H1 (oV s.turn.high) := fun te et => by
      subst et
      refine ev_if (b := s.low.isNone) ?_ (fun z => ?_) (fun z => ?_)
      · cases e : s.low <;> (rw [e] at h11; walk_at "tf et")
      · cases e : s.low with
        | none =>
          refine ev_c.to ?_
          unfold Sh.turn
          rw [e]
          rfl
        | some u => rw [e] at z; cases z
      · cases e : s.low with
        | none => rw [e] at z; cases z
        | some u =>
          rw [e] at h11
          refine Ev.to (v := .int (-u)) (by walk_at "tf ev") ?_
          unfold Sh.turn
          rw [e]
          rfl
    refine run_retR (R := fun v H' => Q v H') (evr_tup (ea_cons (by walk_at "tf ev") (ea_cons (ev_var rfl) (ea_cons (aH _ rfl) (ea_cons (ev_var rfl) (ea_cons (by walk_at "tf ev") (ea_cons (by walk_at "tf ev") ea_nil)))))) (Nat.le_of_ble_eq_true rfl) fun p H2 e2 hp => ?_) (fun v H1 e r => r)
    exact q p H2 (e1.trans e2) ⟨th, SqT.of hp, by
      show SqT K H2 th ((s.holes.map (- ·)).reverse.map V.int)
      rw [List.map_reverse]
      exact SqT.of (e2 _ _ hth)⟩
/-! ### _law_class -/
def spClass (K : PySem.W.Frag) (n : Nat) : Sp := fun vs H Q _ => ∃ (a : Addr) (s : Sh) (v st : Int), vs = [.ref a, .int v, .int st] ∧ ShAt K H a s ∧ Canon s ∧ s.holes.length ≤ 100 ∧
  ((st = 1 ∧ ∀ o H', Same H H' → ClsA s.mem s.f v o → Q (oV o) H') ∨ (0 < n ∧ st = -1 ∧ ∀ o H', Same H H' → ClsB s.mem s.f v o → Q (oV o) H'))
theorem spr_class1 {n : Nat} {a : Addr} {s : Sh} {v : Int} {H : Hp} (h : ShAt K H a s) (c : Canon s) (z : s.holes.length ≤ 100) : SpR (spClass K n) [.ref a, .int v, .int 1] H (fun x _ => ∃ o, x = oV o ∧ ClsA s.mem s.f v o) :=
  fun H1 e Q q => ⟨a, s, v, 1, rfl, h.mono e, c, z, .inl ⟨rfl, fun o H' e' t => q _ _ e' ⟨o, rfl, t⟩⟩⟩
theorem spr_class2 {a : Addr} {s : Sh} {v : Int} {H : Hp} (h : ShAt K H a s) (c : Canon s) (z : s.holes.length ≤ 100) : SpR (spClass K 1) [.ref a, .int v, .int (-1)] H (fun x _ => ∃ o, x = oV o ∧ ClsB s.mem s.f v o) :=
  fun H1 e Q q => ⟨a, s, v, -1, rfl, h.mono e, c, z, .inr ⟨by decide, rfl, fun o H' e' t => q _ _ e' ⟨o, rfl, t⟩⟩⟩
theorem turn_len (s : Sh) : s.turn.holes.length = s.holes.length := by
  show ((s.holes.map (- ·)).reverse).length = _
  rw [List.length_reverse, List.length_map]
theorem turn_mem_eq (s : Sh) : s.turn.mem = fun j => s.mem (-j) := funext fun j => propext (turn_mem s j)
-- _law_class: topS 35; slots _law_show=0 _law_value=1 _law_step=2 _law_found=3 _law_inside_here=4 _law_top_here=5 _law_bottom=6; cells []; callees ['_law_class', '_law_turned', '_law_inside', '_law_top']
abbrev s_law_class : Stmt := topS 35
theorem sc_law_class : FnScope ["_law_show", "_law_value", "_law_step", "_law_found", "_law_inside_here", "_law_top_here", "_law_bottom"] ["_law_show", "_law_value", "_law_step"] (defScope s_law_class) := ⟨rfl, rfl, rfl, by decide +kernel, rfl, by decide +kernel, by decide +kernel⟩
theorem law_class_step {k n : Nat} {spR : Sp} (hk : 2 ≤ k) (C_law_class : Cal P w K mg base k "_law_class" spR)
    (hR : 0 < n → ∀ (a : Addr) (s : Sh) (v : Int) (H : Hp), ShAt K H a s → Canon s → s.holes.length ≤ 100 → SpR spR [.ref a, .int v, .int 1] H (fun x _ => ∃ o, x = oV o ∧ ClsA s.mem s.f v o))
    (C_law_turned : Cal P w K mg base 1 "_law_turned" (spTurn K)) (C_law_inside : Cal P w K mg base 1 "_law_inside" (spShows K)) (C_law_top : Cal P w K mg base 2 "_law_top" (spTop K))
    (D : Has K mg "_law_class" s_law_class ["_law_show", "_law_value", "_law_step"]) : Cal P w K mg base (k + 1) "_law_class" (spClass K n) := by
  have sc := sc_law_class
  refine D.cal sc (fun vs H Q E h => ?_) (fun f cdv A outer s H vs Q E hr h => ?_)
  · obtain ⟨a, s, v, st, rfl, _⟩ := h
    rfl
  · obtain ⟨a, s, v, st, rfl, hS, cn, hz, ⟨rfl, q⟩ | ⟨hn, rfl, q⟩⟩ := h
    · refine ⟨_, (pss_cons (ps_if (pt_cmpR op_lt (pv 2) pe_int (nomark _)) (pss_cons (ps_set (i := 3) sc.nd rfl (Or.inl rfl) (pe_c C_law_class hr (by omega) (by rfl) (pa_cons (pe_c C_law_turned hr (by omega) (by rfl) (pa_cons (pv 0) pa_nil)) (pa_cons (pe_un un_neg (pv 1)) (pa_cons pe_int pa_nil)))))
      (pss_one (ps_ret (pe_ifExp (pt_cmpR op_isN (pv 3) pe_non (nomark _)) pe_non (pe_un un_neg (pv 3)))))) pss_nil)
    (pss_cons (ps_set (i := 4) sc.nd rfl (Or.inl rfl) (pe_c C_law_inside hr (by omega) (by rfl) (pa_cons (pv 0) (pa_cons (pv 1) pa_nil))))
    (pss_cons (ps_if (PW.pt (pw_and (pt_val (pv 4)) (pw_and1 (pt_cmpR op_ne (pe_ix ix_tup (pv 0) pe_int (fun _ _ => rfl)) pe_int (nomark _))))) (pss_one (ps_ret (pv 1))) pss_nil)
    (pss_cons (ps_set (i := 5) sc.nd rfl (Or.inl rfl) (pe_c C_law_top hr (by omega) (by rfl) (pa_cons (pv 0) (pa_cons (pv 1) pa_nil))))
    (pss_cons (ps_if (PW.pt (pw_or (pt_cmpR op_notN (pv 5) pe_non (nomark _)) (pw_or1 (pt_not (pt_val (pv 4)))))) (pss_one (ps_ret (pv 5))) pss_nil)
    (pss_cons (ps_set (i := 6) sc.nd rfl (Or.inl rfl) (pe_c C_law_top hr (by omega) (by rfl) (pa_cons (pe_c C_law_turned hr (by omega) (by rfl) (pa_cons (pv 0) pa_nil)) (pa_cons (pe_un un_neg (pv 1)) pa_nil))))
    (pss_one (ps_ret (pe_ifExp (pt_cmpR op_isN (pv 6) pe_non (nomark _)) pe_int (pe_un un_neg (pv 6))))))))))), ?_⟩
      refine run_if (b := false) (EvT.to (b := decide ((1 : Int) < 0)) (by walk_at "tf et") rfl) ⟨fun z => (Bool.false_ne_true z).elim, fun _ => run_nx ?_⟩
      obtain ⟨t, h1, h2⟩ := id hS
      walk_at "tf set"
      show Run _ _ [some (.ref a), some (.int v), some (.int 1), none, some (.bl (decide (s.mem v))), none, none] H
      refine run_if (b := decide (s.mem v) && !decide (s.f = 0)) (by walk_at "tf et") ⟨fun hb => ?_, fun hb => run_nx ?_⟩
      · have hb := Bool.and_eq_true_iff.mp hb
        walk_at "tf ret"
        exact fun H1 e => q (some v) H1 e (.inl ⟨of_decide_eq_true hb.1, by simpa using hb.2, rfl⟩)
      have nb : ¬ (s.mem v ∧ s.f ≠ 0) := fun z => by
        rw [decide_eq_true z.1, decide_eq_false z.2] at hb
        cases hb
      refine run_setR (evr_call (by walk_at "tf ea") (spr_top hS cn hz)) ?_
      rintro x H1 e1 ⟨tp, rfl, ht⟩
      show Run _ _ [some (.ref a), some (.int v), some (.int 1), none, some (.bl (decide (s.mem v))), some (oV tp), none] H1
      have hS1 := hS.mono e1
      refine run_if (b := tp.isSome || !decide (s.mem v)) ?_ ⟨fun hb2 => ?_, fun hb2 => run_nx ?_⟩
      · cases tp with
        | none => exact et_or (b := !decide (s.mem v)) (by walk_at "tf et") (by walk_at "tf et")
        | some x => exact et_or (b := !decide (s.mem v)) (by walk_at "tf et") (by walk_at "tf et")
      · walk_at "tf ret"
        refine fun H2 e2 => q tp H2 (e1.trans e2) (.inr ⟨nb, tp, ht, .inl ⟨?_, rfl⟩⟩)
        rcases Bool.or_eq_true_iff.mp hb2 with z | z
        · exact .inl fun y => by rw [y] at z; cases z
        · exact .inr (by simpa using z)
      have hb2 := Bool.or_eq_false_iff.mp hb2
      have htn : tp = none := by
        cases tp with
        | none => rfl
        | some x => cases hb2.1
      have hm : s.mem v := by simpa using hb2.2
      refine run_setR (R := fun x _ => ∃ o, x = oV o ∧ IsTop s.turn.mem (-v) o) (evr_callR (RA := fun vs H2 => ∃ p, vs = [.ref p, .int (-v)] ∧ ShAt K H2 p s.turn)
        (ear_cons (evr_call (by walk_at "tf ea") (spr_turn hS1 hz)) fun x H2 e2 ⟨p, ex, hp⟩ => ear_of (ea_cons (ev_un (ev_var rfl) ru_neg) ea_nil) fun H3 e3 => ⟨p, by rw [ex], hp.mono e3⟩)
        fun vs H2 e2 ⟨p, ev, hp⟩ => by
          rw [ev]
          exact spr_top hp (turn_canon cn) (by rw [turn_len]; exact hz)) ?_
      rintro x H2 e2 ⟨o, rfl, ho⟩
      show Run _ _ [some (.ref a), some (.int v), some (.int 1), none, some (.bl (decide (s.mem v))), some (oV tp), some (oV o)] H2
      have hB : IsBot s.mem v (o.map (- ·)) := by
        rw [isBot_iff, Option.map_map]
        rw [turn_mem_eq] at ho
        cases o with
        | none => exact ho
        | some y =>
          show IsTop _ _ (some (- -y))
          rw [Int.neg_neg]
          exact ho
      have fin : ∀ H3, Same H2 H3 → Q (oV (some ((o.map (- ·)).getD 0))) H3 := fun H3 e3 => q _ H3 ((e1.trans e2).trans e3) (.inr ⟨nb, tp, ht, .inr ⟨htn, hm, _, hB, rfl⟩⟩)
      cases o with
      | none =>
        walk_at "tf ret"
        exact fin
      | some y =>
        walk_at "tf ret"
        exact fin
    · refine ⟨_, (pss_cons (ps_if (pt_cmpR op_lt (pv 2) pe_int (nomark _)) (pss_cons (ps_set (i := 3) sc.nd rfl (Or.inl rfl) (pe_c C_law_class hr (by omega) (by rfl) (pa_cons (pe_c C_law_turned hr (by omega) (by rfl) (pa_cons (pv 0) pa_nil)) (pa_cons (pe_un un_neg (pv 1)) (pa_cons pe_int pa_nil)))))
      (pss_one (ps_ret (pe_ifExp (pt_cmpR op_isN (pv 3) pe_non (nomark _)) pe_non (pe_un un_neg (pv 3)))))) pss_nil)
    (pss_cons (ps_set (i := 4) sc.nd rfl (Or.inl rfl) (pe_c C_law_inside hr (by omega) (by rfl) (pa_cons (pv 0) (pa_cons (pv 1) pa_nil))))
    (pss_cons (ps_if (PW.pt (pw_and (pt_val (pv 4)) (pw_and1 (pt_cmpR op_ne (pe_ix ix_tup (pv 0) pe_int (fun _ _ => rfl)) pe_int (nomark _))))) (pss_one (ps_ret (pv 1))) pss_nil)
    (pss_cons (ps_set (i := 5) sc.nd rfl (Or.inl rfl) (pe_c C_law_top hr (by omega) (by rfl) (pa_cons (pv 0) (pa_cons (pv 1) pa_nil))))
    (pss_cons (ps_if (PW.pt (pw_or (pt_cmpR op_notN (pv 5) pe_non (nomark _)) (pw_or1 (pt_not (pt_val (pv 4)))))) (pss_one (ps_ret (pv 5))) pss_nil)
    (pss_cons (ps_set (i := 6) sc.nd rfl (Or.inl rfl) (pe_c C_law_top hr (by omega) (by rfl) (pa_cons (pe_c C_law_turned hr (by omega) (by rfl) (pa_cons (pv 0) pa_nil)) (pa_cons (pe_un un_neg (pv 1)) pa_nil))))
    (pss_one (ps_ret (pe_ifExp (pt_cmpR op_isN (pv 6) pe_non (nomark _)) pe_int (pe_un un_neg (pv 6))))))))))), ?_⟩
      refine run_if (b := true) (EvT.to (b := decide ((-1 : Int) < 0)) (by walk_at "tf et") rfl) ⟨fun _ => ?_, fun z => (Bool.false_ne_true z.symm).elim⟩
      refine run_setR (R := fun x _ => ∃ o, x = oV o ∧ ClsA s.turn.mem s.turn.f (-v) o) (evr_callR (RA := fun vs H2 => ∃ p, vs = [.ref p, .int (-v), .int 1] ∧ ShAt K H2 p s.turn)
        (ear_cons (evr_call (by walk_at "tf ea") (spr_turn hS hz)) fun x H2 e2 ⟨p, ex, hp⟩ => ear_of (ea_cons (ev_un (ev_var rfl) ru_neg) (ea_cons ev_c ea_nil)) fun H3 e3 => ⟨p, by rw [ex], hp.mono e3⟩)
        fun vs H2 e2 ⟨p, ev, hp⟩ => by
          rw [ev]
          exact hR hn p s.turn (-v) H2 hp (turn_canon cn) (by rw [turn_len]; exact hz)) ?_
      rintro x H1 e1 ⟨o, rfl, ho⟩
      have hB : ClsB s.mem s.f v (o.map (- ·)) := by
        unfold ClsB
        rw [turn_mem_eq] at ho
        rw [Option.map_map]
        cases o with
        | none => exact ho
        | some y =>
          show ClsA _ _ _ (some (- -y))
          rw [Int.neg_neg]
          exact ho
      cases o with
      | none =>
        walk_at "tf ret"
        exact fun H2 e2 => q none H2 (e1.trans e2) hB
      | some y =>
        walk_at "tf ret"
        exact fun H2 e2 => q (some (-y)) H2 (e1.trans e2) hB
theorem ok_law_class (C_law_turned : Cal P w K mg base 1 "_law_turned" (spTurn K)) (C_law_inside : Cal P w K mg base 1 "_law_inside" (spShows K)) (C_law_top : Cal P w K mg base 2 "_law_top" (spTop K))
    (D : Has K mg "_law_class" s_law_class ["_law_show", "_law_value", "_law_step"]) : Cal P w K mg base 4 "_law_class" (spClass K 1) :=
  law_class_step (k := 3) (by decide) (law_class_step (k := 2) (n := 0) (Nat.le_refl _) D.never (fun z => absurd z (by decide)) C_law_turned C_law_inside C_law_top D) (fun _ a s v H h c z => spr_class1 h c z) C_law_turned C_law_inside C_law_top D
end
end
section

section
variable {P : Program} {w : World} {K : PySem.W.Frag} {mg : Str → Option Value} {base : Heap}
local macro_rules | `(tactic| walk_at "tf sp") => `(tactic| exact spv_shows (by assumption))
/-! ### _law_limit -/
theorem filter_all : ∀ xs : List Int, ((xs.map V.int).filter fun _ => true).map id = xs.map V.int
  | [] => rfl
  | x :: r => by
    rw [List.map_cons, List.filter_cons, if_pos rfl, List.map_cons, filter_all r]
    rfl
-- _law_limit: topS 36; slots _law_show=0 _law_least=1 _law_hole=2; cells []; callees []
abbrev s_law_limit : Stmt := topS 36
theorem sc_law_limit : FnScope ["_law_show", "_law_least", "_law_hole"] ["_law_show"] (defScope s_law_limit) := ⟨rfl, rfl, rfl, by decide +kernel, rfl, by decide +kernel, by decide +kernel⟩
theorem ok_law_limit (G : Glob mg) (D : Has K mg "_law_limit" s_law_limit ["_law_show"]) : Cal P w K mg base 1 "_law_limit" (spLim K) := by
  have sc := sc_law_limit
  refine D.cal sc (fun vs H Q E h => ?_) (fun f cdv A outer s H vs Q E hr h => ?_)
  · obtain ⟨a, s, rfl, _⟩ := h
    rfl
  · obtain ⟨a, s, rfl, hS, cn, hz, q⟩ := h
    obtain ⟨t, h1, h2⟩ := id hS
    unfold IsLim at q
    refine ⟨_, (pss_cons (ps_if (pt_cmpR op_notN (pe_ix ix_tup (pv 0) pe_int (fun _ _ => rfl)) pe_non (nomark _)) (pss_one (ps_ret (pe_ifExp (pt_cmpR op_ge (pe_ix ix_tup (pv 0) pe_int (fun _ _ => rfl)) pe_int (nomark _)) (pe_op op_add (pe_ix ix_tup (pv 0) pe_int (fun _ _ => rfl)) pe_int) pe_int))) pss_nil)
    (pss_cons (ps_if (pt_cmpR op_ne (pe_ix ix_tup (pv 0) pe_int (fun _ _ => rfl)) pe_int (nomark _)) (pss_one (ps_ret pe_non)) pss_nil)
    (pss_cons (ps_set (i := 1) sc.nd rfl (Or.inl rfl) (pe_ifExp (pt_cmpR op_isN (pe_ix ix_tup (pv 0) pe_int (fun _ _ => rfl)) pe_non (nomark _)) pe_int (pe_callB (call_max2 rfl) (by rfl) G.bi_max (by decide +kernel) (pa_cons pe_int (pa_cons (pe_op op_sub (pe_ix ix_tup (pv 0) pe_int (fun _ _ => rfl)) pe_int) pa_nil)))))
    (pss_one (ps_ret (pe_op op_add (pe_callB (cr_max rfl) (by rfl) G.bi_max (by decide +kernel) (pa_cons (pe_op op_cat (pe_lst (pa_cons (pv 1) pa_nil)) (pe_lc (own := [("_law_hole", 2)]) (g := gName 2) rfl sc.nd (pi_tup (pe_ix ix_tup (pv 0) pe_int (fun _ _ => rfl))) (blkOk_by (N := ["_law_show", "_law_least", "_law_hole"]) (sc := defScope s_law_limit) (own := [("_law_hole", 2)]) (by decide +kernel)) (fun _ _ _ _ _ => pg_name (i := 2) sc.nd rfl (Or.inl rfl)) (fun _ _ _ _ _ => pts_nil) (fun _ _ _ _ _ => (pv 2)))) pa_nil)) pe_int)))))), ?_⟩
    cases eh : s.high with
    | some u =>
      rw [eh] at q h1
      walk_at "tf if"
      refine run_ret (v := .int (if 1 ≤ u then u + 1 else 0)) (ev_if (b := decide (1 ≤ u)) (by walk_at "tf et") (fun hb => ?_) (fun hb => ?_)) fun H1 e => q _ H1 e rfl
      · rw [if_pos (of_decide_eq_true hb)]
        walk_at "tf ev"
      · rw [if_neg (of_decide_eq_false hb)]
        walk_at "tf ev"
    | none =>
      rw [eh] at q h1
      walk_at "tf if"
      refine run_if (b := !decide (s.f = 0)) (by walk_at "tf et") ⟨fun hb => ?_, fun hb => run_nx ?_⟩
      · walk_at "tf ret"
        exact fun H1 e => q none H1 e (.inl ⟨by simpa using hb, rfl⟩)
      have hf : s.f = 0 := by simpa using hb
      let b : Int := match s.low with
        | none => 0
        | some l => max 0 (l - 1)
      have hb0 : 0 ≤ b ∧ (∀ l, s.low = some l → l - 1 ≤ b) ∧ (b = 0 ∨ ∃ l, s.low = some l ∧ b = l - 1) := by
        show 0 ≤ (match s.low with | none => 0 | some l => max 0 (l - 1)) ∧ (∀ l, s.low = some l → l - 1 ≤ (match s.low with | none => 0 | some l => max 0 (l - 1))) ∧ ((match s.low with | none => 0 | some l => max 0 (l - 1)) = 0 ∨ ∃ l, s.low = some l ∧ (match s.low with | none => 0 | some l => max 0 (l - 1)) = l - 1)
        cases s.low with
        | none => exact ⟨Int.le_refl _, fun l e => (nomatch e), .inl rfl⟩
        | some l =>
          refine ⟨by show 0 ≤ max 0 (l - 1); omega, fun l' e => by cases e; show l - 1 ≤ max 0 (l - 1); omega, ?_⟩
          rcases Int.le_total (l - 1) 0 with z | z
          · exact .inl (by show max 0 (l - 1) = 0; omega)
          · exact .inr ⟨l, rfl, by show max 0 (l - 1) = l - 1; omega⟩
      refine run_set (v := .int b) ?_ ?_
      · refine ev_if (b := s.low.isNone) ?_ (fun z => ?_) (fun z => ?_)
        · cases e : s.low <;> (rw [e] at h1; walk_at "tf et")
        · have eb : b = 0 := by
            show (match s.low with | none => 0 | some l => max 0 (l - 1)) = 0
            cases e : s.low with
            | none => rfl
            | some l => rw [e] at z; cases z
          rw [eb]
          exact ev_c
        · cases e : s.low with
          | none => rw [e] at z; cases z
          | some l =>
            rw [e] at h1
            have eb : b = max 0 (l - 1) := by
              show (match s.low with | none => 0 | some l => max 0 (l - 1)) = max 0 (l - 1)
              rw [e]
            rw [eb]
            exact ev_cb (ea_cons ev_c (ea_cons (ev_op (by walk_at "tf ev") ev_c rv_I0) ea_nil)) rc_max2
      clear_value b
      show Run _ _ [some (.ref a), some (.int b), none] H
      refine run_retR (evr_opI (Pr := fun m => m ∈ b :: s.holes ∧ ∀ y, y ∈ b :: s.holes → y ≤ m) (evr_max (ns := b :: s.holes) (evr_imp (evr_cat (xs := [.int b]) (ys := s.holes.map V.int)
          (evr_lst (ea_cons (ev_var rfl) ea_nil) (Nat.le_of_ble_eq_true rfl) fun p H1 e hp => ⟨p, rfl, hp⟩)
          (evr_imp (evr_lcT (K := K) (a := t) (xs := s.holes.map V.int) (fun _ => true) id (by walk_at "tf ev") h2 (by rw [List.length_map]; omega) (fun x => rfl) (fun x hx => et_yes) (fun x hx _ => ev_var rfl))
            fun v H1 e ⟨p, ev, _, hl⟩ => ⟨p, ev, by rw [filter_all] at hl; exact hl⟩)
          (by rw [List.length_map]; show 1 + s.holes.length ≤ 1000; omega)) fun v H1 e ⟨p, ev, hl⟩ => ⟨p, ev, SqL.of hl⟩) (by simp)) ev_c) ?_
      rintro x H1 e ⟨m, rfl, hm, hmx⟩
      have hb := hmx b (List.mem_cons_self ..)
      refine q (some (m + 1)) H1 e (.inr ⟨hf, m, rfl, by omega, fun l z => by have := hb0.2.1 l z; omega, fun h hh => hmx h (List.mem_cons_of_mem _ hh), ?_⟩)
      rcases List.mem_cons.mp hm with z | z
      · rcases hb0.2.2 with y | ⟨l, y1, y2⟩
        · exact .inl (by omega)
        · exact .inr (.inl ⟨l, y1, by omega⟩)
      · exact .inr (.inr z)
/-! ### _law_nearest -/
theorem near_mem {s : Sh} (c : Canon s) (hz : s.holes.length ≤ 10) (hl : ∀ l, s.low = some l → ¬ 0 < l) (hu : ∀ u, s.high = some u → ¬ u < 0) (h : ∀ j : Int, j.natAbs ≤ 11 → ¬ s.mem j) : False := by
  have h1 : ∀ u, s.high = some u → 11 < u := fun u e => by
    have := h u
    have := hu u e
    apply Decidable.byContradiction
    intro z
    exact h u (by omega) (c.high_mem e)
  have hall : ∀ j : Nat, j < 11 → (1 : Int) + j ∈ s.holes := fun j hj => by
    apply Decidable.byContradiction
    intro z
    refine h (1 + j) (by omega) ⟨fun l e => ?_, fun u e => ?_, z⟩
    · have := hl l e
      omega
    · have := h1 u e
      omega
  have := row_len 11 s.holes hall
  omega
-- _law_nearest: topS 37; slots _law_show=0 _law_size=1 _law_value=2; cells []; callees ['_law_inside']
abbrev s_law_nearest : Stmt := topS 37
theorem sc_law_nearest : FnScope ["_law_show", "_law_size", "_law_value"] ["_law_show"] (defScope s_law_nearest) := ⟨rfl, rfl, rfl, by decide +kernel, rfl, by decide +kernel, by decide +kernel⟩
theorem ok_law_nearest (G : Glob mg) (C_law_inside : Cal P w K mg base 1 "_law_inside" (spShows K)) (D : Has K mg "_law_nearest" s_law_nearest ["_law_show"]) : Cal P w K mg base 2 "_law_nearest" (spTok K) := by
  have sc := sc_law_nearest
  refine D.cal sc (fun vs H Q E h => ?_) (fun f cdv A outer s H vs Q E hr h => ?_)
  · obtain ⟨a, s, rfl, _⟩ := h
    rfl
  · obtain ⟨a, s, rfl, hS, cn, hz, q⟩ := h
    obtain ⟨t, h1, h2⟩ := id hS
    refine ⟨_, (pss_cons (ps_if (pt_val (pe_c C_law_inside hr (by omega) (by rfl) (pa_cons (pv 0) (pa_cons pe_int pa_nil)))) (pss_one (ps_ret pe_int)) pss_nil)
    (pss_cons (ps_if (PW.pt (pw_and (pt_cmpR op_notN (pe_ix ix_tup (pv 0) pe_int (fun _ _ => rfl)) pe_non (nomark _)) (pw_and1 (pt_cmpR op_gt (pe_ix ix_tup (pv 0) pe_int (fun _ _ => rfl)) pe_int (nomark _))))) (pss_one (ps_ret (pe_ix ix_tup (pv 0) pe_int (fun _ _ => rfl)))) pss_nil)
    (pss_cons (ps_if (PW.pt (pw_and (pt_cmpR op_notN (pe_ix ix_tup (pv 0) pe_int (fun _ _ => rfl)) pe_non (nomark _)) (pw_and1 (pt_cmpR op_lt (pe_ix ix_tup (pv 0) pe_int (fun _ _ => rfl)) pe_int (nomark _))))) (pss_one (ps_ret (pe_ix ix_tup (pv 0) pe_int (fun _ _ => rfl)))) pss_nil)
    (pss_cons (ps_for PassesOwn.never rfl (pi_range2 rfl G.bi_range (pa_cons pe_int (pa_cons pe_int pa_nil))) (pg_name (i := 1) sc.nd rfl (Or.inl rfl)) (pss_one (ps_for PassesOwn.never rfl (pi_list (pe_lst (pa_cons (pv 1) (pa_cons (pe_un un_neg (pv 1)) pa_nil)))) (pg_name (i := 2) sc.nd rfl (Or.inl rfl)) (pss_one (ps_if (pt_val (pe_c C_law_inside hr (by omega) (by rfl) (pa_cons (pv 0) (pa_cons (pv 2) pa_nil)))) (pss_one (ps_ret (pv 2))) pss_nil)))))
    (pss_one (ps_ret pe_non)))))), ?_⟩
    refine run_if (b := decide (s.mem 0)) (by walk_at "tf et") ⟨fun hb => ?_, fun hb => run_nx ?_⟩
    · walk_at "tf ret"
      exact fun H1 e => q 0 H1 e ⟨of_decide_eq_true hb, fun v m => by omega⟩
    have n0 := of_decide_eq_false hb
    refine run_if (b := match s.low with | none => false | some l => decide (0 < l)) ?_ ⟨fun hb2 => ?_, fun hb2 => run_nx ?_⟩
    · cases e : s.low <;> (rw [e] at h1; walk_at "tf et")
    · cases e : s.low with
      | none =>
        rw [e] at hb2
        cases hb2
      | some l =>
        rw [e] at hb2 h1
        have hp := of_decide_eq_true hb2
        refine run_ret (v := .int l) (by walk_at "tf ev") fun H1 e1 => q l H1 e1 ⟨cn.low_mem e, fun v m => by
          have := m.1 l e
          omega⟩
    refine run_if (b := match s.high with | none => false | some u => decide (u < 0)) ?_ ⟨fun hb3 => ?_, fun hb3 => run_nx ?_⟩
    · cases e : s.high <;> (rw [e] at h1; walk_at "tf et")
    · cases e : s.high with
      | none =>
        rw [e] at hb3
        cases hb3
      | some u =>
        rw [e] at hb3 h1
        have hp := of_decide_eq_true hb3
        refine run_ret (v := .int u) (by walk_at "tf ev") fun H1 e1 => q u H1 e1 ⟨cn.high_mem e, fun v m => by
          have := m.2.1 u e
          omega⟩
    have hl : ∀ l, s.low = some l → ¬ 0 < l := fun l e => by
      rw [e] at hb2
      exact of_decide_eq_false hb2
    have hu : ∀ u, s.high = some u → ¬ u < 0 := fun u e => by
      rw [e] at hb3
      exact of_decide_eq_false hb3
    refine run_forR2 (n := 11) (lo := 1) (hi := 12) (ea_cons ev_c (ea_cons ev_c ea_nil)) (by decide)
      (fun i σ' => ∃ k1 k2 : Option V, σ' = [some (.ref a), k1, k2] ∧ ∀ j : Int, j.natAbs ≤ i → ¬ s.mem j) ⟨none, none, rfl, fun j hj => by rw [show j = 0 by omega]; exact n0⟩ ?_ ?_
    · rintro i σ' hi ⟨k1, k2, rfl, hn⟩
      refine run_forN1 (xs := [.int (1 + (i : Int)), .int (-(1 + (i : Int)))]) (evr_lst (ea_cons (ev_var rfl) (ea_cons (ev_un (ev_var rfl) ru_neg) ea_nil)) (Nat.le_of_ble_eq_true rfl) fun p H1 e hp => ⟨p, rfl, SqL.of hp⟩)
        (fun m σ2 => ∃ k2 : Option V, σ2 = [some (.ref a), some (.int (1 + (i : Int))), k2] ∧ (1 ≤ m → ¬ s.mem (1 + (i : Int))) ∧ (2 ≤ m → ¬ s.mem (-(1 + (i : Int))))) ⟨k2, rfl, fun z => by omega, fun z => by omega⟩ ?_ ?_
      · rintro H0 e0 m x σ2 hx ⟨k2, rfl, m1, m2⟩
        have hS0 := hS.mono e0
        have tok : ∀ x : Int, (x = 1 + (i : Int) ∨ (x = -(1 + (i : Int)) ∧ ¬ s.mem (1 + (i : Int)))) → s.mem x → IsTok s.mem x := fun x hx hm => ⟨hm, fun v mv => by
          apply Decidable.byContradiction
          intro z
          have h3 : ¬ v.natAbs ≤ i := fun y => hn v y mv
          rcases hx with hx | ⟨hx, hx2⟩
          · omega
          · have : v ≠ 1 + (i : Int) := fun y => hx2 (y ▸ mv)
            omega⟩
        match m, hx with
        | 0, hx =>
          cases hx
          refine run_if1 (b := decide (s.mem (1 + (i : Int)))) (by walk_at "tf et") ⟨fun hb => ?_, fun hb => ?_⟩
          · walk_at "tf ret"
            exact fun H1 e1 => q _ H1 (e0.trans e1) (tok _ (.inl rfl) (of_decide_eq_true hb))
          · exact fun H1 e1 => ⟨⟨_, rfl, fun _ => of_decide_eq_false hb, fun z => by omega⟩, e1⟩
        | 1, hx =>
          cases hx
          refine run_if1 (b := decide (s.mem (-(1 + (i : Int))))) (by walk_at "tf et") ⟨fun hb => ?_, fun hb => ?_⟩
          · walk_at "tf ret"
            exact fun H1 e1 => q _ H1 (e0.trans e1) (tok _ (.inr ⟨rfl, m1 (Nat.le_refl _)⟩) (of_decide_eq_true hb))
          · exact fun H1 e1 => ⟨⟨_, rfl, fun _ => m1 (Nat.le_refl _), fun _ => of_decide_eq_false hb⟩, e1⟩
        | m + 2, hx => simp at hx
      · rintro σ2 ⟨k2, rfl, m1, m2⟩ H' e'
        refine ⟨⟨_, _, rfl, fun j hj mj => ?_⟩, e'⟩
        have a1 := m1 (Nat.le_of_ble_eq_true rfl)
        have a2 := m2 (Nat.le_of_ble_eq_true rfl)
        have : ¬ j.natAbs ≤ i := fun y => hn j y mj
        have : j ≠ 1 + (i : Int) := fun y => a1 (y ▸ mj)
        have : j ≠ -(1 + (i : Int)) := fun y => a2 (y ▸ mj)
        omega
    · rintro σ' ⟨k1, k2, rfl, hn⟩
      exact (near_mem cn hz hl hu hn).elim
/-! ### _law_same -/
/-- the same data, tuples at most n deep -/
def SEq (K : PySem.W.Frag) (H : Hp) : Nat → V → V → Prop
  | 0, x, y => x = y ∧ (x = .non ∨ (∃ b, x = .bl b) ∨ ∃ i, x = .int i)
  | n + 1, x, y => (x = y ∧ (x = .non ∨ (∃ b, x = .bl b) ∨ ∃ i, x = .int i)) ∨
    ∃ a b xs ys, x = .ref a ∧ y = .ref b ∧ SqT K H a xs ∧ SqT K H b ys ∧ xs.length = ys.length ∧ xs.length ≤ 100 ∧ ∀ (i : Nat) x y, xs[i]? = some x → ys[i]? = some y → SEq K H n x y
theorem SEq.mono {H H' : Hp} (e : Same H H') : ∀ {n : Nat} {x y : V}, SEq K H n x y → SEq K H' n x y
  | 0, _, _, h => h
  | n + 1, _, _, .inl h => .inl h
  | n + 1, _, _, .inr ⟨a, b, xs, ys, e1, e2, h1, h2, l, z, f⟩ => .inr ⟨a, b, xs, ys, e1, e2, same_t e h1, same_t e h2, l, z, fun i x y hx hy => SEq.mono e (f i x y hx hy)⟩
def spSame (K : PySem.W.Frag) (n : Nat) : Sp := fun vs H Q _ => ∃ x y : V, vs = [x, y] ∧ SEq K H n x y ∧ ∀ H', Same H H' → Q (.bl true) H'
theorem spv_same {n : Nat} {x y : V} {H : Hp} (h : SEq K H n x y) : SpV (spSame K n) [x, y] H (.bl true) := fun H1 e Q q => ⟨x, y, rfl, h.mono e, q⟩
theorem trues : ∀ xs : List V, (xs.filter fun _ => true).map (fun _ => V.bl true) = (List.replicate xs.length true).map V.bl
  | [] => rfl
  | x :: r => by
    rw [List.filter_cons, if_pos rfl, List.map_cons, trues r]
    rfl
theorem all_trues : ∀ n, (List.replicate n true).all id = true
  | 0 => rfl
  | n + 1 => by
    rw [List.replicate_succ, List.all_cons, all_trues n]
    rfl
-- _law_same: topS 26; slots _law_actual=0 _law_due=1 _law_k=2; cells ['_law_actual', '_law_due']; callees ['_law_same']
abbrev s_law_same : Stmt := topS 26
theorem sc_law_same : FnScope ["_law_actual", "_law_due", "_law_k"] ["_law_actual", "_law_due"] (defScope s_law_same) := ⟨rfl, rfl, rfl, by decide +kernel, rfl, by decide +kernel, by decide +kernel⟩
theorem law_same_step {k n : Nat} {spR : Sp} (G : Glob mg) (C_law_same : Cal P w K mg base k "_law_same" spR)
    (hR : ∀ m, n = m + 1 → ∀ x y H, SEq K H m x y → SpV spR [x, y] H (.bl true)) (D : Has K mg "_law_same" s_law_same ["_law_actual", "_law_due"]) : Cal P w K mg base (k + 1) "_law_same" (spSame K n) := by
  have sc := sc_law_same
  refine D.cal sc (fun vs H Q E h => ?_) (fun f cdv A outer s H vs Q E hr h => ?_)
  · obtain ⟨x, y, rfl, _⟩ := h
    rfl
  · obtain ⟨x, y, rfl, hs, q⟩ := h
    refine ⟨_, (pss_cons (ps_if (pt_val (pe_callB call_isiT (by rfl) G.bi_isinstance (by decide +kernel) (pa_cons (pv 1) (pa_cons (pe_tup (pa_cons (pe_bltn (v := .ty "list") (by rfl) G.bi_list (by decide +kernel) rfl) (pa_cons (pe_bltn (v := .ty "tuple") (by rfl) G.bi_tuple (by decide +kernel) rfl) pa_nil))) pa_nil)))) (pss_cons (ps_if (PW.pt (pw_or (pt_cmpR op_ne (pe_callB call_isi (by rfl) G.bi_isinstance (by decide +kernel) (pa_cons (pv 1) (pa_cons (pe_bltn (v := .ty "list") (by rfl) G.bi_list (by decide +kernel) rfl) pa_nil))) (pe_callB call_isi (by rfl) G.bi_isinstance (by decide +kernel) (pa_cons (pv 0) (pa_cons (pe_bltn (v := .ty "list") (by rfl) G.bi_list (by decide +kernel) rfl) pa_nil))) (nomark _)) (pw_or1 (pt_cmpR op_ne (pe_callB call_isi (by rfl) G.bi_isinstance (by decide +kernel) (pa_cons (pv 1) (pa_cons (pe_bltn (v := .ty "tuple") (by rfl) G.bi_tuple (by decide +kernel) rfl) pa_nil))) (pe_callB call_isi (by rfl) G.bi_isinstance (by decide +kernel) (pa_cons (pv 0) (pa_cons (pe_bltn (v := .ty "tuple") (by rfl) G.bi_tuple (by decide +kernel) rfl) pa_nil))) (nomark _))))) (pss_one (ps_ret pe_bl)) pss_nil)
      (pss_cons (ps_if (pt_cmpR op_ne (pe_callB call_len_seq (by rfl) G.bi_len (by decide +kernel) (pa_cons (pv 0) pa_nil)) (pe_callB call_len_seq (by rfl) G.bi_len (by decide +kernel) (pa_cons (pv 1) pa_nil)) (nomark _)) (pss_one (ps_ret pe_bl)) pss_nil)
      (pss_one (ps_ret (pe_callB (cr_all rfl) (by rfl) G.bi_all (by decide +kernel) (pa_cons (pe_lc (own := [("_law_k", 2)]) (g := gName 2) rfl sc.nd (pi_range1 rfl G.bi_range (pa_cons (pe_callB call_len_seq (by rfl) G.bi_len (by decide +kernel) (pa_cons (pv 1) pa_nil)) pa_nil)) (blkOk_by (N := ["_law_actual", "_law_due", "_law_k"]) (sc := defScope s_law_same) (own := [("_law_k", 2)]) (by decide +kernel)) (fun _ _ _ _ _ => pg_name (i := 2) sc.nd rfl (Or.inl rfl)) (fun _ _ _ _ _ => pts_nil) (fun _ _ _ _ _ => (pe_c C_law_same hr (by omega) (by rfl) (pa_cons (pe_ix (r := rIxT K) ix_tup (pv 0) (pv 2) (fun _ _ => rfl)) (pa_cons (pe_ix (r := rIxT K) ix_tup (pv 1) (pv 2) (fun _ _ => rfl)) pa_nil))))) pa_nil)))))) pss_nil)
    (pss_cons (ps_if (pt_cmpR op_isN (pv 1) pe_non (nomark _)) (pss_one (ps_ret (pe_cmpR op_isN (pv 0) pe_non (nomark _)))) pss_nil)
    (pss_cons (ps_if (pt_cmpR op_ne (pe_callB call_isi (by rfl) G.bi_isinstance (by decide +kernel) (pa_cons (pv 1) (pa_cons (pe_bltn (v := .ty "bool") (by rfl) G.bi_bool (by decide +kernel) rfl) pa_nil))) (pe_callB call_isi (by rfl) G.bi_isinstance (by decide +kernel) (pa_cons (pv 0) (pa_cons (pe_bltn (v := .ty "bool") (by rfl) G.bi_bool (by decide +kernel) rfl) pa_nil))) (nomark _)) (pss_one (ps_ret pe_bl)) pss_nil)
    (pss_cons (ps_if (pt_val (pe_callB call_isi (by rfl) G.bi_isinstance (by decide +kernel) (pa_cons (pv 1) (pa_cons (pe_bltn (v := .ty "str") (by rfl) G.bi_str (by decide +kernel) rfl) pa_nil)))) (pss_one (ps_ret (pe_and (pe_callB call_isi (by rfl) G.bi_isinstance (by decide +kernel) (pa_cons (pv 0) (pa_cons (pe_bltn (v := .ty "str") (by rfl) G.bi_str (by decide +kernel) rfl) pa_nil))) (pe_one (pe_cmpR op_eq (pv 0) (pv 1) (nomark _)))))) pss_nil)
    (pss_one (ps_ret (pe_and (pe_callB call_isi (by rfl) G.bi_isinstance (by decide +kernel) (pa_cons (pv 0) (pa_cons (pe_bltn (v := .ty "int") (by rfl) G.bi_int (by decide +kernel) rfl) pa_nil))) (pe_one (pe_cmpR op_eq (pv 0) (pv 1) (nomark _)))))))))), ?_⟩
    have scalar : (x = y ∧ (x = .non ∨ (∃ b, x = .bl b) ∨ ∃ i, x = .int i)) ∨ ∃ m a b xs ys, n = m + 1 ∧ x = .ref a ∧ y = .ref b ∧ SqT K H a xs ∧ SqT K H b ys ∧ xs.length = ys.length ∧ xs.length ≤ 100 ∧ ∀ (i : Nat) x y, xs[i]? = some x → ys[i]? = some y → SEq K H m x y := by
      cases n with
      | zero => exact .inl hs
      | succ m =>
        rcases hs with h | ⟨a, b, xs, ys, h⟩
        · exact .inl h
        · exact .inr ⟨m, a, b, xs, ys, rfl, h⟩
    rcases scalar with ⟨rfl, rfl | ⟨b, rfl⟩ | ⟨i, rfl⟩⟩ | ⟨m, a, b, xs, ys, en, rfl, rfl, hx, hy, hl, hz, hE⟩
    · refine run_if (b := false) (et_B (ev_isiLT (T := "NoneType") (b := false) (c := false) (by decide +kernel) (by decide +kernel) (ev_var rfl) ofTy_non)) ⟨fun z => (Bool.false_ne_true z).elim, fun _ => run_nx ?_⟩
      walk_at "tf if"
      walk_at "tf ret"
      exact q
    · refine run_if (b := false) (et_B (ev_isiLT (T := "bool") (b := false) (c := false) (by decide +kernel) (by decide +kernel) (ev_var rfl) (ofTy_bl b))) ⟨fun z => (Bool.false_ne_true z).elim, fun _ => run_nx ?_⟩
      walk_at "tf if"
      refine run_if (b := false) (et_test (ev_op (ev_isi (T := "bool") (b := true) (by decide +kernel) (ev_var rfl) (ofTy_bl b)) (ev_isi (T := "bool") (b := true) (by decide +kernel) (ev_var rfl) (ofTy_bl b)) rv_neB)) ⟨fun z => (Bool.false_ne_true z).elim, fun _ => run_nx ?_⟩
      refine run_if (b := false) (et_B (ev_isi (T := "bool") (b := false) (by decide +kernel) (ev_var rfl) (ofTy_bl b))) ⟨fun z => (Bool.false_ne_true z).elim, fun _ => run_nx ?_⟩
      refine run_ret (v := .bl (true && true)) (ev_and1 (ev_isi (T := "bool") (b := true) (by decide +kernel) (ev_var rfl) (ofTy_bl b)) fun _ => ev_op (ev_var rfl) (ev_var rfl) (rv_eqV rfl)) q
    · refine run_if (b := false) (et_B (ev_isiLT (T := "int") (b := false) (c := false) (by decide +kernel) (by decide +kernel) (ev_var rfl) (ofTy_int i))) ⟨fun z => (Bool.false_ne_true z).elim, fun _ => run_nx ?_⟩
      walk_at "tf if"
      refine run_if (b := false) (et_test (ev_op (ev_isi (T := "int") (b := false) (by decide +kernel) (ev_var rfl) (ofTy_int i)) (ev_isi (T := "int") (b := false) (by decide +kernel) (ev_var rfl) (ofTy_int i)) rv_neB)) ⟨fun z => (Bool.false_ne_true z).elim, fun _ => run_nx ?_⟩
      refine run_if (b := false) (et_B (ev_isi (T := "int") (b := false) (by decide +kernel) (ev_var rfl) (ofTy_int i))) ⟨fun z => (Bool.false_ne_true z).elim, fun _ => run_nx ?_⟩
      refine run_ret (v := .bl (true && true)) (ev_and1 (ev_isi (T := "int") (b := true) (by decide +kernel) (ev_var rfl) (ofTy_int i)) fun _ => ev_op (ev_var rfl) (ev_var rfl) (rv_eqV rfl)) q
    · have tx := ofTy_tup hx
      have ty := ofTy_tup hy
      refine run_if (b := true) (et_B (ev_isiLT (T := "tuple") (b := false) (c := true) (by decide +kernel) (by decide +kernel) (ev_var rfl) ty)) ⟨fun _ => ?_, fun z => (Bool.false_ne_true z.symm).elim⟩
      refine run_if (b := false) (et_orf (et_test (ev_op (ev_isi (T := "tuple") (b := false) (by decide +kernel) (ev_var rfl) ty) (ev_isi (T := "tuple") (b := false) (by decide +kernel) (ev_var rfl) tx) rv_neB))
        (et_test (ev_op (ev_isi (T := "tuple") (b := true) (by decide +kernel) (ev_var rfl) ty) (ev_isi (T := "tuple") (b := true) (by decide +kernel) (ev_var rfl) tx) rv_neB))) ⟨fun z => (Bool.false_ne_true z).elim, fun _ => run_nx ?_⟩
      refine run_if (b := false) (EvT.to (b := !decide ((xs.length : Int) = (ys.length : Int))) (by walk_at "tf et") (by rw [hl]; simp)) ⟨fun z => (Bool.false_ne_true z).elim, fun _ => run_nx ?_⟩
      refine run_retR (evr_all (K := K) (bs := List.replicate ((List.range ys.length).map fun i : Nat => V.int (i : Int)).length true) (evr_imp (evr_lcR (n := ys.length) (fun _ => true) (fun _ => .bl true) (by walk_at "tf ea") (by omega) (fun x => rfl) (fun i hi => et_yes) (fun i hi _ => ?_))
        fun v H1 e ⟨p, ev, _, h⟩ => ⟨p, ev, by rw [trues] at h; exact SqL.of h⟩)) (fun v H1 e r => by rw [r, all_trues]; exact q H1 e)
      have g1 : xs[i]? = some xs[i] := List.getElem?_eq_getElem (by omega)
      have g2 : ys[i]? = some ys[i] := List.getElem?_eq_getElem hi
      exact ev_call (ea_cons (ev_op (ev_var rfl) (ev_var rfl) (rv_ixT hx (atI_nat g1))) (ea_cons (ev_op (ev_var rfl) (ev_var rfl) (rv_ixT hy (atI_nat g2))) ea_nil)) (hR m en _ _ H (hE _ _ _ g1 g2))
theorem ok_law_same (G : Glob mg) (D : Has K mg "_law_same" s_law_same ["_law_actual", "_law_due"]) : Cal P w K mg base 3 "_law_same" (spSame K 2) :=
  law_same_step (k := 2) G (law_same_step (k := 1) (n := 1) G (law_same_step (k := 0) (n := 0) G D.never (fun m z => by omega) D) (fun m z x y H h => by
    have e : m = 0 := by omega
    subst e
    exact spv_same h) D) (fun m z x y H h => by
    have e : m = 1 := by omega
    subst e
    exact spv_same h) D
end
end
section

section
variable {P : Program} {w : World} {K : PySem.W.Frag} {mg : Str → Option Value} {base : Heap}
/-! ### boxes: the law's own reckoning -/
def BoxAt (K : PySem.W.Frag) (H : Hp) (a l : Addr) (b : Sh) : Prop := SqT K H a [oV b.low, oV b.high, .ref l, .int b.f] ∧ H l = some (.lst (b.holes.map V.int))
theorem BoxAt.mono {H H' : Hp} {a l : Addr} {b : Sh} (e : Same H H') (h : BoxAt K H a l b) : BoxAt K H' a l b := ⟨same_t e h.1, e _ _ h.2⟩
/-- a box or None; where its list may not stand -/
def BoxV (K : PySem.W.Frag) (H : Hp) (v : V) (N : Addr → Prop) : Option Sh → Prop
  | none => v = .non
  | some b => ∃ a l, v = .ref a ∧ BoxAt K H a l b ∧ N l
theorem BoxV.mono {H H' : Hp} {v : V} {N : Addr → Prop} {o : Option Sh} (e : Same H H') (h : BoxV K H v N o) : BoxV K H' v N o := by
  cases o with
  | none => exact h
  | some b =>
    obtain ⟨a, l, e1, h1, n⟩ := h
    exact ⟨a, l, e1, h1.mono e, n⟩
def BoxIs (m : Int → Prop) (f : Int) (o : Option Sh) : Prop := (o = none ∧ ∀ v, ¬ m v) ∨ ∃ b, o = some b ∧ b.f = f ∧ ∀ v, m v ↔ b.mem v
/-! ### _law_sifted -/
def spBoxSifted (K : PySem.W.Frag) : Sp := fun vs H Q _ => ∃ (a l : Addr) (s : Sh) (c : Cmp) (b : Int), vs = [.ref a, .str c.str, .int b] ∧ BoxAt K H a l s ∧ s.f.natAbs < 2 ^ 60 ∧ s.holes.length < 60 ∧
  ∀ (v : V) (o : Option Sh) H', Same H H' → BoxV K H' v (fun l' => l' = l ∨ H l' = none) o → BoxIs (fun v => s.mem v ∧ c.test (s.f * v) b = true) s.f o → Fit (s.holes.length + 1) o → Q v H'
local macro_rules | `(tactic| walk_at "tf sp") => `(tactic| exact spv_passes)
theorem test_neg (c : Cmp) (f v b : Int) : c.test (f * v) b = c.flip.test (-f * v) (-b) := by
  rw [Int.neg_mul, Cmp.flip_test]
-- _law_sifted: topS 29; slots _law_box=0 _law_comparison=1 _law_bound_here=2 _law_low=3 _law_high=4 _law_holes=5 _law_factor=6 _law_size=7 _law_top_here=8 _law_bottom=9 _law_at=10; cells []; callees ['_law_passes']
abbrev s_law_sifted : Stmt := topS 29
theorem sc_law_sifted : FnScope ["_law_box", "_law_comparison", "_law_bound_here", "_law_low", "_law_high", "_law_holes", "_law_factor", "_law_size", "_law_top_here", "_law_bottom", "_law_at"] ["_law_box", "_law_comparison", "_law_bound_here"] (defScope s_law_sifted) := ⟨rfl, rfl, rfl, by decide +kernel, rfl, by decide +kernel, by decide +kernel⟩
theorem ok_law_sifted (G : Glob mg) (C_law_passes : Cal P w K mg base 1 "_law_passes" spPasses) (D : Has K mg "_law_sifted" s_law_sifted ["_law_box", "_law_comparison", "_law_bound_here"]) : Cal P w K mg base 2 "_law_sifted" (spBoxSifted K) := by
  have sc := sc_law_sifted
  refine D.cal sc (fun vs H Q E h => ?_) (fun f cdv A outer s H vs Q E hr h => ?_)
  · obtain ⟨a, l, s, c, b, rfl, _⟩ := h
    rfl
  · obtain ⟨a, l, s, c, b, rfl, hB, hf, hz, q⟩ := h
    obtain ⟨h1, h2⟩ := id hB
    refine ⟨_, (pss_cons (ps_asg (pv 0) (pg_tup rfl (pgs_cons (pg_name (i := 3) sc.nd rfl (Or.inl rfl)) (pgs_cons (pg_name (i := 4) sc.nd rfl (Or.inl rfl)) (pgs_cons (pg_name (i := 5) sc.nd rfl (Or.inl rfl)) (pgs_cons (pg_name (i := 6) sc.nd rfl (Or.inl rfl)) pgs_nil))))))
    (pss_cons (ps_if (pt_cmpR op_eq (pv 6) pe_int (nomark _)) (pss_one (ps_ret (pe_ifExp (pt_val (pe_c C_law_passes hr (by omega) (by rfl) (pa_cons (pv 1) (pa_cons pe_int (pa_cons (pv 2) pa_nil))))) (pv 0) pe_non))) pss_nil)
    (Evl.pss_cut (ps_if (pt_cmpR op_lt (pv 6) pe_int (nomark _)) (pss_cons (ps_set (i := 1) sc.nd rfl (Or.inl rfl) (pe_dget (hu_of hr) (pe_disp (pps_cons pe_str pe_str (pps_cons pe_str pe_str (pps_cons pe_str pe_str (pps_cons pe_str pe_str (pps_cons pe_str pe_str (pps_cons pe_str pe_str pps_nil)))))) (by rfl) (by rfl) (fun z => by cases z) (by decide)) (pv 1) (fun _ _ => rfl)))
      (pss_one (ps_set (i := 2) sc.nd rfl (Or.inl rfl) (pe_un un_neg (pv 2))))) pss_nil)
    (pss_cons (ps_set (i := 7) sc.nd rfl (Or.inl rfl) (pe_callB call_abs (by rfl) G.bi_abs (by decide +kernel) (pa_cons (pv 6) pa_nil)))
    (pss_cons (ps_if (pt_cmpR op_in_seq (pv 1) (pe_tup (pa_cons pe_str (pa_cons pe_str pa_nil))) (by with_unfolding_all rfl)) (pss_cons (ps_set (i := 8) sc.nd rfl (Or.inl rfl) (pe_ifExp (pt_cmpR op_eq (pv 1) pe_str (nomark _)) (pe_op op_fdivW (pe_op op_sub (pv 2) pe_int) (pv 7)) (pe_op op_fdivW (pv 2) (pv 7))))
      (pss_one (ps_ret (pe_tup (pa_cons (pv 3) (pa_cons (pe_ifExp (pt_cmpR op_isN (pv 4) pe_non (nomark _)) (pv 8) (pe_callB (call_min2 rfl) (by rfl) G.bi_min (by decide +kernel) (pa_cons (pv 4) (pa_cons (pv 8) pa_nil)))) (pa_cons (pv 5) (pa_cons (pv 6) pa_nil)))))))) pss_nil)
    (pss_cons (ps_if (pt_cmpR op_in_seq (pv 1) (pe_tup (pa_cons pe_str (pa_cons pe_str pa_nil))) (by with_unfolding_all rfl)) (pss_cons (ps_set (i := 9) sc.nd rfl (Or.inl rfl) (pe_ifExp (pt_cmpR op_eq (pv 1) pe_str (nomark _)) (pe_op op_add (pe_op op_fdivW (pv 2) (pv 7)) pe_int) (pe_un un_neg (pe_op op_fdivW (pe_un un_neg (pv 2)) (pv 7)))))
      (pss_one (ps_ret (pe_tup (pa_cons (pe_ifExp (pt_cmpR op_isN (pv 3) pe_non (nomark _)) (pv 9) (pe_callB (call_max2 rfl) (by rfl) G.bi_max (by decide +kernel) (pa_cons (pv 3) (pa_cons (pv 9) pa_nil)))) (pa_cons (pv 4) (pa_cons (pv 5) (pa_cons (pv 6) pa_nil)))))))) pss_nil)
    (pss_cons (ps_if (pt_cmpR op_ne (pe_op op_mod (pv 2) (pv 7)) pe_int (nomark _)) (pss_one (ps_ret (pe_ifExp (pt_cmpR op_eq (pv 1) pe_str (nomark _)) (pv 0) pe_non))) pss_nil)
    (pss_cons (ps_set (i := 10) sc.nd rfl (Or.inl rfl) (pe_op op_fdivW (pv 2) (pv 7)))
    (pss_cons (ps_if (pt_cmpR op_eq (pv 1) pe_str (nomark _)) (pss_one (ps_ret (pe_tup (pa_cons (pv 3) (pa_cons (pv 4) (pa_cons (pe_op op_cat (pv 5) (pe_lst (pa_cons (pv 10) pa_nil))) (pa_cons (pv 6) pa_nil))))))) pss_nil)
    (pss_one (ps_ret (pe_tup (pa_cons (pe_ifExp (pt_cmpR op_isN (pv 3) pe_non (nomark _)) (pv 10) (pe_callB (call_max2 rfl) (by rfl) G.bi_max (by decide +kernel) (pa_cons (pv 3) (pa_cons (pv 10) pa_nil)))) (pa_cons (pe_ifExp (pt_cmpR op_isN (pv 4) pe_non (nomark _)) (pv 10) (pe_callB (call_min2 rfl) (by rfl) G.bi_min (by decide +kernel) (pa_cons (pv 4) (pa_cons (pv 10) pa_nil)))) (pa_cons (pv 5) (pa_cons (pv 6) pa_nil)))))))))))))))), ?_⟩
    refine run_tup4 (ev_var rfl) h1 ?_
    show Run _ _ [some (.ref a), some (.str c.str), some (.int b), some (oV s.low), some (oV s.high), some (.ref l), some (.int s.f), none, none, none, none] H
    refine run_if (b := decide (s.f = 0)) (by walk_at "tf et") ⟨fun hb => ?_, fun hb => run_nx ?_⟩
    · have hb := of_decide_eq_true hb
      have e1 : ∀ v, c.test (s.f * v) b = c.test 0 b := fun v => by rw [hb, Int.zero_mul]
      refine run_retR (evr_if (R := fun v H' => Q v H') (b := c.test 0 b) (by walk_at "tf et") (fun ht => ?_) (fun ht => ?_)) (fun v H1 e r => r)
      · refine evr_of (ev_var rfl) fun H1 e => q _ (some s) H1 e ⟨a, l, rfl, hB.mono e, .inl rfl⟩ (.inr ⟨s, rfl, rfl, fun v => ?_⟩) (fun s' z => by cases z; omega)
        show (s.mem v ∧ c.test (s.f * v) b = true) ↔ s.mem v
        rw [e1, ht]
        simp
      · refine evr_of ev_c fun H1 e => q _ none H1 e rfl (.inl ⟨rfl, fun v => ?_⟩) (fun s' z => nomatch z)
        show ¬ (s.mem v ∧ c.test (s.f * v) b = true)
        rw [e1, ht]
        simp
    have hb := of_decide_eq_false hb
    -- the sign
    refine run_cut (fun σ' => ∃ (c1 : Cmp) (b1 : Int), σ' = [some (.ref a), some (.str c1.str), some (.int b1), some (oV s.low), some (oV s.high), some (.ref l), some (.int s.f), none, none, none, none] ∧ ∀ v, c.test (s.f * v) b = c1.test ((if s.f < 0 then -s.f else s.f) * v) b1) ?_ ?_
    · refine run_if1 (b := decide (s.f < 0)) (by walk_at "tf et") ⟨fun hb2 => ?_, fun hb2 => ?_⟩
      · refine run_set (ev_flip6 (ev_var rfl)) ?_
        refine run_set1 (v := .int (-b)) (by walk_at "tf ev") fun H1 e => ⟨⟨c.flip, -b, rfl, fun v => ?_⟩, e⟩
        rw [if_pos (of_decide_eq_true hb2)]
        exact test_neg c s.f v b
      · refine fun H1 e => ⟨⟨c, b, rfl, fun v => ?_⟩, e⟩
        rw [if_neg (of_decide_eq_false hb2)]
    rintro σ' ⟨c1, b1, rfl, ht⟩
    walk_at "tf set"
    have hd : Dv (if s.f < 0 then -s.f else s.f) := by
      split
      · exact dv_of (by omega) (by omega)
      · exact dv_of (by omega) hf
    generalize (if s.f < 0 then -s.f else s.f) = g at ht hd
    show Run _ _ [some (.ref a), some (.str c1.str), some (.int b1), some (oV s.low), some (oV s.high), some (.ref l), some (.int s.f), some (.int g), none, none, none] H
    have fin : ∀ (low high : Option Int), (∀ v, Mem low high s.holes v ↔ (s.mem v ∧ c.test (s.f * v) b = true)) → ∀ p H1, Same H H1 → H1 p = some (.tup [oV low, oV high, .ref l, .int s.f]) → Q (.ref p) H1 :=
      fun low high hm p H1 e hp => q _ (some ⟨low, high, s.holes, s.f⟩) H1 e ⟨p, l, rfl, ⟨SqT.of hp, e _ _ h2⟩, .inl rfl⟩ (.inr ⟨_, rfl, rfl, fun v => (hm v).symm⟩) (fun s' z => by cases z; show s.holes.length ≤ s.holes.length + 1; omega)
    -- below
    refine run_if (b := decide (c1 = .lt) || decide (c1 = .le)) (et_test (ev_in2 .lt .le rfl rfl (ev_var rfl))) ⟨fun hb2 => ?_, fun hb2 => run_nx ?_⟩
    · refine run_setR (R := fun v _ => ∃ x, v = .int x ∧ ∀ v, c1.test (g * v) b1 = decide (v ≤ x)) (evr_if (b := decide (c1 = .lt)) (by walk_at "tf et") (fun z => ?_) (fun z => ?_)) ?_
      · cases of_decide_eq_true z
        exact evr_of (by walk_at "tf ev") fun H1 e => ⟨_, rfl, (turned_lt' hd.1).s _ rfl⟩
      · rw [z, Bool.false_or] at hb2
        cases of_decide_eq_true hb2
        exact evr_of (by walk_at "tf ev") fun H1 e => ⟨_, rfl, (turned_le hd.1).s _ rfl⟩
      rintro v H1 e1 ⟨x, rfl, hx⟩
      refine run_retR (R := fun v H' => Q v H') (evr_tup (ea_cons (ev_var rfl) (ea_cons (x := .int (minO s.high x)) ?_ (ea_cons (ev_var rfl) (ea_cons (ev_var rfl) ea_nil)))) (Nat.le_of_ble_eq_true rfl) fun p H2 e2 hp => ?_) (fun v H1 e r => r)
      · refine ev_if (b := s.high.isNone) ?_ (fun z => ?_) (fun z => ?_)
        · cases s.high <;> walk_at "tf et"
        · cases e : s.high with
          | none => exact ev_var rfl
          | some u => rw [e] at z; cases z
        · cases e : s.high with
          | none => rw [e] at z; cases z
          | some u => exact ev_cb (ea_cons (ev_var rfl) (ea_cons (ev_var rfl) ea_nil)) rc_min2
      · refine fin s.low (some (minO s.high x)) (fun v => ?_) p H2 (e1.trans e2) hp
        rw [mem_le, ht v, hx v, decide_eq_true_iff]
    have hb2 := Bool.or_eq_false_iff.mp hb2
    -- above
    refine run_if (b := decide (c1 = .gt) || decide (c1 = .ge)) (et_test (ev_in2 .gt .ge rfl rfl (ev_var rfl))) ⟨fun hb3 => ?_, fun hb3 => run_nx ?_⟩
    · refine run_setR (R := fun v _ => ∃ x, v = .int x ∧ ∀ v, c1.test (g * v) b1 = decide (x ≤ v)) (evr_if (b := decide (c1 = .gt)) (by walk_at "tf et") (fun z => ?_) (fun z => ?_)) ?_
      · cases of_decide_eq_true z
        exact evr_of (by walk_at "tf ev") fun H1 e => ⟨_, rfl, (turned_gt hd.1).s _ rfl⟩
      · rw [z, Bool.false_or] at hb3
        cases of_decide_eq_true hb3
        exact evr_of (by walk_at "tf ev") fun H1 e => ⟨_, rfl, (turned_ge hd.1).s _ rfl⟩
      rintro v H1 e1 ⟨x, rfl, hx⟩
      refine run_retR (R := fun v H' => Q v H') (evr_tup (ea_cons (x := .int (maxO s.low x)) ?_ (ea_cons (ev_var rfl) (ea_cons (ev_var rfl) (ea_cons (ev_var rfl) ea_nil)))) (Nat.le_of_ble_eq_true rfl) fun p H2 e2 hp => ?_) (fun v H1 e r => r)
      · refine ev_if (b := s.low.isNone) ?_ (fun z => ?_) (fun z => ?_)
        · cases s.low <;> walk_at "tf et"
        · cases e : s.low with
          | none => exact ev_var rfl
          | some u => rw [e] at z; cases z
        · cases e : s.low with
          | none => rw [e] at z; cases z
          | some u => exact ev_cb (ea_cons (ev_var rfl) (ea_cons (ev_var rfl) ea_nil)) rc_max2
      · refine fin (some (maxO s.low x)) s.high (fun v => ?_) p H2 (e1.trans e2) hp
        rw [mem_ge, ht v, hx v, decide_eq_true_iff]
    have hb3 := Bool.or_eq_false_iff.mp hb3
    have hc : c1 = .eq ∨ c1 = .ne := by
      cases c1 with
      | eq => exact .inl rfl
      | ne => exact .inr rfl
      | lt => cases hb2.1
      | le => cases hb2.2
      | gt => cases hb3.1
      | ge => cases hb3.2
    -- no multiple
    refine run_if (b := !decide (b1 % g = 0)) (by walk_at "tf et") ⟨fun hb4 => ?_, fun hb4 => run_nx ?_⟩
    · have hm : b1 % g ≠ 0 := by simpa using hb4
      refine run_retR (evr_if (R := fun v H' => Q v H') (b := decide (c1 = .ne)) (by walk_at "tf et") (fun z => ?_) (fun z => ?_)) (fun v H1 e r => r)
      · cases of_decide_eq_true z
        refine evr_of (ev_var rfl) fun H1 e => q _ (some s) H1 e ⟨a, l, rfl, hB.mono e, .inl rfl⟩ (.inr ⟨s, rfl, rfl, fun v => ?_⟩) (fun s' z => by cases z; omega)
        show (s.mem v ∧ c.test (s.f * v) b = true) ↔ s.mem v
        rw [ht v, (turned_ne0 hm).t rfl v]
        simp
      · have e1 : c1 = .eq := hc.resolve_right (of_decide_eq_false z)
        subst e1
        refine evr_of ev_c fun H1 e => q _ none H1 e rfl (.inl ⟨rfl, fun v => ?_⟩) (fun s' z => nomatch z)
        show ¬ (s.mem v ∧ c.test (s.f * v) b = true)
        rw [ht v, (turned_eq0 hm).t rfl v]
        simp
    have hm : b1 % g = 0 := by simpa using hb4
    refine run_set (v := .int (b1 / g)) (by walk_at "tf ev") ?_
    show Run _ _ [some (.ref a), some (.str c1.str), some (.int b1), some (oV s.low), some (oV s.high), some (.ref l), some (.int s.f), some (.int g), none, none, some (.int (b1 / g))] H
    refine run_if (b := decide (c1 = .ne)) (by walk_at "tf et") ⟨fun z => ?_, fun z => run_nx ?_⟩
    · cases of_decide_eq_true z
      have hx := (turned_ne hd.1 hm).s _ rfl
      refine run_retR (R := fun v H' => Q v H') (evr_tupR (RA := fun vs H2 => ∃ l', vs = [oV s.low, oV s.high, .ref l', .int s.f] ∧ H l' = none ∧ H2 l' = some (.lst ((s.holes ++ [b1 / g]).map V.int)))
        (ear_cons1 (ev_var rfl) (ear_cons1 (ev_var rfl) (ear_cons (R := fun v H2 => ∃ l', v = .ref l' ∧ H l' = none ∧ H2 l' = some (.lst ((s.holes ++ [b1 / g]).map V.int))) ?_ (fun x H2 e2 ⟨l', ex, n1, n2⟩ => ear_of (ea_cons (ev_var rfl) ea_nil) fun H3 e3 => ⟨l', by rw [ex], n1, e3 _ _ n2⟩))))
        (fun vs H2 ⟨l', ev, _⟩ => by rw [ev]; exact Nat.le_of_ble_eq_true rfl) fun vs p H2 H3 e2 e3 ⟨l', ev, n1, n2⟩ hp => ?_) (fun v H1 e r => r)
      · intro H1 e1 Q' q'
        refine ⟨.ref l, rfl, .int (b1 / g), rfl, Nat.le_of_ble_eq_true rfl, fun p hp => ⟨l, p, s.holes.map V.int, [.int (b1 / g)], rfl, rfl, same_new hp _ _ (e1 _ _ h2), upd_same, ?_, fun l' hl' => ?_⟩⟩
        · rw [List.length_map]
          exact sz1000 (by show s.holes.length + 1 ≤ 1000; omega)
        · refine q' _ _ ((same_new hp).trans (same_new hl')) ⟨l', rfl, Same.free (e1.trans (same_new hp)) hl', ?_⟩
          rw [upd_same, List.map_append]
          rfl
      · subst ev
        refine q _ (some ⟨s.low, s.high, s.holes ++ [b1 / g], s.f⟩) H3 (e2.trans e3) ⟨p, l', rfl, ⟨SqT.of hp, e3 _ _ n2⟩, .inr n1⟩ (.inr ⟨_, rfl, rfl, fun v => ?_⟩) (fun s' z => by cases z; show (s.holes ++ [b1 / g]).length ≤ _; rw [List.length_append]; exact Nat.le_refl _)
        show (s.mem v ∧ c.test (s.f * v) b = true) ↔ Mem s.low s.high (s.holes ++ [b1 / g]) v
        rw [mem_ne, ht v, hx v]
        simp [Cmp.test]
    · have e1 : c1 = .eq := hc.resolve_right (of_decide_eq_false z)
      subst e1
      have hx := (turned_eq hd.1 hm).s _ rfl
      refine run_retR (R := fun v H' => Q v H') (evr_tup (ea_cons (x := .int (maxO s.low (b1 / g))) ?_ (ea_cons (x := .int (minO s.high (b1 / g))) ?_ (ea_cons (ev_var rfl) (ea_cons (ev_var rfl) ea_nil)))) (Nat.le_of_ble_eq_true rfl) fun p H2 e2 hp => ?_) (fun v H1 e r => r)
      · refine ev_if (b := s.low.isNone) ?_ (fun z => ?_) (fun z => ?_)
        · cases s.low <;> walk_at "tf et"
        · cases e : s.low with
          | none => exact ev_var rfl
          | some u => rw [e] at z; cases z
        · cases e : s.low with
          | none => rw [e] at z; cases z
          | some u => exact ev_cb (ea_cons (ev_var rfl) (ea_cons (ev_var rfl) ea_nil)) rc_max2
      · refine ev_if (b := s.high.isNone) ?_ (fun z => ?_) (fun z => ?_)
        · cases s.high <;> walk_at "tf et"
        · cases e : s.high with
          | none => exact ev_var rfl
          | some u => rw [e] at z; cases z
        · cases e : s.high with
          | none => rw [e] at z; cases z
          | some u => exact ev_cb (ea_cons (ev_var rfl) (ea_cons (ev_var rfl) ea_nil)) rc_min2
      · refine fin (some (maxO s.low (b1 / g))) (some (minO s.high (b1 / g))) (fun v => ?_) p H2 e2 hp
        rw [mem_ge, mem_le, ht v, hx v]
        show ((s.mem v ∧ v ≤ b1 / g) ∧ b1 / g ≤ v) ↔ (s.mem v ∧ decide (v = b1 / g) = true)
        rw [decide_eq_true_iff]
        constructor
        · rintro ⟨⟨a, b⟩, c⟩
          exact ⟨a, by omega⟩
        · rintro ⟨a, b⟩
          exact ⟨⟨a, by omega⟩, by omega⟩
/-! ### _law_tidied -/
def spTidied (K : PySem.W.Frag) : Sp := fun vs H Q _ => ∃ (v : V) (o : Option Sh) (m : Int → Prop) (f : Int) (n : Nat), vs = [v] ∧ BoxV K H v (fun _ => True) o ∧ BoxIs m f o ∧ Fit n o ∧ n < 60 ∧
  ∀ (v' : V) (o' : Option Sh) H', Same H H' → ShV K H' v' o' → IsC m f o' → Fit n o' → Q v' H'
theorem spr_tidied {v : V} {o : Option Sh} {m : Int → Prop} {f : Int} {n : Nat} {H : Hp} (h : BoxV K H v (fun _ => True) o) (b : BoxIs m f o) (ft : Fit n o) (hn : n < 60) : SpR (spTidied K) [v] H (fun v' H' => ∃ o', ShV K H' v' o' ∧ IsC m f o' ∧ Fit n o') :=
  fun H1 e Q q => ⟨v, o, m, f, n, rfl, h.mono e, b, ft, hn, fun v' o' H' e' x y z => q v' H' e' ⟨o', x, y, z⟩⟩
-- _law_tidied: topS 30; slots _law_box=0 _law_low=1 _law_high=2 _law_holes=3 _law_factor=4 _law_k=5 _law_kept=6 _law_hole=7; cells []; callees []
abbrev s_law_tidied : Stmt := topS 30
theorem sc_law_tidied : FnScope ["_law_box", "_law_low", "_law_high", "_law_holes", "_law_factor", "_law_k", "_law_kept", "_law_hole"] ["_law_box"] (defScope s_law_tidied) := ⟨rfl, rfl, rfl, by decide +kernel, rfl, by decide +kernel, by decide +kernel⟩
theorem ok_law_tidied (G : Glob mg) (D : Has K mg "_law_tidied" s_law_tidied ["_law_box"]) : Cal P w K mg base 1 "_law_tidied" (spTidied K) := by
  have sc := sc_law_tidied
  refine D.cal sc (fun vs H Q E h => ?_) (fun f cdv A outer s H vs Q E hr h => ?_)
  · obtain ⟨v, o, m, f, n, rfl, _⟩ := h
    rfl
  · obtain ⟨v, o, m, f, n, rfl, hv, hb, ft, hn, q⟩ := h
    refine ⟨_, (pss_cons (ps_if (pt_cmpR op_isN (pv 0) pe_non (nomark _)) (pss_one (ps_ret pe_non)) pss_nil)
    (pss_cons (ps_asg (pv 0) (pg_tup rfl (pgs_cons (pg_name (i := 1) sc.nd rfl (Or.inl rfl)) (pgs_cons (pg_name (i := 2) sc.nd rfl (Or.inl rfl)) (pgs_cons (pg_name (i := 3) sc.nd rfl (Or.inl rfl)) (pgs_cons (pg_name (i := 4) sc.nd rfl (Or.inl rfl)) pgs_nil))))))
    (pss_cons (ps_for PassesOwn.never rfl (pi_range1 rfl G.bi_range (pa_cons (pe_callB call_len_seq (by rfl) G.bi_len (by decide +kernel) (pa_cons (pv 3) pa_nil)) pa_nil)) (pg_name (i := 5) sc.nd rfl (Or.inl rfl)) (Evl.pss_cut (ps_if (PW.pt (pw_and (pt_cmpR op_notN (pv 1) pe_non (nomark _)) (pw_and1 (pt_cmpR op_in_seq (pv 1) (pv 3) (by with_unfolding_all rfl))))) (pss_one (ps_set (i := 1) sc.nd rfl (Or.inl rfl) (pe_op op_add (pv 1) pe_int))) pss_nil)
      (pss_one (ps_if (PW.pt (pw_and (pt_cmpR op_notN (pv 2) pe_non (nomark _)) (pw_and1 (pt_cmpR op_in_seq (pv 2) (pv 3) (by with_unfolding_all rfl))))) (pss_one (ps_set (i := 2) sc.nd rfl (Or.inl rfl) (pe_op op_sub (pv 2) pe_int))) pss_nil))))
    (pss_cons (ps_if (PW.pt (pw_and (pt_cmpR op_notN (pv 1) pe_non (nomark _)) (pw_and (pt_cmpR op_notN (pv 2) pe_non (nomark _)) (pw_and1 (pt_cmpR op_gt (pv 1) (pv 2) (nomark _)))))) (pss_one (ps_ret pe_non)) pss_nil)
    (pss_cons (ps_set (i := 6) sc.nd rfl (Or.inl rfl) (pe_lst pa_nil))
    (pss_cons (ps_for PassesOwn.never rfl (pi_list (pe_callB cr_sorted (by rfl) G.bi_sorted (by decide +kernel) (pa_cons (pv 3) pa_nil))) (pg_name (i := 7) sc.nd rfl (Or.inl rfl)) (pss_one (ps_if (PW.pt (pw_and (pt_cmpR op_notIn_seq (pv 7) (pv 6) (by with_unfolding_all rfl)) (pw_and (PW.pt (pw_or (pt_cmpR op_isN (pv 1) pe_non (nomark _)) (pw_or1 (pt_cmpR op_lt (pv 1) (pv 7) (nomark _))))) (pw_and1 (PW.pt (pw_or (pt_cmpR op_isN (pv 2) pe_non (nomark _)) (pw_or1 (pt_cmpR op_lt (pv 7) (pv 2) (nomark _))))))))) (pss_one (ps_expr (pe_bm PySem.F.plainAttrs_list PySem.F.slot_list_append PySem.F.type_list_append mt_append (pv 6) (pa_cons (pv 7) pa_nil)))) pss_nil)))
    (pss_one (ps_ret (pe_tup (pa_cons pe_non (pa_cons (pv 1) (pa_cons (pv 2) (pa_cons (pe_callTy call_tuple_of (by rfl) G.bi_tuple (by decide +kernel) (pa_cons (pv 6) pa_nil)) (pa_cons (pv 4) (pa_cons pe_non pa_nil))))))))))))))), ?_⟩
    cases o with
    | none =>
      cases hv
      walk_at "tf if"
      walk_at "tf ret"
      refine fun H1 e => q .non none H1 e rfl ?_ (fun s z => nomatch z)
      rcases hb with ⟨_, h⟩ | ⟨b, z, _⟩
      · exact .inl ⟨rfl, h⟩
      · cases z
    | some s =>
      obtain ⟨a, l, rfl, ⟨h1, h2⟩, _⟩ := hv
      have hz : s.holes.length ≤ n := ft s rfl
      rcases hb with ⟨z, _⟩ | ⟨b, z, rfl, hm⟩
      · cases z
      cases z
      have hL : SqL K H l (s.holes.map V.int) := SqL.of h2
      walk_at "tf if"
      refine run_tup4 (ev_var rfl) h1 ?_
      show Run _ _ [some (.ref a), some (oV s.low), some (oV s.high), some (.ref l), some (.int s.f), none, none, none] H
      -- the bounds move
      refine run_forR1 (n := s.holes.length) (by
          have := rc_lenL (K := K) hL
          rw [List.length_map] at this
          exact ea_cons (ev_cb (ea_cons (ev_var rfl) ea_nil) this) ea_nil) (by omega)
        (fun i σ' => ∃ (low high : Option Int) (kk : Option V), σ' = [some (.ref a), some (oV low), some (oV high), some (.ref l), some (.int s.f), kk, none, none] ∧ UpO s.holes s.low low ∧ DownO s.holes s.high high ∧
          (∀ l' l0, low = some l' → s.low = some l0 → l' ∈ s.holes → l' = l0 + (i : Int)) ∧ (∀ u' u0, high = some u' → s.high = some u0 → u' ∈ s.holes → u' = u0 - (i : Int)))
        ⟨s.low, s.high, none, rfl, (by cases s.low with | none => rfl | some x => exact ⟨x, rfl, Up.refl _ _⟩), (by cases s.high with | none => rfl | some x => exact ⟨x, rfl, Down.refl _ _⟩),
          fun l' l0 e1 e2 _ => by rw [e1] at e2; cases e2; omega, fun l' l0 e1 e2 _ => by rw [e1] at e2; cases e2; omega⟩ ?_ ?_
      · rintro i σ' hi ⟨low, high, kk, rfl, hu, hd, hi1, hi2⟩
        refine run_cut (fun σ2 => ∃ low2 : Option Int, σ2 = [some (.ref a), some (oV low2), some (oV high), some (.ref l), some (.int s.f), some (.int (i : Int)), none, none] ∧ UpO s.holes s.low low2 ∧ (∀ l' l0, low2 = some l' → s.low = some l0 → l' ∈ s.holes → l' = l0 + ((i + 1 : Nat) : Int))) ?_ ?_
        · cases low with
          | none => exact run_if1 (b := false) (by walk_at "tf et") ⟨fun z => (Bool.false_ne_true z).elim, fun _ => fun H1 e => ⟨⟨none, rfl, hu, fun l' l0 z => nomatch z⟩, e⟩⟩
          | some x =>
            refine run_if1 (b := decide (x ∈ s.holes)) (by walk_at "tf et") ⟨fun hb => ?_, fun hb => ?_⟩
            · have hx := of_decide_eq_true hb
              refine run_set1 (v := .int (x + 1)) (by walk_at "tf ev") fun H1 e => ⟨⟨some (x + 1), rfl, ?_, fun l' l0 e1 e2 _ => ?_⟩, e⟩
              · cases el : s.low with
                | none =>
                  rw [el] at hu
                  cases hu
                | some l0 =>
                  rw [el] at hu
                  obtain ⟨l', e1, hu⟩ := hu
                  cases e1
                  exact ⟨_, rfl, hu.step hx⟩
              · cases e1
                have := hi1 x l0 rfl e2 hx
                omega
            · exact fun H1 e => ⟨⟨some x, rfl, hu, fun l' l0 e1 _ hm => by cases e1; exact absurd hm (of_decide_eq_false hb)⟩, e⟩
        · rintro σ2 ⟨low2, rfl, hu2, hi3⟩
          cases high with
          | none => exact run_if1 (b := false) (by walk_at "tf et") ⟨fun z => (Bool.false_ne_true z).elim, fun _ => fun H1 e => ⟨⟨low2, none, _, rfl, hu2, hd, hi3, fun l' l0 z => nomatch z⟩, e⟩⟩
          | some x =>
            refine run_if1 (b := decide (x ∈ s.holes)) (by walk_at "tf et") ⟨fun hb => ?_, fun hb => ?_⟩
            · have hx := of_decide_eq_true hb
              refine run_set1 (v := .int (x - 1)) (by walk_at "tf ev") fun H1 e => ⟨⟨low2, some (x - 1), _, rfl, hu2, ?_, hi3, fun l' l0 e1 e2 _ => ?_⟩, e⟩
              · cases el : s.high with
                | none =>
                  rw [el] at hd
                  cases hd
                | some l0 =>
                  rw [el] at hd
                  obtain ⟨l', e1, hd⟩ := hd
                  cases e1
                  exact ⟨_, rfl, hd.step hx⟩
              · cases e1
                have := hi2 x l0 rfl e2 hx
                omega
            · exact fun H1 e => ⟨⟨low2, some x, _, rfl, hu2, hd, hi3, fun l' l0 e1 _ hm => by cases e1; exact absurd hm (of_decide_eq_false hb)⟩, e⟩
      rintro σ' ⟨low, high, kk, rfl, hu, hd, hi1, hi2⟩
      have mm := mem_moved hu hd
      have nl : ∀ x, low = some x → x ∉ s.holes := fun x e hx => by
        subst e
        cases el : s.low with
        | none =>
          rw [el] at hu
          cases hu
        | some l0 =>
          rw [el] at hu
          obtain ⟨l', e1, hu⟩ := hu
          cases e1
          have h3 := hi1 x l0 rfl el hx
          have := up_len (k := s.holes.length + 1) (hu.step hx) (by omega)
          omega
      have nh : ∀ x, high = some x → x ∉ s.holes := fun x e hx => by
        subst e
        cases el : s.high with
        | none =>
          rw [el] at hd
          cases hd
        | some l0 =>
          rw [el] at hd
          obtain ⟨l', e1, hd⟩ := hd
          cases e1
          have h3 := hi2 x l0 rfl el hx
          have := down_len (k := s.holes.length + 1) (hd.step hx) (by omega)
          omega
      -- nothing shown
      refine run_if (b := match low, high with | some x, some y => decide (y < x) | _, _ => false) ?_ ⟨fun hb => ?_, fun hb => run_nx ?_⟩
      · cases low with
        | none => walk_at "tf et"
        | some x => cases high <;> walk_at "tf et"
      · cases low with
        | none => cases hb
        | some x =>
          cases high with
          | none => cases hb
          | some y =>
            walk_at "tf ret"
            exact fun H1 e => q .non none H1 e rfl (isC_congr (fun v => (hm v).trans (mm v)) (isC_none rfl rfl (of_decide_eq_true hb))) (fun s z => nomatch z)
      have ne : ∀ x y, low = some x → high = some y → x ≤ y := fun x y e1 e2 => by
        subst e1 e2
        have := of_decide_eq_false hb
        omega
      -- kept = []
      refine run_setR (R := fun v H1 => ∃ p, v = .ref p ∧ H p = none ∧ H1 p = some (.lst [])) (fun H1 e Q' q' => ⟨Nat.zero_le _, fun p hp => q' _ _ (same_new hp) ⟨p, rfl, Same.free e hp, upd_same⟩⟩) ?_
      rintro v H1 e1 ⟨kp, rfl, hkp, hk⟩
      show Run _ _ [some (.ref a), some (oV low), some (oV high), some (.ref l), some (.int s.f), kk, some (.ref kp), none] H1
      -- for hole in sorted(holes)
      intro H2 e2
      refine evr_sorted (K := K) (ns := s.holes) (evr_of (ev_var rfl) fun H1' e1' => ⟨l, rfl, same_l e1' (same_l e1 hL)⟩) (by omega) H2 e2 _ ?_
      rintro v H3 e3 ⟨sp, ns, rfl, hsp, pm, srt⟩
      have hk3 : H3 kp = some (.lst []) := e3 _ _ (e2 _ _ hk)
      have l3 := pm.length_eq
      have nsp : sp ≠ kp ∨ ns = [] := by
        by_cases z : sp = kp
        · subst z
          rw [hk3] at hsp
          injection hsp with hsp
          injection hsp with hsp
          cases ns with
          | nil => exact .inr rfl
          | cons x r => cases hsp
        · exact .inl z
      refine ⟨sp, rfl, ⟨_, SqL.of hsp⟩, for_list (K := K) (a := sp) (xs := ns.map V.int)
        (fun i σ2 H' => ∃ (kept : List Int) (hv : Option V), σ2 = [some (.ref a), some (oV low), some (oV high), some (.ref l), some (.int s.f), kk, some (.ref kp), hv] ∧ SameB kp H3 H' ∧ H' kp = some (.lst (kept.map V.int)) ∧ kept.Pairwise (· < ·) ∧ kept.length ≤ i ∧
          ∀ h, h ∈ kept ↔ (h ∈ ns.take i ∧ Within low high h))
        ⟨[], none, rfl, SameB.refl _ _, hk3, .nil, Nat.le_refl _, fun h => by simp⟩ ?_ ?_ ?_⟩
      · rintro i σ2 H' hi ⟨kept, hv, rfl, sb, hk', _, hl2, _⟩
        rcases nsp with z | z
        · exact SqL.of (sb _ _ z hsp)
        · subst z
          rw [List.length_map] at hi
          have hi0 : i = 0 := Nat.le_zero.mp hi
          subst hi0
          have : kept = [] := List.length_eq_zero_iff.mp (Nat.le_zero.mp hl2)
          subst this
          by_cases z : sp = kp
          · rw [z]
            exact SqL.of hk'
          · exact SqL.of (sb _ _ z hsp)
      · rintro i x σ2 H' hx ⟨kept, hv, rfl, sb, hk', asc, hl2, hm2⟩
        rw [List.getElem?_map] at hx
        cases gx : ns[i]? with
        | none => rw [gx] at hx; cases hx
        | some h =>
          rw [gx] at hx
          cases hx
          have etk : ns.take (i + 1) = ns.take i ++ [h] := by
            rw [List.take_add_one, gx]
            rfl
          have hi : i < ns.length := (List.getElem?_eq_some_iff.mp gx).1
          have hKL : SqL K H' kp (kept.map V.int) := SqL.of hk'
          refine Run.go (run_if1 (b := !decide (h ∈ kept) && (gtO low h && ltO high h)) ?_ ⟨fun hb => ?_, fun hb => ?_⟩)
          · show EvT _ [some (.ref a), some (oV low), some (oV high), some (.ref l), some (.int s.f), kk, some (.ref kp), some (.int h)] H' _
            refine et_and (by walk_at "tf et") ?_
            cases low with
            | none => cases high <;> exact et_and (by walk_at "tf et") (by walk_at "tf et")
            | some l => cases high <;> exact et_and (by walk_at "tf et") (by walk_at "tf et")
          · have hb := Bool.and_eq_true_iff.mp hb
            have hnk : h ∉ kept := by simpa using hb.1
            have hw : Within low high h := by
              have := hb.2
              unfold Within
              cases low <;> cases high <;> simp [gtO, ltO] at this ⊢ <;> omega
            refine run_app1 hk' (ev_var rfl) (ev_var rfl) (by rw [List.length_map]; omega) fun H4 e4 => ⟨kept ++ [h], _, rfl, (sb.trans (Same.b e4)).trans sameB_upd, ?_, ?_, ?_, fun y => ?_⟩
            · rw [upd_same, List.map_append]
              rfl
            · refine List.pairwise_append.mpr ⟨asc, List.pairwise_singleton _ _, fun y hy z hz => ?_⟩
              cases List.mem_singleton.mp hz
              have hy2 := ((hm2 y).mp hy).1
              have hs2 := srt
              rw [← List.take_append_drop (i + 1) ns, etk] at hs2
              have h4 := (List.pairwise_append.mp (List.pairwise_append.mp hs2).1).2.2 y hy2 h (List.mem_singleton_self _)
              have : y ≠ h := fun q => hnk (q ▸ hy)
              omega
            · rw [List.length_append]
              exact Nat.succ_le_succ hl2
            · rw [etk, List.mem_append, List.mem_append, List.mem_singleton, hm2 y]
              constructor
              · rintro (z | z)
                · exact ⟨.inl z.1, z.2⟩
                · subst z
                  exact ⟨.inr rfl, hw⟩
              · rintro ⟨z | z, z2⟩
                · exact .inl ⟨z, z2⟩
                · exact .inr z
          · refine fun H4 e4 => ⟨kept, _, rfl, sb.trans (Same.b e4), e4 _ _ hk', asc, Nat.le_succ_of_le hl2, fun y => ?_⟩
            rw [etk, List.mem_append, List.mem_singleton, hm2 y]
            constructor
            · rintro ⟨z, z2⟩
              exact ⟨.inl z, z2⟩
            · rintro ⟨z | z, z2⟩
              · exact ⟨z, z2⟩
              · subst z
                refine ((hm2 y).mp ?_)
                apply Decidable.byContradiction
                intro nk
                have : gtO low y = true ∧ ltO high y = true := by
                  unfold Within at z2
                  cases low <;> cases high <;> simp [gtO, ltO] at z2 ⊢ <;> omega
                rw [this.1, this.2, decide_eq_false nk] at hb
                cases hb
      · rintro σ2 H' ⟨kept, hv, rfl, sb, hk', asc, hl2, hm2⟩
        rw [List.length_map, List.take_length] at *
        have sHH' : Same H H' := fun x o hx => by
          have n1 : x ≠ kp := ne_of_none hx hkp
          exact sb _ _ n1 (e3 _ _ (e2 _ _ (e1 _ _ hx)))
        refine Run.go (run_retR (R := fun v H2 => Q v H2) (evr_tupR (RA := fun vs H2 => ∃ tt, vs = [.non, oV low, oV high, .ref tt, .int s.f, .non] ∧ H2 tt = some (.tup (kept.map V.int)))
          (ear_cons1 ev_c (ear_cons1 (ev_var rfl) (ear_cons1 (ev_var rfl) (ear_cons (evr_tupOf (xs := kept.map V.int) (evr_of (ev_var rfl) fun H2 e2 => ⟨kp, rfl, SqL.of (e2 _ _ hk')⟩)) fun x H2 e2 ⟨tt, ex, ht⟩ => ear_of (ea_cons (ev_var rfl) (ea_cons ev_c ea_nil)) fun H3 e3 => ⟨tt, by rw [ex], e3 _ _ ht⟩))))
          (fun vs H2 ⟨tt, ev, _⟩ => by rw [ev]; exact Nat.le_of_ble_eq_true rfl) fun vs p H2 H3 e2 e3 ⟨tt, ev, ht⟩ hp => ?_) (fun v H1 e r => r))
        subst ev
        refine q _ (some ⟨low, high, kept, s.f⟩) H3 (sHH'.trans (e2.trans e3)) ⟨p, rfl, tt, SqT.of hp, SqT.of (e3 _ _ ht)⟩ (isC_congr (fun v => (hm v).trans (mm v)) (isC_of asc (fun h => by rw [hm2 h, pm.mem_iff]) nl nh ne)) (fun s' z => ?_)
        cases z
        show kept.length ≤ n
        omega
end
end
section

section
variable {P : Program} {w : World} {K : PySem.W.Frag} {mg : Str → Option Value} {base : Heap}
/-! ### draws -/
def DrawAt (H : Hp) (d l : Addr) : Prop := ∃ (ns : List Int) (i : Nat) (x y : Int), H d = some (.lst [.ref l, .int (i : Int), .int x, .int y]) ∧ H l = some (.lst (ns.map V.int))
theorem DrawAt.mono {H H' : Hp} {d l : Addr} (e : Same H H') (h : DrawAt H d l) : DrawAt H' d l := by
  obtain ⟨ns, i, x, y, h1, h2⟩ := h
  exact ⟨ns, i, x, y, e _ _ h1, e _ _ h2⟩
theorem ints_ne {xs : List Int} {l : Addr} {r : List V} : xs.map V.int ≠ .ref l :: r := fun h => by
  cases xs with
  | nil => cases h
  | cons x t => cases h
theorem refs_ne {as : List Addr} {l : Addr} {i : Int} {r : List V} : as.map V.ref ≠ .ref l :: .int i :: r := fun h => by
  cases as with
  | nil => cases h
  | cons x t =>
    cases t with
    | nil => cases h
    | cons y t => cases h
-- _law_draw: topS 24; slots _law_script=0; cells []; callees []
abbrev s_law_draw : Stmt := topS 24
theorem sc_law_draw : FnScope ["_law_script"] ["_law_script"] (defScope s_law_draw) := ⟨rfl, rfl, rfl, by decide +kernel, rfl, by decide +kernel, by decide +kernel⟩
def spDraw (K : PySem.W.Frag) : Sp := fun vs H Q _ => ∃ (a : Addr) (ns : List Int), vs = [.ref a] ∧ SqL K H a (ns.map V.int) ∧ ∀ d l H', Same H H' → DrawAt H' d l → Q (.ref d) H'
theorem spr_draw {a : Addr} {ns : List Int} {H : Hp} (h : SqL K H a (ns.map V.int)) : SpR (spDraw K) [.ref a] H (fun v H' => ∃ d l, v = .ref d ∧ DrawAt H' d l) :=
  fun H1 e Q q => ⟨a, ns, rfl, same_l e h, fun d l H' e' h' => q _ _ e' ⟨d, l, rfl, h'⟩⟩
theorem ok_law_draw (G : Glob mg) (D : Has K mg "_law_draw" s_law_draw ["_law_script"]) : Cal P w K mg base 1 "_law_draw" (spDraw K) := by
  have sc := sc_law_draw
  refine D.cal sc (fun vs H Q E h => ?_) (fun f cdv A outer s H vs Q E hr h => ?_)
  · obtain ⟨a, ns, rfl, _⟩ := h
    rfl
  · obtain ⟨a, ns, rfl, hS, q⟩ := h
    refine ⟨_, (pss_one (ps_ret (pe_lst (pa_cons (pe_callTy call_list_of (by rfl) G.bi_list (by decide +kernel) (pa_cons (pv 0) pa_nil)) (pa_cons pe_int (pa_cons pe_int (pa_cons pe_int pa_nil))))))), ?_⟩
    refine run_retR (R := fun v H' => Q v H') (evr_lstR (RA := fun vs H1 => ∃ l, vs = [.ref l, .int 0, .int 0, .int 17] ∧ H1 l = some (.lst (ns.map V.int)))
      (ear_cons (evr_lstOfL (ev_var rfl) hS) fun x H1 e1 ⟨l, ex, hl⟩ => ear_of (ea_cons ev_c (ea_cons ev_c (ea_cons ev_c ea_nil))) fun H2 e2 => ⟨l, by rw [ex], e2 _ _ hl⟩)
      (fun vs H1 ⟨l, ev, _⟩ => by rw [ev]; exact Nat.le_of_ble_eq_true rfl) fun vs p H1 H2 e1 e2 ⟨l, ev, hl⟩ _ hp => ?_) (fun v H1 e r => r)
    subst ev
    exact q p l H2 (e1.trans e2) ⟨ns, 0, 0, 17, hp, e2 _ _ hl⟩
-- _law_next: topS 25; slots _law_draw_here=0 _law_many=1 _law_found=2 _law_cell=3; cells []; callees []
abbrev s_law_next : Stmt := topS 25
theorem sc_law_next : FnScope ["_law_draw_here", "_law_many", "_law_found", "_law_cell"] ["_law_draw_here", "_law_many"] (defScope s_law_next) := ⟨rfl, rfl, rfl, by decide +kernel, rfl, by decide +kernel, by decide +kernel⟩
def spNext : Sp := fun vs H Q _ => ∃ (d l : Addr) (m : Int), vs = [.ref d, .int m] ∧ DrawAt H d l ∧ 0 < m ∧ m < 1000 ∧ ∀ r H', SameB d H H' → DrawAt H' d l → 0 ≤ r → r < m → Q (.int r) H'
theorem ok_law_next (G : Glob mg) (D : Has K mg "_law_next" s_law_next ["_law_draw_here", "_law_many"]) : Cal P w K mg base 1 "_law_next" spNext := by
  have sc := sc_law_next
  refine D.cal sc (fun vs H Q E h => ?_) (fun f cdv A outer s H vs Q E hr h => ?_)
  · obtain ⟨d, l, m, rfl, _⟩ := h
    rfl
  · obtain ⟨d, l, m, rfl, ⟨ns, i, x, y, hd, hl⟩, m0, m1, q⟩ := h
    have hD : SqL K H d [.ref l, .int (i : Int), .int x, .int y] := SqL.of hd
    have hL : SqL K H l (ns.map V.int) := SqL.of hl
    have hm : Dv m := dv_of m0 (by omega)
    have nl : l ≠ d := ne_of hl hd (by intro z; injection z with z; exact ints_ne z)
    have fin : ∀ (z : Int) (i2 : Nat) (x2 y2 : Int) (H' : Hp), SameB d H H' → H' d = some (.lst [.ref l, .int (i2 : Int), .int x2, .int y2]) → Q (.int (z % m)) H' := fun z i2 x2 y2 H' e h =>
      q _ H' e ⟨ns, i2, x2, y2, h, e _ _ nl hl⟩ (Int.emod_nonneg _ (by omega)) (Int.emod_lt_of_pos _ m0)
    refine ⟨_, (pss_cons (ps_if (pt_cmpR op_gt (pe_ix ix_list (pv 0) pe_int (fun _ _ => rfl)) pe_int (nomark _)) (pss_cons (ps_set (i := 2) sc.nd rfl (Or.inl rfl) (pe_op op_mod (pe_callTy call_int1 (by rfl) G.bi_int (by decide +kernel) (pa_cons (pe_ix ix_list (pv 0) pe_int (fun _ _ => rfl)) pa_nil)) (pv 1)))
      (pss_cons (ps_asg (pe_op op_fdivW (pe_ix ix_list (pv 0) pe_int (fun _ _ => rfl)) (pv 1)) (pg_sub (pv 0) pe_int set_list))
      (pss_one (ps_ret (pv 2))))) pss_nil)
    (Evl.pss_cut (ps_if (pt_cmpR op_lt (pe_ix ix_list (pv 0) pe_int (fun _ _ => rfl)) (pe_callB call_len_seq (by rfl) G.bi_len (by decide +kernel) (pa_cons (pe_ix ix_list (pv 0) pe_int (fun _ _ => rfl)) pa_nil)) (nomark _)) (pss_cons (ps_set (i := 3) sc.nd rfl (Or.inl rfl) (pe_callB call_abs (by rfl) G.bi_abs (by decide +kernel) (pa_cons (pe_ix ix_list (pe_ix ix_list (pv 0) pe_int (fun _ _ => rfl)) (pe_ix ix_list (pv 0) pe_int (fun _ _ => rfl)) (fun _ _ => rfl)) pa_nil)))
      (pss_cons (ps_asg (pe_op op_add (pe_ix ix_list (pv 0) pe_int (fun _ _ => rfl)) pe_int) (pg_sub (pv 0) pe_int set_list))
      (pss_cons (ps_if (pt_cmpR op_ge (pv 3) (pe_op op_pow pe_int pe_int) (nomark _)) (pss_cons (ps_asg (pe_op op_fdivW (pv 3) (pv 1)) (pg_sub (pv 0) pe_int set_list))
        (pss_one (ps_ret (pe_op op_mod (pe_callTy call_int1 (by rfl) G.bi_int (by decide +kernel) (pa_cons (pv 3) pa_nil)) (pv 1))))) pss_nil)
      (pss_one (ps_asg (pe_op op_mod (pe_callTy call_int1 (by rfl) G.bi_int (by decide +kernel) (pa_cons (pe_op op_add (pe_op op_add (pe_op op_mul (pe_ix ix_list (pv 0) pe_int (fun _ _ => rfl)) pe_int) (pv 3)) pe_int) pa_nil)) pe_int) (pg_sub (pv 0) pe_int set_list)))))) (pss_one (ps_asg (pe_op op_mod (pe_callTy call_int1 (by rfl) G.bi_int (by decide +kernel) (pa_cons (pe_op op_add (pe_op op_mul (pe_ix ix_list (pv 0) pe_int (fun _ _ => rfl)) pe_int) pe_int) pa_nil)) pe_int) (pg_sub (pv 0) pe_int set_list))))
    (pss_one (ps_ret (pe_op op_mod (pe_op op_fdivW (pe_callTy call_int1 (by rfl) G.bi_int (by decide +kernel) (pa_cons (pe_op op_mod (pe_op op_mul (pe_ix ix_list (pv 0) pe_int (fun _ _ => rfl)) pe_int) pe_int) pa_nil)) pe_int) (pv 1)))))), ?_⟩
    refine run_if (b := decide (0 < x)) (by walk_at "tf et") ⟨fun hb => ?_, fun hb => run_nx ?_⟩
    · -- what is left of a great number
      refine run_set (v := .int (x % m)) (by walk_at "tf ev") ?_
      refine run_put (j := 2) hd (v := .int (x / m)) (by walk_at "tf ev") (ev_var rfl) ev_c (Nat.le_of_ble_eq_true rfl) fun H1 e1 => Run.go ?_
      refine run_ret (v := .int (x % m)) (ev_var rfl) fun H2 e2 => fin x i (x / m) y H2 (((Same.b e1).trans sameB_upd).trans (Same.b e2)) (e2 _ _ upd_same)
    refine fun H1 e1 => cut_intro (fun σ' H' => ∃ (i2 : Nat) (x2 y2 : Int) (s2 s3 : Option V), σ' = [some (.ref d), some (.int m), s2, s3] ∧ SameB d H H' ∧ H' d = some (.lst [.ref l, .int (i2 : Int), .int x2, .int y2])) ?_ ?_
    · refine run_if1 (b := decide ((i : Int) < ((ns.map V.int).length : Int))) (by walk_at "tf et") ⟨fun hb2 => ?_, fun hb2 => ?_⟩ H1 e1
      · -- the next cell
        have hi := of_decide_eq_true hb2
        rw [List.length_map] at hi
        have g : (ns.map V.int)[i]? = some (.int (ns[i]'(by omega))) := by
          rw [List.getElem?_map, List.getElem?_eq_getElem (by omega)]
          rfl
        generalize ns[i]'(by omega) = c at g
        refine run_set (v := .int (if c < 0 then -c else c)) (ev_cb (ea_cons (ev_op (by walk_at "tf ev") (by walk_at "tf ev") (rv_ixL hL (atI_nat g))) ea_nil) rc_abs) ?_
        generalize (if c < 0 then -c else c) = cell
        refine run_put (j := 1) hd (v := .int ((i : Int) + 1)) (by walk_at "tf ev") (ev_var rfl) ev_c (Nat.le_of_ble_eq_true rfl) fun H2 e2 => Run.go ?_
        have hd2 : upd H2 d (.lst [.ref l, .int ((i : Int) + 1), .int x, .int y]) d = some (.lst [.ref l, .int ((i : Int) + 1), .int x, .int y]) := upd_same
        have s2 : SameB d H (upd H2 d (.lst [.ref l, .int ((i : Int) + 1), .int x, .int y])) := (Same.b e2).trans sameB_upd
        show Run _ _ [some (.ref d), some (.int m), none, some (.int cell)] (upd H2 d (.lst [.ref l, .int ((i : Int) + 1), .int x, .int y]))
        generalize upd H2 d (.lst [.ref l, .int ((i : Int) + 1), .int x, .int y]) = H3 at hd2 s2
        have hD3 : SqL K H3 d [.ref l, .int ((i : Int) + 1), .int x, .int y] := SqL.of hd2
        have ei : (i : Int) + 1 = ((i + 1 : Nat) : Int) := by omega
        refine run_if (b := decide ((10 : Int) ^ (18 : Int).toNat ≤ cell)) (et_test (ev_op (ev_var rfl) (ev_op ev_c ev_c (rv_pow ⟨by decide, by decide, by decide⟩)) rv_I0)) ⟨fun hb3 => ?_, fun hb3 => run_nx ?_⟩
        · refine run_put (j := 2) hd2 (v := .int (cell / m)) (by walk_at "tf ev") (ev_var rfl) ev_c (Nat.le_of_ble_eq_true rfl) fun H4 e4 => Run.go ?_
          refine run_ret (v := .int (cell % m)) (by walk_at "tf ev") fun H5 e5 => fin cell (i + 1) (cell / m) y H5 (((s2.trans (Same.b e4)).trans sameB_upd).trans (Same.b e5)) ?_
          have := e5 _ _ (upd_same (H := H4) (a := d) (o := .lst (([.ref l, .int ((i : Int) + 1), .int x, .int y] : List V).set 2 (.int (cell / m)))))
          rw [this, ei]
          rfl
        · refine run_put1 (j := 3) hd2 (v := .int ((y * 48271 + cell + 11) % 2147483647)) ?_ (ev_var rfl) ev_c (Nat.le_of_ble_eq_true rfl) fun H4 e4 => ⟨i + 1, x, (y * 48271 + cell + 11) % 2147483647, _, _, rfl, (s2.trans (Same.b e4)).trans sameB_upd, ?_⟩
          · exact ev_op (ev_cb (ea_cons (ev_op (ev_op (ev_op (by walk_at "tf ev") ev_c (rv_mul (.inr ⟨by decide, by decide⟩))) (ev_var rfl) rv_I0) ev_c rv_I0) ea_nil) rc_int) ev_c (rv_mod (by decide))
          · rw [upd_same, ei]
            rfl
      · refine run_put1 (j := 3) hd (v := .int ((y * 48271 + 12345) % 2147483647)) ?_ (ev_var rfl) ev_c (Nat.le_of_ble_eq_true rfl) fun H4 e4 => ⟨i, x, (y * 48271 + 12345) % 2147483647, _, _, rfl, (Same.b e4).trans sameB_upd, upd_same⟩
        exact ev_op (ev_cb (ea_cons (ev_op (ev_op (by walk_at "tf ev") ev_c (rv_mul (.inr ⟨by decide, by decide⟩))) ev_c rv_I0) ea_nil) rc_int) ev_c (rv_mod (by decide))
    · rintro σ' H' ⟨i2, x2, y2, s2, s3, rfl, sb, h'⟩
      have hD' : SqL K H' d [.ref l, .int (i2 : Int), .int x2, .int y2] := SqL.of h'
      refine Run.go (run_ret (v := .int (y2 * 69621 % 2147483629 / 7 % m)) ?_ fun H2 e2 => fin _ i2 x2 y2 H2 (sb.trans (Same.b e2)) (e2 _ _ h'))
      exact ev_op (ev_op (ev_cb (ea_cons (ev_op (ev_op (by walk_at "tf ev") ev_c (rv_mul (.inr ⟨by decide, by decide⟩))) ev_c (rv_mod (by decide))) ea_nil) rc_int) ev_c (rv_div ⟨by decide, by decide⟩)) (ev_var rfl) (rv_modD hm)
/-- a draw, as a step -/
theorem evd_next {σ : L2.St} {H : Hp} {ta tb : TE} {d l : Addr} {m : Int} (ha : Ev ta σ H (.ref d)) (hb : ∀ H1, Same H H1 → Ev tb σ H1 (.int m)) (hD : DrawAt H d l) (h0 : 0 < m) (h1 : m < 1000) :
    EvD (tCall spNext [] E0 (tCons ta (tCons tb tNil))) σ H (fun v H' => ∃ r, v = .int r ∧ SameB d H H' ∧ DrawAt H' d l ∧ 0 ≤ r ∧ r < m) := fun Q q =>
  ha H (Same.refl H) _ fun H1 e1 => hb H1 e1 H1 (Same.refl H1) _ fun H2 e2 => ⟨d, l, m, rfl, (hD.mono e1).mono e2, h0, h1, fun r H' a b c e => q _ _ ⟨r, rfl, (Same.b (e1.trans e2)).trans a, b, c, e⟩⟩
def spBound : Sp := fun vs H Q _ => ∃ d l : Addr, vs = [.ref d] ∧ DrawAt H d l ∧ ∀ r H', SameB d H H' → DrawAt H' d l → Q (.int r) H'
theorem at8 {bs : List Int} {r : Int} (hl : bs.length = 8) (h0 : 0 ≤ r) (h1 : r < 8) : ∃ b, atI (bs.map V.int) r = some (.int b) ∧ b ∈ bs := by
  obtain ⟨j, rfl⟩ : ∃ j : Nat, r = (j : Int) := ⟨r.toNat, by omega⟩
  have hj : j < bs.length := by omega
  refine ⟨bs[j], atI_nat ?_, List.getElem_mem hj⟩
  rw [List.getElem?_map, List.getElem?_eq_getElem hj]
  rfl
-- _law_bound: topS 31; slots _law_draw_here=0 _law_bases=1 _law_bound_here=2; cells []; callees ['_law_next']
abbrev s_law_bound : Stmt := topS 31
theorem sc_law_bound : FnScope ["_law_draw_here", "_law_bases", "_law_bound_here"] ["_law_draw_here"] (defScope s_law_bound) := ⟨rfl, rfl, rfl, by decide +kernel, rfl, by decide +kernel, by decide +kernel⟩
theorem ok_law_bound (G : Glob mg) (C_law_next : Cal P w K mg base 1 "_law_next" spNext) (D : Has K mg "_law_bound" s_law_bound ["_law_draw_here"]) : Cal P w K mg base 2 "_law_bound" spBound := by
  have sc := sc_law_bound
  refine D.cal sc (fun vs H Q E h => ?_) (fun f cdv A outer s H vs Q E hr h => ?_)
  · obtain ⟨d, l, rfl, _⟩ := h
    rfl
  · obtain ⟨d, l, rfl, hD, q⟩ := h
    refine ⟨_, (pss_cons (ps_set (i := 1) sc.nd rfl (Or.inl rfl) (pe_lst (pa_cons pe_int (pa_cons pe_int (pa_cons pe_int (pa_cons pe_int (pa_cons pe_int (pa_cons pe_int (pa_cons pe_int (pa_cons pe_int pa_nil))))))))))
    (pss_cons (ps_set (i := 2) sc.nd rfl (Or.inl rfl) (pe_op op_sub (pe_op op_add (pe_ix ix_list (pv 1) (pe_c C_law_next hr (by omega) (by rfl) (pa_cons (pv 0) (pa_cons pe_int pa_nil))) (fun _ _ => rfl)) (pe_c C_law_next hr (by omega) (by rfl) (pa_cons (pv 0) (pa_cons pe_int pa_nil)))) pe_int))
    (pss_cons (ps_set (i := 2) sc.nd rfl (Or.inl rfl) (pe_ifExp (pt_cmpR op_eq (pe_c C_law_next hr (by omega) (by rfl) (pa_cons (pv 0) (pa_cons pe_int pa_nil))) pe_int (nomark _)) (pe_un un_neg (pv 2)) (pv 2)))
    (pss_one (ps_ret (pe_callB (call_max2 rfl) (by rfl) G.bi_max (by decide +kernel) (pa_cons (pe_un un_neg pe_int) (pa_cons (pe_callB (call_min2 rfl) (by rfl) G.bi_min (by decide +kernel) (pa_cons pe_int (pa_cons (pv 2) pa_nil))) pa_nil)))))))), ?_⟩
    refine run_setR (evr_lst (R := fun v H1 => ∃ bp, v = .ref bp ∧ H1 bp = some (.lst (([1000000, 999999990, 1000000000, 123456789, 7654321, 5000, 130, 0] : List Int).map V.int))) (by walk_at "tf ea") (Nat.le_of_ble_eq_true rfl) fun p H1 e hp => ⟨p, rfl, hp⟩) ?_
    rintro v H1 e1 ⟨bp, rfl, hbp⟩
    show Run _ _ [some (.ref d), some (.ref bp), none] H1
    intro H2 e2
    have hD2 := hD.mono (e1.trans e2)
    have hb2 := e2 _ _ hbp
    have sb0 : SameB d H H2 := Same.b (e1.trans e2)
    refine evd_set (R := fun v H' => ∃ b, v = .int b ∧ SameB d H2 H' ∧ DrawAt H' d l) (evd_op (Ra := fun v H' => ∃ b, v = .int b ∧ SameB d H2 H' ∧ DrawAt H' d l) (evd_op (Ra := fun v H' => ∃ b, v = .int b ∧ SameB d H2 H' ∧ DrawAt H' d l)
      (evd_op (Ra := fun v H' => v = .ref bp ∧ Same H2 H') (evd_of (ev_var rfl) fun H3 e3 => ⟨rfl, e3⟩) ?_) ?_) ?_) ?_
    · rintro x H3 ⟨rfl, e3⟩
      refine evd_imp (evd_next (ev_var rfl) (fun _ _ => ev_c) (hD2.mono e3) (by decide) (by decide)) ?_
      rintro v H4 ⟨r, rfl, sb, hD4, r0, r8⟩ Q' q'
      obtain ⟨b, hb, _⟩ := at8 (bs := [1000000, 999999990, 1000000000, 123456789, 7654321, 5000, 130, 0]) rfl r0 r8
      have hl4 : H4 bp = some (.lst (([1000000, 999999990, 1000000000, 123456789, 7654321, 5000, 130, 0] : List Int).map V.int)) := by
        obtain ⟨ns, i, x, y, g, _⟩ := hD2.mono e3
        exact sb.l g ints_ne (e3 _ _ hb2)
      exact ⟨bp, _, r, .int b, rfl, rfl, SqL.of hl4, hb, q' _ _ ⟨b, rfl, (Same.b e3).trans sb, hD4⟩⟩
    · rintro x H3 ⟨b, rfl, sb, hD3⟩
      refine evd_imp (evd_next (ev_var rfl) (fun _ _ => ev_c) hD3 (by decide) (by decide)) ?_
      rintro v H4 ⟨r, rfl, sb', hD4, _, _⟩ Q' q'
      exact ⟨b, r, rfl, rfl, q' _ _ ⟨b + r, rfl, sb.trans sb', hD4⟩⟩
    · rintro x H3 ⟨b, rfl, sb, hD3⟩
      refine evd_of ev_c fun H4 e4 Q' q' => ?_
      exact ⟨b, 3, rfl, rfl, q' _ _ ⟨b - 3, rfl, sb.trans (Same.b e4), hD3.mono e4⟩⟩
    rintro v H3 ⟨b, rfl, sb, hD3⟩
    show tSeq _ _ _ [some (.ref d), some (.ref bp), some (.int b)] H3
    refine evd_set (R := fun v H' => ∃ b, v = .int b ∧ SameB d H3 H' ∧ DrawAt H' d l) (evd_if (RT := fun _ H' => SameB d H3 H' ∧ DrawAt H' d l) (evtd_test (evd_op (Ra := fun v H' => ∃ r, v = .int r ∧ SameB d H3 H' ∧ DrawAt H' d l)
      (evd_imp (evd_next (ev_var rfl) (fun _ _ => ev_c) hD3 (by decide) (by decide)) fun v H' ⟨r, a, b, c, _⟩ => ⟨r, a, b, c⟩) ?_)) ?_ ?_) ?_
    · rintro x H4 ⟨r, rfl, sb4, hD4⟩
      exact evd_of ev_c fun H5 e5 Q' q' => rv_eqI (H := H5) H5 (Same.refl H5) Q' (q' _ _ ⟨_, rfl, sb4.trans (Same.b e5), hD4.mono e5⟩)
    · rintro H4 ⟨sb4, hD4⟩
      exact evd_of (ev_un (ev_var rfl) ru_neg) fun H5 e5 => ⟨-b, rfl, sb4.trans (Same.b e5), hD4.mono e5⟩
    · rintro H4 ⟨sb4, hD4⟩
      exact evd_of (ev_var rfl) fun H5 e5 => ⟨b, rfl, sb4.trans (Same.b e5), hD4.mono e5⟩
    rintro v H4 ⟨b', rfl, sb4, hD4⟩
    show tRet _ _ [some (.ref d), some (.ref bp), some (.int b')] H4
    refine Run.go (run_ret (v := .int (max (-1000000000) (min 1000000000 b'))) (by walk_at "tf ev") fun H5 e5 => q _ H5 (((sb0.trans sb).trans sb4).trans (Same.b e5)) (hD4.mono e5))
theorem evd_bound {σ : L2.St} {H : Hp} {ta : TE} {d l : Addr} (ha : Ev ta σ H (.ref d)) (hD : DrawAt H d l) : EvD (tCall spBound [] E0 (tCons ta tNil)) σ H (fun v H' => ∃ r, v = .int r ∧ SameB d H H' ∧ DrawAt H' d l) := fun Q q =>
  ha H (Same.refl H) _ fun H1 e1 => ⟨d, l, rfl, hD.mono e1, fun r H' a b => q _ _ ⟨r, rfl, (Same.b e1).trans a, b⟩⟩
end
end
section

section
variable {P : Program} {w : World} {K : PySem.W.Frag} {mg : Str → Option Value} {base : Heap}
/-! ### _law_great: what the loop keeps -/
structure Great (K : PySem.W.Frag) (sp : Addr) (refs : List Addr) (ss : List Stg) (bv : V) (o : Option Sh) (H : Hp) : Prop where
  lst : H sp = some (.lst (refs.map V.ref))
  len : refs.length = ss.length
  stg : ∀ (j : Nat) a s, refs[j]? = some a → ss[j]? = some s → StgAt K H a s
  box : BoxV K H bv (fun l => l ≠ sp) o
theorem stg_b {H H' : Hp} {d a : Addr} {ys : List V} {s : Stg} (e : SameB d H H') (hd : H d = some (.lst ys)) (h : StgAt K H a s) : StgAt K H' a s := by
  cases s with
  | scale k => exact e.t hd h
  | sift c b => exact e.t hd h
theorem Great.draw {sp d l : Addr} {refs : List Addr} {ss : List Stg} {bv : V} {o : Option Sh} {H H' : Hp} (g : Great K sp refs ss bv o H) (e : SameB d H H') (hD : DrawAt H d l) : Great K sp refs ss bv o H' := by
  obtain ⟨ns, i, x, y, hd, _⟩ := hD
  refine ⟨e.l hd refs_ne g.lst, g.len, fun j a s h1 h2 => stg_b e hd (g.stg j a s h1 h2), ?_⟩
  have := g.box
  cases o with
  | none => exact this
  | some b =>
    obtain ⟨a, l', ev, ⟨h1, h2⟩, n⟩ := this
    exact ⟨a, l', ev, ⟨e.t hd h1, e.l hd ints_ne h2⟩, n⟩
theorem Great.same {sp : Addr} {refs : List Addr} {ss : List Stg} {bv : V} {o : Option Sh} {H H' : Hp} (g : Great K sp refs ss bv o H) (e : Same H H') : Great K sp refs ss bv o H' :=
  ⟨e _ _ g.lst, g.len, fun j a s h1 h2 => (g.stg j a s h1 h2).mono e, g.box.mono e⟩
/-- a stage more -/
theorem Great.app {sp a : Addr} {refs : List Addr} {ss : List Stg} {s : Stg} {bv : V} {o : Option Sh} {H : Hp} (g : Great K sp refs ss bv o H) (h : StgAt K H a s) : Great K sp (refs ++ [a]) (ss ++ [s]) bv o (upd H sp (.lst ((refs ++ [a]).map V.ref))) := by
  have e : SameB sp H (upd H sp (.lst ((refs ++ [a]).map V.ref))) := sameB_upd
  refine ⟨upd_same, by rw [List.length_append, List.length_append, g.len]; rfl, fun j a' s' h1 h2 => stg_b e g.lst ?_, ?_⟩
  · by_cases hj : j < refs.length
    · rw [List.getElem?_append_left hj] at h1
      rw [List.getElem?_append_left (by rw [← g.len]; exact hj)] at h2
      exact g.stg j a' s' h1 h2
    · rw [List.getElem?_append_right (by omega)] at h1
      rw [List.getElem?_append_right (by rw [← g.len]; omega), ← g.len] at h2
      cases hk : j - refs.length with
      | zero =>
        rw [hk] at h1 h2
        cases h1
        cases h2
        exact h
      | succ k =>
        rw [hk] at h1
        simp at h1
  · have := g.box
    cases o with
    | none => exact this
    | some b =>
      obtain ⟨a', l', ev, ⟨h1, h2⟩, n⟩ := this
      exact ⟨a', l', ev, ⟨e.t g.lst h1, e _ _ n h2⟩, n⟩
theorem draw_app {sp d l : Addr} {refs refs' : List Addr} {H : Hp} (h : DrawAt H d l) (n : l ≠ sp) (g : H sp = some (.lst (refs.map V.ref))) : DrawAt (upd H sp (.lst (refs'.map V.ref))) d l := by
  obtain ⟨ns, i, x, y, hd, hl⟩ := h
  have e : SameB sp H (upd H sp (.lst (refs'.map V.ref))) := sameB_upd
  exact ⟨ns, i, x, y, e.l g (fun q => refs_ne q.symm) hd, e _ _ n hl⟩
/-! ### pieces of the stages -/
section
variable {σ : L2.St} {H : Hp} {d l : Addr} {R : V → Hp → Prop}
/-- one of eight written values, by a draw -/
theorem evd_pick {ta : TA} {td tm : TE} {vs : List V} (ea : EvA ta σ H vs) (h8 : vs.length = 8) (hne : ∀ a r, vs ≠ .ref a :: r) (hd : ∀ H1, Same H H1 → Ev td σ H1 (.ref d)) (hm : ∀ H1, Same H H1 → Ev tm σ H1 (.int 8)) (hD : DrawAt H d l) :
    EvD (tOp (rIxL K) (tLst ta) (tCall spNext [] E0 (tCons td (tCons tm tNil)))) σ H (fun v H' => v ∈ vs ∧ SameB d H H' ∧ DrawAt H' d l) := fun Q q =>
  ea H (Same.refl H) _ fun H1 e1 => ⟨sz1000 (by omega), fun p hp => evd_next (d := d) (l := l) (hd _ (e1.trans (same_new hp))) (fun H2 e2 => hm H2 ((e1.trans (same_new hp)).trans e2)) (hD.mono (e1.trans (same_new hp))) (by decide) (by decide) _ (by
    rintro v H' ⟨r, rfl, sb, hD', r0, r8⟩
    obtain ⟨j, rfl⟩ : ∃ j : Nat, r = (j : Int) := ⟨r.toNat, by omega⟩
    have hj : j < vs.length := by omega
    have hp' : H' p = some (.lst vs) := by
      obtain ⟨ns, i, x, y, g, _⟩ := hD.mono (e1.trans (same_new hp))
      exact sb.l g (hne _ _) upd_same
    exact ⟨p, vs, (j : Int), vs[j], rfl, rfl, SqL.of hp', atI_nat (List.getElem?_eq_getElem hj), q _ _ ⟨List.getElem_mem hj, (Same.b (e1.trans (same_new hp))).trans sb, hD'⟩⟩)⟩
theorem evd_tup2 {s : V} {tx : TE} (h : EvD tx σ H R) : EvD (tTup (tCons (tC s) (tCons tx tNil))) σ H (fun v H' => ∃ p y H0, v = .ref p ∧ R y H0 ∧ Same H0 H' ∧ H' p = some (.tup [s, y])) := fun Q q =>
  h _ fun y H0 r => ⟨sz1000 (Nat.le_of_ble_eq_true rfl), fun p hp => q _ _ ⟨p, y, H0, rfl, r, same_new hp, upd_same⟩⟩
theorem evd_tup3 {s b : V} {i : Nat} {tx : TE} (h : EvD tx σ H R) (hb : σ[i]? = some (some b)) : EvD (tTup (tCons (tC s) (tCons tx (tCons (tVar i) tNil)))) σ H (fun v H' => ∃ p y H0, v = .ref p ∧ R y H0 ∧ Same H0 H' ∧ H' p = some (.tup [s, y, b])) := fun Q q =>
  h _ fun y H0 r => ⟨b, hb, sz1000 (Nat.le_of_ble_eq_true rfl), fun p hp => q _ _ ⟨p, y, H0, rfl, r, same_new hp, upd_same⟩⟩
theorem evd_clamp {tx : TE} {n1 n2 : Int} {R : Hp → Prop} (h : EvD tx σ H (fun v H' => ∃ z : Int, v = .int z ∧ R H')) :
    EvD (tCB (fun xs H Q => ∃ i j, xs = [.int i, .int j] ∧ Q (.int (if j > i then j else i)) H) (tCons (tUn (rU fun i => .int (-i)) (tC (.int n1))) (tCons (tCB (fun xs H Q => ∃ i j, xs = [.int i, .int j] ∧ Q (.int (if j < i then j else i)) H) (tCons (tC (.int n2)) (tCons tx tNil))) tNil))) σ H (fun v H' => ∃ z : Int, v = .int z ∧ R H') := fun Q q =>
  ⟨n1, rfl, h _ fun v H' ⟨z, ev, r⟩ => ⟨n2, z, by rw [ev], ⟨_, _, rfl, q _ _ ⟨_, rfl, r⟩⟩⟩⟩
/-- for k in range(a draw) -/
theorem evd_forR1 {te : TE} {tu tr : TS} {D : Ends} {j : Nat} {m : Int} {R : Hp → Prop} (h : EvD te σ H (fun v H' => ∃ r, v = .int r ∧ 0 ≤ r ∧ r < m ∧ R H')) (hm : m ≤ 1000) (Pv : Nat → L2.St → Hp → Prop) (h0 : ∀ H', R H' → Pv 0 σ H')
    (hs : ∀ (i : Nat) σ' H', (i : Int) + 1 < m → Pv i σ' H' → tu { D with nx := Pv (i + 1), ct := Pv (i + 1), bk := tr D } (σ'.set j (some (.int (i : Int)))) H') (hd : ∀ (n : Nat) σ' H', (n : Int) < m → Pv n σ' H' → tr D σ' H') :
    tSeq (tFor (iRng1 (tCons te tNil)) (gName j) tu) tr D σ H := h _ fun v H1 ⟨r, ev, r0, rm, rr⟩ => ⟨r, by rw [ev], by omega, by omega, for_range (lo := 0) (n := r.toNat) Pv (h0 H1 rr) (fun i σ' H' hi p => by
    have e0 : (0 : Int) + (i : Int) = (i : Int) := Int.zero_add _
    show tu { D with nx := _, ct := _, bk := _ } (σ'.set j (some (.int ((0 : Int) + (i : Int))))) H'
    rw [e0]
    exact hs i σ' H' (by omega) p) (fun σ' H' p => hd r.toNat σ' H' (by omega) p)⟩
end
theorem spr_boxSifted {a l : Addr} {s : Sh} {c : Cmp} {b : Int} {H : Hp} (h : BoxAt K H a l s) (hf : s.f.natAbs < 2 ^ 60) (hz : s.holes.length < 60) {N : Addr → Prop} (hN : N l) (hn : ∀ l', H l' = none → N l') :
    SpR (spBoxSifted K) [.ref a, .str c.str, .int b] H (fun v H' => ∃ o, BoxV K H' v N o ∧ BoxIs (fun v => s.mem v ∧ c.test (s.f * v) b = true) s.f o ∧ Fit (s.holes.length + 1) o) :=
  fun H1 e Q q => ⟨a, l, s, c, b, rfl, h.mono e, hf, hz, fun v o H' e' x y z => q v H' e' ⟨o, by
    cases o with
    | none => exact x
    | some b' =>
      obtain ⟨a', l', e1, e2, e3⟩ := x
      refine ⟨a', l', e1, e2, ?_⟩
      rcases e3 with e3 | e3
      · rw [e3]
        exact hN
      · exact hn l' (Same.free e e3), y, z⟩⟩
def spGreat (K : PySem.W.Frag) : Sp := fun vs H Q _ => ∃ d l : Addr, vs = [.ref d, .int 5] ∧ DrawAt H d l ∧
  ∀ (p sp : Addr) (refs : List Addr) (ss : List Stg) (v : V) (o : Option Sh) H', H' p = some (.tup [.ref sp, v]) → H' sp = some (.lst (refs.map V.ref)) → refs.length = ss.length → (∀ (j : Nat) a s, refs[j]? = some a → ss[j]? = some s → StgAt K H' a s) → ss.length ≤ 5 → (∀ s ∈ ss, s.ok) →
    ShV K H' v o → IsC (sem ss).1 (sem ss).2 o → Fit 5 o → Q (.ref p) H'
-- _law_great: topS 32; slots _law_draw_here=0 _law_most=1 _law_stages=2 _law_box=3 _law_base=4 _law_k=5 _law_stage=6 _law_bound_here=7; cells []; callees ['_law_bound', '_law_next', '_law_sifted', '_law_tidied']
abbrev s_law_great : Stmt := topS 32
theorem sc_law_great : FnScope ["_law_draw_here", "_law_most", "_law_stages", "_law_box", "_law_base", "_law_k", "_law_stage", "_law_bound_here"] ["_law_draw_here", "_law_most"] (defScope s_law_great) := ⟨rfl, rfl, rfl, by decide +kernel, rfl, by decide +kernel, by decide +kernel⟩
theorem ok_law_great (G : Glob mg) (C_law_bound : Cal P w K mg base 2 "_law_bound" spBound) (C_law_next : Cal P w K mg base 1 "_law_next" spNext) (C_law_sifted : Cal P w K mg base 2 "_law_sifted" (spBoxSifted K)) (C_law_tidied : Cal P w K mg base 1 "_law_tidied" (spTidied K))
    (D : Has K mg "_law_great" s_law_great ["_law_draw_here", "_law_most"]) : Cal P w K mg base 3 "_law_great" (spGreat K) := by
  have sc := sc_law_great
  refine D.cal sc (fun vs H Q E h => ?_) (fun f cdv A outer s H vs Q E hr h => ?_)
  · obtain ⟨d, l, rfl, _⟩ := h
    rfl
  · obtain ⟨d, l, rfl, hD, q⟩ := h
    refine ⟨_, (pss_cons (ps_set (i := 2) sc.nd rfl (Or.inl rfl) (pe_lst pa_nil))
    (pss_cons (ps_set (i := 3) sc.nd rfl (Or.inl rfl) (pe_tup (pa_cons pe_non (pa_cons pe_non (pa_cons (pe_lst pa_nil) (pa_cons pe_int pa_nil))))))
    (pss_cons (ps_set (i := 4) sc.nd rfl (Or.inl rfl) (pe_c C_law_bound hr (by omega) (by rfl) (pa_cons (pv 0) pa_nil)))
    (pss_cons (ps_for PassesOwn.never rfl (pi_range1 rfl G.bi_range (pa_cons (pe_c C_law_next hr (by omega) (by rfl) (pa_cons (pv 0) (pa_cons (pe_op op_add (pv 1) pe_int) pa_nil))) pa_nil)) (pg_name (i := 5) sc.nd rfl (Or.inl rfl)) (Evl.pss_cut (ps_if (pt_cmpR op_eq (pe_c C_law_next hr (by omega) (by rfl) (pa_cons (pv 0) (pa_cons pe_int pa_nil))) pe_int (nomark _)) (pss_one (ps_set (i := 6) sc.nd rfl (Or.inl rfl) (pe_tup (pa_cons pe_str (pa_cons (pe_ix ix_list (pe_lst (pa_cons pe_int (pa_cons (pe_un un_neg pe_int) (pa_cons pe_int (pa_cons (pe_un un_neg pe_int) (pa_cons pe_int (pa_cons pe_int (pa_cons (pe_un un_neg pe_int) (pa_cons pe_int pa_nil))))))))) (pe_c C_law_next hr (by omega) (by rfl) (pa_cons (pv 0) (pa_cons pe_int pa_nil))) (fun _ _ => rfl)) pa_nil))))) (pss_cons (ps_set (i := 7) sc.nd rfl (Or.inl rfl) (pe_c C_law_bound hr (by omega) (by rfl) (pa_cons (pv 0) pa_nil)))
        (pss_cons (ps_if (pt_cmpR op_gt (pe_c C_law_next hr (by omega) (by rfl) (pa_cons (pv 0) (pa_cons pe_int pa_nil))) pe_int (nomark _)) (pss_one (ps_set (i := 7) sc.nd rfl (Or.inl rfl) (pe_callB (call_max2 rfl) (by rfl) G.bi_max (by decide +kernel) (pa_cons (pe_un un_neg pe_int) (pa_cons (pe_callB (call_min2 rfl) (by rfl) G.bi_min (by decide +kernel) (pa_cons pe_int (pa_cons (pe_op op_sub (pe_op op_add (pv 4) (pe_c C_law_next hr (by omega) (by rfl) (pa_cons (pv 0) (pa_cons pe_int pa_nil)))) pe_int) pa_nil))) pa_nil))))) pss_nil)
        (pss_one (ps_set (i := 6) sc.nd rfl (Or.inl rfl) (pe_tup (pa_cons pe_str (pa_cons (pe_ix ix_list (pe_lst (pa_cons pe_str (pa_cons pe_str (pa_cons pe_str (pa_cons pe_str (pa_cons pe_str (pa_cons pe_str (pa_cons pe_str (pa_cons pe_str pa_nil))))))))) (pe_c C_law_next hr (by omega) (by rfl) (pa_cons (pv 0) (pa_cons pe_int pa_nil))) (fun _ _ => rfl)) (pa_cons (pv 7) pa_nil)))))))))
      (pss_cons (ps_expr (pe_bm PySem.F.plainAttrs_list PySem.F.slot_list_append PySem.F.type_list_append mt_append (pv 2) (pa_cons (pv 6) pa_nil)))
      (pss_one (ps_if (PW.pt (pw_and (pt_cmpR op_notN (pv 3) pe_non (nomark _)) (pw_and1 (pt_cmpR op_eq (pe_ix ix_tup (pv 6) pe_int (fun _ _ => rfl)) pe_str (nomark _))))) (pss_one (ps_set (i := 3) sc.nd rfl (Or.inl rfl) (pe_tup (pa_cons (pe_ix ix_tup (pv 3) pe_int (fun _ _ => rfl)) (pa_cons (pe_ix ix_tup (pv 3) pe_int (fun _ _ => rfl)) (pa_cons (pe_ix ix_tup (pv 3) pe_int (fun _ _ => rfl)) (pa_cons (pe_op op_mul (pe_ix ix_tup (pv 3) pe_int (fun _ _ => rfl)) (pe_ix ix_tup (pv 6) pe_int (fun _ _ => rfl))) pa_nil))))))) (pss_one (ps_if (pt_cmpR op_notN (pv 3) pe_non (nomark _)) (pss_one (ps_set (i := 3) sc.nd rfl (Or.inl rfl) (pe_c C_law_sifted hr (by omega) (by rfl) (pa_cons (pv 3) (pa_cons (pe_ix ix_tup (pv 6) pe_int (fun _ _ => rfl)) (pa_cons (pe_ix ix_tup (pv 6) pe_int (fun _ _ => rfl)) pa_nil)))))) pss_nil)))))))
    (pss_one (ps_ret (pe_tup (pa_cons (pv 2) (pa_cons (pe_c C_law_tidied hr (by omega) (by rfl) (pa_cons (pv 3) pa_nil)) pa_nil))))))))), ?_⟩
    have nl0 : H l ≠ none := by
      obtain ⟨ns, i, x, y, _, hl⟩ := hD
      rw [hl]
      exact fun z => nomatch z
    -- stages = []
    refine run_setR (R := fun v H1 => ∃ sp, v = .ref sp ∧ H sp = none ∧ H1 sp = some (.lst [])) (fun H1 e Q' q' => ⟨Nat.zero_le _, fun p hp => q' _ _ (same_new hp) ⟨p, rfl, Same.free e hp, upd_same⟩⟩) ?_
    rintro v H1 e1 ⟨sp, rfl, hsp, hs1⟩
    have nls : l ≠ sp := fun z => nl0 (z ▸ hsp)
    -- box = (None, None, [], 1)
    refine run_setR (R := fun v H2 => ∃ a l', v = .ref a ∧ BoxAt K H2 a l' ⟨none, none, [], 1⟩ ∧ l' ≠ sp) (evr_tupR (RA := fun vs H2 => ∃ l', vs = [.non, .non, .ref l', .int 1] ∧ H2 l' = some (.lst []) ∧ l' ≠ sp)
      (ear_cons1 ev_c (ear_cons1 ev_c (ear_cons (R := fun v H2 => ∃ l', v = .ref l' ∧ H2 l' = some (.lst []) ∧ l' ≠ sp) (fun H2 e2 Q' q' => ⟨Nat.zero_le _, fun p hp => q' _ _ (same_new hp) ⟨p, rfl, upd_same, fun z => ?_⟩⟩) fun x H2 e2 ⟨l', ex, h1, h2⟩ => ear_of (ea_cons ev_c ea_nil) fun H3 e3 => ⟨l', by rw [ex], e3 _ _ h1, h2⟩)))
      (fun vs H2 ⟨l', ev, _⟩ => by rw [ev]; exact Nat.le_of_ble_eq_true rfl) fun vs p H2 H3 e2 e3 ⟨l', ev, h1, h2⟩ hp => ⟨p, l', rfl, ⟨by rw [ev] at hp; exact SqT.of hp, e3 _ _ h1⟩, h2⟩) ?_
    · have := e2 _ _ hs1
      rw [← z, hp] at this
      cases this
    rintro v H2 e2 ⟨a0, l', rfl, hB, nl'⟩
    have g2 : Great K sp [] [] (.ref a0) (some ⟨none, none, [], 1⟩) H2 := ⟨e2 _ _ hs1, rfl, fun j a s z => by simp at z, ⟨a0, l', rfl, hB, nl'⟩⟩
    have hD2 : DrawAt H2 d l := hD.mono (e1.trans e2)
    show Run _ _ [some (.ref d), some (.int 5), some (.ref sp), some (.ref a0), none, none, none, none] H2
    intro H3 e3
    -- base = _law_bound(..)
    refine evd_set (evd_bound (ev_var rfl) (hD2.mono e3)) ?_
    rintro v H4 ⟨bs, rfl, sb4, hD4⟩
    have g4 : Great K sp [] [] (.ref a0) (some ⟨none, none, [], 1⟩) H4 := (g2.same e3).draw sb4 (hD2.mono e3)
    show tSeq _ _ _ [some (.ref d), some (.int 5), some (.ref sp), some (.ref a0), some (.int bs), none, none, none] H4
    refine evd_forR1 (m := 6) (R := fun H' => Great K sp [] [] (.ref a0) (some ⟨none, none, [], 1⟩) H' ∧ DrawAt H' d l) (evd_imp (evd_next (m := 6) (ev_var rfl) (fun _ _ => ev_op (ev_var rfl) ev_c rv_I0) hD4 (by decide) (by decide)) fun v H' ⟨r, ev, sb, hD', r0, r1⟩ => ⟨r, ev, r0, r1, g4.draw sb hD4, hD'⟩) (by decide)
      (fun i σ' H' => ∃ (refs : List Addr) (ss : List Stg) (bv : V) (o : Option Sh) (kk st bb : Option V), σ' = [some (.ref d), some (.int 5), some (.ref sp), some bv, some (.int bs), kk, st, bb] ∧ DrawAt H' d l ∧ Great K sp refs ss bv o H' ∧ ss.length = i ∧ (∀ s ∈ ss, s.ok) ∧ BoxIs (sem ss).1 (sem ss).2 o ∧ Fit i o)
      ?_ ?_ ?_
    · rintro H' ⟨g, hD'⟩
      exact ⟨[], [], _, _, none, none, none, rfl, hD', g, rfl, fun s z => by simp at z, .inr ⟨_, rfl, rfl, fun v => ⟨fun _ => ⟨fun l z => (nomatch z), fun l z => (nomatch z), by simp⟩, fun _ => True.intro⟩⟩, fun s z => by cases z; exact Nat.le_refl _⟩
    · rintro i σ' H' hi ⟨refs, ss, bv, o, kk, st, bb, rfl, hD', g, hlen, hok, hbx, hfit⟩
      show Evl.tCut _ _ _ [some (.ref d), some (.int 5), some (.ref sp), some bv, some (.int bs), some (.int (i : Int)), st, bb] H'
      -- the stage
      refine cut_intro (fun σ2 H5 => ∃ (a : Addr) (s : Stg) (bb2 : Option V), σ2 = [some (.ref d), some (.int 5), some (.ref sp), some bv, some (.int bs), some (.int (i : Int)), some (.ref a), bb2] ∧ StgAt K H5 a s ∧ s.ok ∧ DrawAt H5 d l ∧ Great K sp refs ss bv o H5) ?_ ?_
      · refine evtd_ifS (RT := fun _ H5 => DrawAt H5 d l ∧ Great K sp refs ss bv o H5) (evtd_test (evd_op (Ra := fun v H5 => ∃ r, v = .int r ∧ DrawAt H5 d l ∧ Great K sp refs ss bv o H5)
          (evd_imp (evd_next (ev_var rfl) (fun _ _ => ev_c) hD' (by decide) (by decide)) fun v H5 ⟨r, ev, sb, hD5, _⟩ => ⟨r, ev, hD5, g.draw sb hD'⟩) ?_)) ?_ ?_
        · rintro x H5 ⟨r, rfl, hD5, g5⟩
          exact evd_of ev_c fun H6 e6 Q' q' => rv_eqI (H := H6) H6 (Same.refl H6) Q' (q' _ _ ⟨_, rfl, hD5.mono e6, g5.same e6⟩)
        · -- scale
          rintro H5 ⟨hD5, g5⟩
          refine evd_set1 (evd_tup2 (evd_pick (vs := ([1, -1, 2, -3, 7, 1000, -1000, 0] : List Int).map V.int) (by walk_at "tf ea") rfl (fun a r => ints_ne) (fun _ _ => ev_var rfl) (fun _ _ => ev_c) hD5)) ?_
          rintro v H6 ⟨p, y, H0, rfl, ⟨hy, sb, hD0⟩, e6, hp⟩
          obtain ⟨k, hk, rfl⟩ := List.mem_map.mp hy
          refine ⟨p, .scale k, _, rfl, SqT.of hp, ?_, hD0.mono e6, (g5.draw sb hD5).same e6⟩
          show k.natAbs ≤ 1000
          simp at hk
          omega
        · -- sift
          rintro H5 ⟨hD5, g5⟩
          refine evd_set (evd_bound (ev_var rfl) hD5) ?_
          rintro v H6 ⟨b0, rfl, sb6, hD6⟩
          have g6 := g5.draw sb6 hD5
          show tSeq _ _ _ [some (.ref d), some (.int 5), some (.ref sp), some bv, some (.int bs), some (.int (i : Int)), st, some (.int b0)] H6
          have last : ∀ (b1 : Int) H7 (D' : Ends), DrawAt H7 d l → Great K sp refs ss bv o H7 → (∀ p c H8, StgAt K H8 p (.sift c b1) → DrawAt H8 d l → Great K sp refs ss bv o H8 → D'.nx [some (.ref d), some (.int 5), some (.ref sp), some bv, some (.int bs), some (.int (i : Int)), some (.ref p), some (.int b1)] H8) →
              tAsg (tTup (tCons (tC (.str "sift")) (tCons (tOp (rIxL K) (tLst (tCons (tC (.str "<")) (tCons (tC (.str "<=")) (tCons (tC (.str "=")) (tCons (tC (.str "!=")) (tCons (tC (.str ">=")) (tCons (tC (.str ">")) (tCons (tC (.str "!=")) (tCons (tC (.str "!=")) tNil))))))))) (tCall spNext [] E0 (tCons (tVar 0) (tCons (tC (.int 8)) tNil)))) (tCons (tVar 7) tNil)))) (gName 6) D' [some (.ref d), some (.int 5), some (.ref sp), some bv, some (.int bs), some (.int (i : Int)), st, some (.int b1)] H7 := by
            intro b1 H7 D' hD7 g7 k
            refine evd_set1 (evd_tup3 (evd_pick (vs := ([.lt, .le, .eq, .ne, .ge, .gt, .ne, .ne] : List Cmp).map fun c => V.str c.str) (ea_cons ev_c (ea_cons ev_c (ea_cons ev_c (ea_cons ev_c (ea_cons ev_c (ea_cons ev_c (ea_cons ev_c (ea_cons ev_c ea_nil)))))))) rfl (fun a r z => by cases z) (fun _ _ => ev_var rfl) (fun _ _ => ev_c) hD7) rfl) ?_
            rintro v H8 ⟨p, y, H0, rfl, ⟨hy, sb, hD0⟩, e8, hp⟩
            obtain ⟨c, _, rfl⟩ := List.mem_map.mp hy
            exact k p c H8 (SqT.of hp) (hD0.mono e8) ((g7.draw sb hD7).same e8)
          refine evtd_ifS (RT := fun _ H7 => DrawAt H7 d l ∧ Great K sp refs ss bv o H7) (evtd_test (evd_op (Ra := fun v H7 => ∃ r, v = .int r ∧ DrawAt H7 d l ∧ Great K sp refs ss bv o H7)
            (evd_imp (evd_next (ev_var rfl) (fun _ _ => ev_c) hD6 (by decide) (by decide)) fun v H7 ⟨r, ev, sb, hD7, _⟩ => ⟨r, ev, hD7, g6.draw sb hD6⟩) ?_)) ?_ ?_
          · rintro x H7 ⟨r, rfl, hD7, g7⟩
            exact evd_of ev_c fun H8 e8 Q' q' => ⟨r, 0, rfl, rfl, q' _ _ ⟨_, rfl, hD7.mono e8, g7.same e8⟩⟩
          · rintro H7 ⟨hD7, g7⟩
            refine evd_set1 (R := fun v H' => ∃ z : Int, v = .int z ∧ (DrawAt H' d l ∧ Great K sp refs ss bv o H')) (evd_clamp (evd_op (Ra := fun v H' => ∃ z : Int, v = .int z ∧ (DrawAt H' d l ∧ Great K sp refs ss bv o H')) (evd_op (Ra := fun v H' => v = .int bs ∧ (DrawAt H' d l ∧ Great K sp refs ss bv o H'))
              (evd_of (ev_var rfl) fun H8 e8 => ⟨rfl, hD7.mono e8, g7.same e8⟩) ?_) ?_)) ?_
            · rintro x H8 ⟨rfl, hD8, g8⟩
              refine evd_imp (evd_next (ev_var rfl) (fun _ _ => ev_c) hD8 (by decide) (by decide)) ?_
              rintro v H9 ⟨r, rfl, sb9, hD9, _⟩ Q' q'
              exact ⟨bs, r, rfl, rfl, q' _ _ ⟨_, rfl, hD9, g8.draw sb9 hD8⟩⟩
            · rintro x H8 ⟨z, rfl, hD8, g8⟩
              exact evd_of ev_c fun H9 e9 Q' q' => ⟨z, 4, rfl, rfl, q' _ _ ⟨_, rfl, hD8.mono e9, g8.same e9⟩⟩
            · rintro v H8 ⟨z, rfl, hD8, g8⟩
              exact last z H8 _ hD8 g8 fun p c H9 h1 h2 h3 => ⟨p, .sift c z, _, rfl, h1, True.intro, h2, h3⟩
          · rintro H7 ⟨hD7, g7⟩
            exact last b0 H7 _ hD7 g7 fun p c H9 h1 h2 h3 => ⟨p, .sift c b0, _, rfl, h1, True.intro, h2, h3⟩
      · -- stages.append(stage), the box
        rintro σ2 H5 ⟨a, s, bb2, rfl, hst, sok, hD5, g5⟩
        have hlr : refs.length ≤ 5 := by
          have := g5.len
          omega
        refine Run.go (run_app g5.lst (ev_var rfl) (ev_var rfl) (by rw [List.length_map]; omega) fun H6 e6 => ?_)
        have g6 := (g5.same e6).app (hst.mono e6)
        have hD7 : DrawAt (upd H6 sp (.lst ((refs ++ [a]).map V.ref))) d l := draw_app (hD5.mono e6) nls (g5.same e6).lst
        have hs7 : StgAt K (upd H6 sp (.lst ((refs ++ [a]).map V.ref))) a s := stg_b sameB_upd (g5.same e6).lst (hst.mono e6)
        have em : (refs ++ [a]).map V.ref = refs.map V.ref ++ [.ref a] := by
          rw [List.map_append]
          rfl
        rw [em] at g6 hD7 hs7
        show tIfS _ _ _ _ _ (upd H6 sp (.lst (refs.map V.ref ++ [.ref a])))
        generalize upd H6 sp (.lst (refs.map V.ref ++ [.ref a])) = H7 at g6 hD7 hs7
        have ok2 : ∀ x ∈ ss ++ [s], x.ok := fun x hx => by
          rcases List.mem_append.mp hx with z | z
          · exact hok x z
          · cases List.mem_singleton.mp z
            exact sok
        have len2 : (ss ++ [s]).length = i + 1 := by rw [List.length_append, hlen]; rfl
        have done : ∀ (bv' : V) (o' : Option Sh) H8, DrawAt H8 d l → Great K sp (refs ++ [a]) (ss ++ [s]) bv' o' H8 → BoxIs (sem (ss ++ [s])).1 (sem (ss ++ [s])).2 o' → Fit (i + 1) o' →
            ∃ (refs : List Addr) (ss : List Stg) (bv : V) (o : Option Sh) (kk st bb : Option V), [some (.ref d), some (.int 5), some (.ref sp), some bv', some (.int bs), some (.int (i : Int)), some (.ref a), bb2] = [some (.ref d), some (.int 5), some (.ref sp), some bv, some (.int bs), kk, st, bb] ∧ DrawAt H8 d l ∧ Great K sp refs ss bv o H8 ∧ ss.length = i + 1 ∧ (∀ s ∈ ss, s.ok) ∧ BoxIs (sem ss).1 (sem ss).2 o ∧ Fit (i + 1) o :=
          fun bv' o' H8 h1 h2 h3 h4 => ⟨refs ++ [a], ss ++ [s], bv', o', _, _, _, rfl, h1, h2, len2, ok2, h3, h4⟩
        rw [sem_snoc] at done
        cases o with
        | none =>
          have hbv : bv = .non := g6.box
          subst hbv
          refine Run.go (run_if1 (b := false) (et_andf (by walk_at "tf et")) ⟨fun z => (Bool.false_ne_true z).elim, fun _ => ?_⟩)
          refine run_if1 (b := false) (by walk_at "tf et") ⟨fun z => (Bool.false_ne_true z).elim, fun _ => ?_⟩
          refine fun H8 e8 => done .non none H8 (hD7.mono e8) (g6.same e8) (.inl ⟨rfl, fun v => ?_⟩) (fun s z => nomatch z)
          rcases hbx with ⟨_, h⟩ | ⟨b, z, _⟩
          · cases s with
            | scale k => exact h v
            | sift c b => exact fun z => h v z.1
          · cases z
        | some b =>
          obtain ⟨ab, lb, rfl, hB7, nlb⟩ := g6.box
          obtain ⟨hb1, hb2⟩ := id hB7
          rcases hbx with ⟨z, _⟩ | ⟨b', z, bf, bm⟩
          · cases z
          cases z
          have hz : b.holes.length ≤ i := hfit b rfl
          have bfb : b.f.natAbs < 2 ^ 60 := by
            rw [bf]
            have h1 := sem_bound i ss hlen hok
            have h2 : (1000 : Nat) ^ i ≤ 1000 ^ 4 := Nat.pow_le_pow_right (by decide) (by omega)
            have h3 : (1000 : Nat) ^ 4 < 2 ^ 60 := by decide
            omega
          cases s with
          | scale k =>
            have hs7 : SqT K H7 a [.str "scale", .int k] := hs7
            have hk : k.natAbs ≤ 1000 := sok
            have hmul : CMul b.f k := .inr ⟨by omega, by omega⟩
            refine Run.go (run_if1 (b := true) (et_andt (by walk_at "tf et") (by walk_at "tf et")) ⟨fun _ => ?_, fun z => (Bool.false_ne_true z.symm).elim⟩)
            refine run_setR1 (R := fun v H8 => ∃ p, v = .ref p ∧ H8 p = some (.tup [oV b.low, oV b.high, .ref lb, .int (b.f * k)]) ∧ Same H7 H8) (evr_tup (by walk_at "tf ea") (Nat.le_of_ble_eq_true rfl) fun p H8 e8 hp => ⟨p, rfl, hp, e8⟩) ?_
            rintro v H8 e8 ⟨p, rfl, hp, _⟩
            have g8 := g6.same e8
            refine done (.ref p) (some ⟨b.low, b.high, b.holes, b.f * k⟩) H8 (hD7.mono e8) ⟨g8.lst, g8.len, g8.stg, p, lb, rfl, ⟨SqT.of hp, e8 _ _ hb2⟩, nlb⟩ (.inr ⟨_, rfl, ?_, bm⟩) (fun s z => by cases z; show b.holes.length ≤ i + 1; omega)
            show b.f * k = (sem ss).2 * k
            rw [bf]
          | sift c b0 =>
            have hs7 : SqT K H7 a [.str "sift", .str c.str, .int b0] := hs7
            refine Run.go (run_if1 (b := false) (et_andt (by walk_at "tf et") (by walk_at "tf et")) ⟨fun z => (Bool.false_ne_true z).elim, fun _ => ?_⟩)
            refine run_if1 (b := true) (by walk_at "tf et") ⟨fun _ => ?_, fun z => (Bool.false_ne_true z.symm).elim⟩
            refine run_setR1 (evr_call (vs := [.ref ab, .str c.str, .int b0]) (by walk_at "tf ea") (spr_boxSifted hB7 bfb (by omega) (N := fun l => l ≠ sp) nlb (fun l' z y => by rw [y, g6.lst] at z; cases z))) ?_
            rintro v H8 e8 ⟨o', hv, hbi, hf⟩
            have g8 := g6.same e8
            refine done v o' H8 (hD7.mono e8) ⟨g8.lst, g8.len, g8.stg, hv⟩ ?_ (fun s z => by have := hf s z; omega)
            rw [bf] at hbi
            rcases hbi with ⟨z, h⟩ | ⟨b2, z1, z2, z3⟩
            · refine .inl ⟨z, fun v hv => h v ?_⟩
              exact ⟨(bm v).mp hv.1, hv.2⟩
            · refine .inr ⟨b2, z1, z2, fun v => ?_⟩
              rw [← z3 v]
              show ((sem ss).1 v ∧ c.test ((sem ss).2 * v) b0 = true) ↔ (b.mem v ∧ c.test ((sem ss).2 * v) b0 = true)
              rw [bm v]
    · rintro n σ' H' hn ⟨refs, ss, bv, o, kk, st, bb, rfl, hD', g, hlen, hok, hbx, hfit⟩
      have hv : BoxV K H' bv (fun _ => True) o := by
        have := g.box
        cases o with
        | none => exact this
        | some b =>
          obtain ⟨a, l', e1, e2, _⟩ := this
          exact ⟨a, l', e1, e2, True.intro⟩
      refine Run.go (run_retR (R := fun v H2 => Q v H2) (evr_tupR (RA := fun vs H2 => ∃ v' o', vs = [.ref sp, v'] ∧ Same H' H2 ∧ ShV K H2 v' o' ∧ IsC (sem ss).1 (sem ss).2 o' ∧ Fit n o')
        (fun H1 e1 => ear_cons1 (ev_var rfl) (ear_cons (evr_call (ea_cons (ev_var rfl) ea_nil) (spr_tidied hv hbx hfit (by omega))) fun x H2 e2 ⟨o', h1, h2, h3⟩ => ear_of ea_nil fun H3 e3 => ⟨x, o', rfl, e2.trans e3, h1.mono e3, h2, h3⟩) H1 e1)
        (fun vs H2 ⟨v', o', ev, _⟩ => by rw [ev]; exact Nat.le_of_ble_eq_true rfl) fun vs p H2 H3 e2 e3 ⟨v', o', ev, e4, h1, h2, h3⟩ hp => ?_) (fun v H1 e r => r))
      subst ev
      have g3 := g.same (e4.trans e3)
      exact q p sp refs ss v' o' H3 hp g3.lst g3.len g3.stg (by omega) hok (h1.mono e3) h2 (fun s z => by have := h3 s z; omega)
end
end
section

section
variable {P : Program} {w : World} {K : PySem.W.Frag} {mg : Str → Option Value} {base : Heap}
/-! ### the law -/
def scV (x : V) : Prop := x = .non ∨ (∃ b, x = .bl b) ∨ ∃ i, x = .int i
theorem scV_o (o : Option Int) : scV (oV o) := by
  cases o with
  | none => exact .inl rfl
  | some i => exact .inr (.inr ⟨i, rfl⟩)
theorem seq_holes {H : Hp} {a b : Addr} {xs : List Int} (ha : SqT K H a (xs.map V.int)) (hb : SqT K H b (xs.map V.int)) (hl : xs.length ≤ 100) : SEq K H 1 (.ref a) (.ref b) :=
  .inr ⟨a, b, _, _, rfl, rfl, ha, hb, rfl, by rw [List.length_map]; exact hl, fun i x y hx hy => by
    rw [hx] at hy
    cases hy
    rw [List.getElem?_map] at hx
    cases g : xs[i]? with
    | none => rw [g] at hx; cases hx
    | some k =>
      rw [g] at hx
      cases hx
      exact ⟨rfl, .inr (.inr ⟨k, rfl⟩)⟩⟩
theorem seq_show {H : Hp} {v v' : V} {o : Option Sh} (h : ShV K H v o) (h' : ShV K H v' o) (hl : Fit 100 o) : SEq K H 2 v v' := by
  cases o with
  | none =>
    cases h
    cases h'
    exact .inl ⟨rfl, .inl rfl⟩
  | some s =>
    obtain ⟨a, rfl, t, h1, h2⟩ := h
    obtain ⟨a', rfl, t', h1', h2'⟩ := h'
    refine .inr ⟨a, a', _, _, rfl, rfl, h1, h1', rfl, by show 6 ≤ 100; decide, fun i x y hx hy => ?_⟩
    match i, hx, hy with
    | 0, hx, hy => cases hx; cases hy; exact .inl ⟨rfl, .inl rfl⟩
    | 1, hx, hy => cases hx; cases hy; exact .inl ⟨rfl, scV_o _⟩
    | 2, hx, hy => cases hx; cases hy; exact .inl ⟨rfl, scV_o _⟩
    | 3, hx, hy => cases hx; cases hy; exact seq_holes h2 h2' (hl s rfl)
    | 4, hx, hy => cases hx; cases hy; exact .inl ⟨rfl, .inr (.inr ⟨_, rfl⟩)⟩
    | 5, hx, hy => cases hx; cases hy; exact .inl ⟨rfl, .inl rfl⟩
    | i + 6, hx, hy => simp at hx
/-- not _law_same(a, b), the two alike -/
theorem et_same {σ : L2.St} {H : Hp} {ta tb : TE} {Pa Pb : V → Prop} (ha : EvR ta σ H (fun x _ => Pa x)) (hb : EvR tb σ H (fun y _ => Pb y)) (hs : ∀ x y, Pa x → Pb y → x = y ∧ scV x) :
    EvT (tNot (tB (tCall (spSame K 2) [] E0 (tCons ta (tCons tb tNil))))) σ H false := fun H1 e1 Q q =>
  ha H1 e1 _ fun x H2 e2 px => hb H2 (e1.trans e2) _ fun y H3 e3 py => by
    refine ⟨x, y, rfl, .inl (hs x y px py), fun H4 e4 => ⟨true, rfl, ?_⟩⟩
    show Q (!true) H4
    exact q H4 ((e2.trans e3).trans e4)
theorem evd_tup2S {σ : L2.St} {H : Hp} {te : TE} {tr : TS} {D : Ends} {R : V → Hp → Prop} {i1 i2 : Nat} (h : EvD te σ H R) (k : ∀ v H1, R v H1 → ∃ a v1 v2, v = .ref a ∧ SqT K H1 a [v1, v2] ∧ tr D ((σ.set i1 (some v1)).set i2 (some v2)) H1) :
    tSeq (tAsg te (gTup K 2 (gCons (gName i1) (gCons (gName i2) gNil)))) tr D σ H := h _ fun v H2 r => by
  obtain ⟨a, v1, v2, rfl, hS, k⟩ := k v H2 r
  exact ⟨a, _, rfl, hS, rfl, _, _, rfl, _, _, rfl, rfl, k⟩
def spLaw (K : PySem.W.Frag) : Sp := fun vs H Q _ => ∃ (a : Addr) (ns : List Int), vs = [.ref a] ∧ SqL K H a (ns.map V.int) ∧ ∀ H', Q (.bl true) H'
-- law: topS 38; slots _law_script=0 _law_draw_here=1 _law_stages=2 _law_show=3 _law_found=4 _law_stage=5 _law_place=6 _law_value=7 _law_bound_here=8; cells []; callees ['_law_draw', '_law_great', 'narrowed', '_law_same', '_law_limit', 'count_limit', '_law_nearest', 'token', '_law_inside', 'is_shown', '_law_class', 'class_above', 'class_below']
abbrev s_law : Stmt := topS 38
theorem sc_law : FnScope ["_law_script", "_law_draw_here", "_law_stages", "_law_show", "_law_found", "_law_stage", "_law_place", "_law_value", "_law_bound_here"] ["_law_script"] (defScope s_law) := ⟨rfl, rfl, rfl, by decide +kernel, rfl, by decide +kernel, by decide +kernel⟩
local macro_rules | `(tactic| walk_at "tf no") => `(tactic| refine ⟨fun z => (Bool.false_ne_true z).elim, fun _ => run_nx ?_⟩)
theorem ok_law {f G_ALL : Addr} {fd : FuncData} (F : Fun K "law" "law" s_law f fd) (G : Glob mg) (gALL : mg "ALL" = some (.ref G_ALL)) (hALL : ∀ H, ShAt K H G_ALL ⟨none, none, [], 1⟩)
    (C_law_draw : Cal P w K mg base 1 "_law_draw" (spDraw K)) (C_law_great : Cal P w K mg base 3 "_law_great" (spGreat K)) (C_narrowed : Cal P w K mg base 4 "narrowed" (spNarrowed K)) (C_law_same : Cal P w K mg base 3 "_law_same" (spSame K 2))
    (C_token : Cal P w K mg base 2 "token" (spTok K)) (C_law_nearest : Cal P w K mg base 2 "_law_nearest" (spTok K)) (C_count_limit : Cal P w K mg base 1 "count_limit" (spLim K)) (C_law_limit : Cal P w K mg base 1 "_law_limit" (spLim K))
    (C_is_shown : Cal P w K mg base 2 "is_shown" (spShows K)) (C_law_inside : Cal P w K mg base 1 "_law_inside" (spShows K)) (C_class_above : Cal P w K mg base 4 "class_above" (spClassA K)) (C_law_class : Cal P w K mg base 4 "_law_class" (spClass K 1)) (C_class_below : Cal P w K mg base 4 "class_below" (spClassB K)) :
    FnOk P w K mg base CX0 5 f fd ["_law_script"] (spLaw K) := by
  have sc := sc_law
  refine fn_run F sc (fun vs H Q E h => ?_) (fun cdv A outer s H vs Q E hr h => ?_)
  · obtain ⟨a, ns, rfl, _⟩ := h
    rfl
  · obtain ⟨a, ns, rfl, hS, q⟩ := h
    refine ⟨_, (pss_cons (ps_set (i := 1) sc.nd rfl (Or.inl rfl) (pe_c C_law_draw hr (by omega) (by rfl) (pa_cons (pv 0) pa_nil)))
    (pss_cons (ps_asg (pe_c C_law_great hr (by omega) (by rfl) (pa_cons (pv 1) (pa_cons pe_int pa_nil))) (pg_tup rfl (pgs_cons (pg_name (i := 2) sc.nd rfl (Or.inl rfl)) (pgs_cons (pg_name (i := 3) sc.nd rfl (Or.inl rfl)) pgs_nil))))
    (pss_cons (ps_set (i := 4) sc.nd rfl (Or.inl rfl) (pe_glob (v := .ref G_ALL) (by rfl) gALL rfl))
    (pss_cons (ps_for PassesOwn.never rfl (pi_list (pv 2)) (pg_name (i := 5) sc.nd rfl (Or.inl rfl)) (pss_one (ps_set (i := 4) sc.nd rfl (Or.inl rfl) (pe_c C_narrowed hr (by omega) (by rfl) (pa_cons (pv 4) (pa_cons (pv 5) pa_nil))))))
    (pss_cons (ps_if (pt_not (pt_val (pe_c C_law_same hr (by omega) (by rfl) (pa_cons (pv 4) (pa_cons (pv 3) pa_nil))))) (pss_one (ps_ret pe_bl)) pss_nil)
    (pss_cons (ps_if (pt_cmpR op_isN (pv 3) pe_non (nomark _)) (pss_one (ps_ret pe_bl)) pss_nil)
    (pss_cons (ps_if (PW.pt (pw_or (pt_not (pt_val (pe_c C_law_same hr (by omega) (by rfl) (pa_cons (pe_c C_token hr (by omega) (by rfl) (pa_cons (pv 3) pa_nil)) (pa_cons (pe_c C_law_nearest hr (by omega) (by rfl) (pa_cons (pv 3) pa_nil)) pa_nil))))) (pw_or1 (pt_not (pt_val (pe_c C_law_same hr (by omega) (by rfl) (pa_cons (pe_c C_count_limit hr (by omega) (by rfl) (pa_cons (pv 3) pa_nil)) (pa_cons (pe_c C_law_limit hr (by omega) (by rfl) (pa_cons (pv 3) pa_nil)) pa_nil)))))))) (pss_one (ps_ret pe_bl)) pss_nil)
    (pss_cons (ps_for PassesOwn.never rfl (pi_list (pe_op op_cat (pe_lst (pa_cons pe_int pa_nil)) (pe_lc (own := [("_law_bound_here", 8)]) (g := gName 8) rfl sc.nd (pi_list (pe_op op_cat (pe_lst (pa_cons (pe_ix ix_tup (pv 3) pe_int (fun _ _ => rfl)) (pa_cons (pe_ix ix_tup (pv 3) pe_int (fun _ _ => rfl)) pa_nil))) (pe_callTy call_list_of (by rfl) G.bi_list (by decide +kernel) (pa_cons (pe_ix ix_tup (pv 3) pe_int (fun _ _ => rfl)) pa_nil)))) (blkOk_by (N := ["_law_script", "_law_draw_here", "_law_stages", "_law_show", "_law_found", "_law_stage", "_law_place", "_law_value", "_law_bound_here"]) (sc := defScope s_law) (own := [("_law_bound_here", 8)]) (by decide +kernel)) (fun _ _ _ _ _ => pg_name (i := 8) sc.nd rfl (Or.inl rfl)) (fun _ _ _ _ _ => (pts_one (pt_cmpR op_notN (pv 8) pe_non (nomark _)))) (fun _ _ _ _ _ => (pv 8))))) (pg_name (i := 6) sc.nd rfl (Or.inl rfl)) (pss_one (ps_for PassesOwn.never rfl (pi_list (pe_lst (pa_cons (pe_op op_sub (pv 6) pe_int) (pa_cons (pv 6) (pa_cons (pe_op op_add (pv 6) pe_int) pa_nil))))) (pg_name (i := 7) sc.nd rfl (Or.inl rfl)) (pss_cons (ps_if (pt_not (pt_val (pe_c C_law_same hr (by omega) (by rfl) (pa_cons (pe_c C_is_shown hr (by omega) (by rfl) (pa_cons (pv 3) (pa_cons (pv 7) pa_nil))) (pa_cons (pe_c C_law_inside hr (by omega) (by rfl) (pa_cons (pv 3) (pa_cons (pv 7) pa_nil))) pa_nil))))) (pss_one (ps_ret pe_bl)) pss_nil)
        (pss_cons (ps_if (pt_not (pt_val (pe_c C_law_same hr (by omega) (by rfl) (pa_cons (pe_c C_class_above hr (by omega) (by rfl) (pa_cons (pv 3) (pa_cons (pv 7) pa_nil))) (pa_cons (pe_c C_law_class hr (by omega) (by rfl) (pa_cons (pv 3) (pa_cons (pv 7) (pa_cons pe_int pa_nil)))) pa_nil))))) (pss_one (ps_ret pe_bl)) pss_nil)
        (pss_one (ps_if (pt_not (pt_val (pe_c C_law_same hr (by omega) (by rfl) (pa_cons (pe_c C_class_below hr (by omega) (by rfl) (pa_cons (pv 3) (pa_cons (pv 7) pa_nil))) (pa_cons (pe_c C_law_class hr (by omega) (by rfl) (pa_cons (pv 3) (pa_cons (pv 7) (pa_cons (pe_un un_neg pe_int) pa_nil)))) pa_nil))))) (pss_one (ps_ret pe_bl)) pss_nil)))))))
    (pss_one (ps_ret pe_bl)))))))))), ?_⟩
    refine run_setR (evr_call (ea_cons (ev_var rfl) ea_nil) (spr_draw hS)) ?_
    rintro v H1 e1 ⟨d, l, rfl, hD⟩
    show Run _ _ [some (.ref a), some (.ref d), none, none, none, none, none, none, none] H1
    intro H2 e2
    -- stages, show = _law_great(draw, 5)
    refine evd_tup2S (R := fun v H3 => ∃ (p sp : Addr) (refs : List Addr) (ss : List Stg) (v' : V) (o : Option Sh), v = .ref p ∧ H3 p = some (.tup [.ref sp, v']) ∧ H3 sp = some (.lst (refs.map V.ref)) ∧ refs.length = ss.length ∧ (∀ (j : Nat) a s, refs[j]? = some a → ss[j]? = some s → StgAt K H3 a s) ∧ ss.length ≤ 5 ∧ (∀ s ∈ ss, s.ok) ∧ ShV K H3 v' o ∧ IsC (sem ss).1 (sem ss).2 o ∧ Fit 5 o)
      (fun Q' q' => ⟨.ref d, rfl, d, l, rfl, hD.mono e2, fun p sp refs ss v o H' h1 h2 h3 h4 h5 h6 h7 h8 h9 => q' _ _ ⟨p, sp, refs, ss, v, o, rfl, h1, h2, h3, h4, h5, h6, h7, h8, h9⟩⟩) ?_
    rintro v H3 ⟨p, sp, refs, ss, sv, o, rfl, hp, hsp, hlen, hst, h5, hok, hsv, hc, hfit⟩
    refine ⟨p, _, _, rfl, SqT.of hp, ?_⟩
    show tSeq _ _ _ [some (.ref a), some (.ref d), some (.ref sp), some sv, none, none, none, none, none] H3
    -- found = ALL, narrowed by each stage
    refine Run.go (run_set ev_c ?_)
    show Run _ _ [some (.ref a), some (.ref d), some (.ref sp), some sv, some (.ref G_ALL), none, none, none, none] H3
    refine run_forL (K := K) (a := sp) (xs := refs.map V.ref) (evr_of (ev_var rfl) fun H4 e4 => ⟨rfl, SqL.of (e4 _ _ hsp)⟩)
      (fun i σ' H' => ∃ (v : V) (o1 : Option Sh) (st : Option V), σ' = [some (.ref a), some (.ref d), some (.ref sp), some sv, some v, st, none, none, none] ∧ Same H3 H' ∧ ShV K H' v o1 ∧ IsC (sem (ss.take i)).1 (sem (ss.take i)).2 o1 ∧ Fit i o1)
      (fun H4 e4 _ => ⟨_, some ⟨none, none, [], 1⟩, none, rfl, e4, ⟨G_ALL, rfl, hALL H4⟩, .inr ⟨_, rfl, ⟨.nil, fun h z => absurd z List.not_mem_nil, fun h z => absurd z List.not_mem_nil, fun l u z => nomatch z⟩, rfl, fun v => ⟨fun _ => ⟨fun l z => (nomatch z), fun l z => (nomatch z), List.not_mem_nil⟩, fun _ => True.intro⟩⟩, fun s z => by cases z; exact Nat.le_refl _⟩)
      (fun i σ' H' ⟨_, _, _, _, e, _⟩ => SqL.of (e _ _ hsp)) ?_ ?_
    · rintro i x σ' H' hx ⟨v, o1, st, rfl, e', hv, hc1, hf1⟩
      rw [List.getElem?_map] at hx
      cases gx : refs[i]? with
      | none => rw [gx] at hx; cases hx
      | some r =>
        rw [gx] at hx
        cases hx
        have hi : i < refs.length := (List.getElem?_eq_some_iff.mp gx).1
        have hi2 : i < ss.length := by omega
        have gs : ss[i]? = some ss[i] := List.getElem?_eq_getElem hi2
        have et : ss.take (i + 1) = ss.take i ++ [ss[i]] := by
          rw [List.take_add_one, gs]
          rfl
        have lt : (ss.take i).length = i := by rw [List.length_take]; omega
        have fb : (sem (ss.take i)).2.natAbs < 2 ^ 60 := by
          have h1 := sem_bound i (ss.take i) lt fun s hs => hok s (List.mem_of_mem_take hs)
          have h2 : (1000 : Nat) ^ i ≤ 1000 ^ 5 := Nat.pow_le_pow_right (by decide) (by omega)
          have h3 : (1000 : Nat) ^ 5 < 2 ^ 60 := by decide
          omega
        refine Run.go (run_setR1 (R := fun v H4 => ∃ o2, ShV K H4 v o2 ∧ IsC (sem (ss.take (i + 1))).1 (sem (ss.take (i + 1))).2 o2 ∧ Fit (i + 1) o2) (evr_call (vs := [v, .ref r]) (ea_cons (ev_var rfl) (ea_cons (ev_var rfl) ea_nil))
          fun H4 e4 Q' q' => ⟨v, o1, r, ss[i], _, _, i, rfl, hv.mono e4, hc1, hf1, by omega, fb, (hst i r _ gx gs).mono (e'.trans e4), hok _ (List.getElem_mem hi2), fun v' o' H5 e5 k1 k2 k3 => q' _ _ e5 ⟨o', k1, by rw [et, sem_snoc]; exact k2, k3⟩⟩) ?_)
        rintro v2 H4 e4 ⟨o2, k1, k2, k3⟩
        exact ⟨v2, o2, _, rfl, e'.trans e4, k1, k2, k3⟩
    rintro σ' H4 ⟨v, o1, st, rfl, e4, hv, hc1, hf1⟩
    rw [List.length_map, List.take_of_length_le (by omega)] at hc1
    have eo : o1 = o := isC_uniq hc1 hc
    subst eo
    have hsv4 := hsv.mono e4
    have f100 : Fit 100 o1 := fun s z => by have := hfit s z; omega
    refine Run.go ?_
    refine run_if (b := false) (et_not (et_B (ev_call (ea_cons (ev_var rfl) (ea_cons (ev_var rfl) ea_nil)) (spv_same (seq_show hv hsv4 f100))))) ?_
    walk_at "tf no"
    cases o1 with
    | none =>
      have hs : sv = .non := hsv
      subst hs
      walk_at "tf if"
      walk_at "tf ret"
      exact fun H5 _ => q H5
    | some s =>
      obtain ⟨sa, rfl, hS4⟩ := hsv4
      obtain ⟨t, h1, h2⟩ := id hS4
      have hz : s.holes.length ≤ 5 := hfit s rfl
      have cn : Canon s := by
        rcases hc with ⟨z, _⟩ | ⟨s', z, c, _⟩
        · cases z
        · cases z
          exact c
      walk_at "tf if"
      -- token, count_limit
      refine run_if (b := false) (et_orf
        (et_same (evr_call (ea_cons (ev_var rfl) ea_nil) (spr_tok hS4 cn (by omega))) (evr_call (ea_cons (ev_var rfl) ea_nil) (spr_tok hS4 cn (by omega))) ?_)
        (et_same (evr_call (ea_cons (ev_var rfl) ea_nil) (spr_lim hS4 cn (by omega))) (evr_call (ea_cons (ev_var rfl) ea_nil) (spr_lim hS4 cn (by omega))) ?_)) ?_
      · rintro x y ⟨r, rfl, h1⟩ ⟨r', rfl, h2⟩
        rw [isTok_uniq h1 h2]
        exact ⟨rfl, .inr (.inr ⟨_, rfl⟩)⟩
      · rintro x y ⟨r, rfl, h1⟩ ⟨r', rfl, h2⟩
        rw [isLim_uniq h1 h2]
        exact ⟨rfl, scV_o _⟩
      walk_at "tf no"
      -- the places
      refine run_forN (K := K) (xs := [.int 0] ++ (([oV s.low, oV s.high] ++ s.holes.map V.int).filter fun x => !decide (x = .non)).map id)
        (evr_imp (evr_cat (evr_lst (ea_cons ev_c ea_nil) (Nat.le_of_ble_eq_true rfl) fun p H5 e5 hp => ⟨p, rfl, hp⟩)
          (evr_imp (evr_lcL (K := K) (xs := [oV s.low, oV s.high] ++ s.holes.map V.int) (fun x => !decide (x = .non)) id
            (evr_imp (evr_cat (evr_lst (ea_cons (by walk_at "tf ev") (ea_cons (by walk_at "tf ev") ea_nil)) (Nat.le_of_ble_eq_true rfl) fun p H5 e5 hp => ⟨p, rfl, hp⟩) (evr_lstOfT (a := t) (by walk_at "tf ev") h2) (by rw [List.length_map]; show 2 + s.holes.length ≤ 1000; omega)) fun v H5 e5 ⟨p, ev, hl⟩ => ⟨p, ev, SqL.of hl⟩)
            (by rw [List.length_append, List.length_map]; show 2 + s.holes.length ≤ 1000; omega) (fun x => rfl) (fun x _ => et_test (ev_op (ev_var rfl) ev_c rv_notNg)) (fun x _ _ => ev_var rfl)) fun v H5 e5 ⟨p, ev, _, hl⟩ => ⟨p, ev, hl⟩)
          (by
            rw [List.length_map]
            have := List.length_filter_le (fun x => !decide (x = V.non)) ([oV s.low, oV s.high] ++ s.holes.map V.int)
            rw [List.length_append, List.length_map] at this
            have e2 : [oV s.low, oV s.high].length = 2 := rfl
            have e1 : [V.int 0].length = 1 := rfl
            omega)) fun v H5 e5 ⟨p, ev, hl⟩ => ⟨p, ev, SqL.of hl⟩)
        (fun i σ' => ∃ k6 k7 : Option V, σ' = [some (.ref a), some (.ref d), some (.ref sp), some (.ref sa), some v, st, k6, k7, none]) ⟨none, none, rfl⟩ ?_ ?_
      · rintro H5 e5 i x σ' hx ⟨k6, k7, rfl⟩
        have hS5 := hS4.mono e5
        obtain ⟨z, rfl⟩ : ∃ z, x = .int z := by
          have hm := List.mem_of_getElem? hx
          rcases List.mem_append.mp hm with hm | hm
          · exact ⟨0, List.mem_singleton.mp hm⟩
          · rw [List.map_id] at hm
            obtain ⟨hm, hn⟩ := List.mem_filter.mp hm
            have hn : x ≠ .non := by simpa using hn
            rcases List.mem_append.mp hm with hm | hm
            · rcases List.mem_cons.mp hm with hm | hm
              · cases e : s.low with
                | none => rw [e] at hm; exact absurd hm hn
                | some l => rw [e] at hm; exact ⟨l, hm⟩
              · have hm := List.mem_singleton.mp hm
                cases e : s.high with
                | none => rw [e] at hm; exact absurd hm hn
                | some l => rw [e] at hm; exact ⟨l, hm⟩
            · obtain ⟨h, _, rfl⟩ := List.mem_map.mp hm
              exact ⟨h, rfl⟩
        show Run _ _ [some (.ref a), some (.ref d), some (.ref sp), some (.ref sa), some v, st, some (.int z), k7, none] H5
        refine run_forN1 (K := K) (xs := [.int (z - 1), .int z, .int (z + 1)]) (evr_lst (by walk_at "tf ea") (Nat.le_of_ble_eq_true rfl) fun p H6 e6 hp => ⟨p, rfl, SqL.of hp⟩)
          (fun j σ2 => ∃ k7 : Option V, σ2 = [some (.ref a), some (.ref d), some (.ref sp), some (.ref sa), some v, st, some (.int z), k7, none]) ⟨k7, rfl⟩ ?_ ?_
        · rintro H6 e6 j y σ2 hy ⟨k7, rfl⟩
          obtain ⟨u, rfl⟩ : ∃ u, y = .int u := by
            match j, hy with
            | 0, hy => cases hy; exact ⟨_, rfl⟩
            | 1, hy => cases hy; exact ⟨_, rfl⟩
            | 2, hy => cases hy; exact ⟨_, rfl⟩
            | j + 3, hy => simp at hy
          have hS6 := hS5.mono e6
          show Run _ _ [some (.ref a), some (.ref d), some (.ref sp), some (.ref sa), some v, st, some (.int z), some (.int u), none] H6
          refine run_if (b := false) (et_same (Pa := fun x => x = .bl (decide (s.mem u))) (Pb := fun x => x = .bl (decide (s.mem u))) (evr_of (ev_call (ea_cons (ev_var rfl) (ea_cons (ev_var rfl) ea_nil)) (spv_shows hS6)) fun _ _ => rfl) (evr_of (ev_call (ea_cons (ev_var rfl) (ea_cons (ev_var rfl) ea_nil)) (spv_shows hS6)) fun _ _ => rfl) (fun x y h1 h2 => ⟨h1.trans h2.symm, .inr (.inl ⟨_, h1⟩)⟩)) ?_
          walk_at "tf no"
          refine run_if (b := false) (et_same (evr_call (ea_cons (ev_var rfl) (ea_cons (ev_var rfl) ea_nil)) (spr_classA hS6 cn (by omega))) (evr_call (ea_cons (ev_var rfl) (ea_cons (ev_var rfl) (ea_cons ev_c ea_nil))) (spr_class1 hS6 cn (by omega))) ?_) ?_
          · rintro x y ⟨r, rfl, h1⟩ ⟨r', rfl, h2⟩
            rw [clsA_uniq h1 h2]
            exact ⟨rfl, scV_o _⟩
          walk_at "tf no"
          refine run_if1 (b := false) (et_same (evr_call (ea_cons (ev_var rfl) (ea_cons (ev_var rfl) ea_nil)) (spr_classB hS6 cn (by omega))) (evr_call (ea_cons (ev_var rfl) (ea_cons (ev_var rfl) (ea_cons (ev_un ev_c ru_neg) ea_nil))) (spr_class2 hS6 cn (by omega))) ?_) ⟨fun z => (Bool.false_ne_true z).elim, fun _ => fun H7 e7 => ⟨⟨_, rfl⟩, e7⟩⟩
          rintro x y ⟨r, rfl, h1⟩ ⟨r', rfl, h2⟩
          rw [clsB_uniq h1 h2]
          exact ⟨rfl, scV_o _⟩
        · rintro σ2 ⟨k7, rfl⟩ H' e'
          exact ⟨⟨_, _, rfl⟩, e'⟩
      · rintro σ' ⟨k6, k7, rfl⟩
        walk_at "tf ret"
        exact fun H5 _ => q H5
end
end
/-! ### what the top has written, all defs together -/
theorem nsAll {K : PySem.W.Frag} {gA gE : Addr} {odA odE : Option Addr} {slA slE : Array (Option Value)} {tA : Tok} {nA nE : Nat}
    (lA : K.lookup gA = some ⟨.type "tuple", odA, .seq #[.none, .none, .none, .ref gE, .int 1 tA, .none] nA, slA⟩) (lE : K.lookup gE = some ⟨.type "tuple", odE, .seq #[] nE, slE⟩) (H : Hp) : ShAt K H gA ⟨none, none, [], 1⟩ :=
  ⟨gE, .inr ⟨_, _, _, lA, rfl, rfl, Nat.le_of_ble_eq_true rfl, .cons rfl (.cons rfl (.cons rfl (.cons rfl (.cons ⟨_, rfl⟩ (.cons rfl .nil)))))⟩, .inr ⟨_, _, _, lE, rfl, rfl, Nat.le_of_ble_eq_true rfl, .nil⟩⟩
theorem all_mk {l : PySem.W.OpenLaw} {w : World} {K : PySem.W.Frag} {h : Heap} {mg : Str → Option Value} {fa gA gE f1 f2 f3 f4 f5 f6 f7 f8 f9 f10 f11 f12 f13 f14 f15 f16 f17 f18 f19 f20 f21 f22 f23 f24 f25 f26 f27 f28 f29 f30 f31 f32 f33 : Addr} (X : K.In h) (G : h.Ns mainGlobals mg) (hfa : mg "law" = some (.ref fa))
    {odA odE od1 an1 od2 an2 od3 an3 od4 an4 od5 an5 od6 an6 od7 an7 od8 an8 od9 an9 od10 an10 od11 an11 od12 an12 od13 an13 od14 an14 od15 an15 od16 an16 od17 an17 od18 an18 od19 an19 od20 an20 od21 an21 od22 an22 od23 an23 od24 an24 od25 an25 od26 an26 od27 an27 od28 an28 od29 an29 od30 an30 od31 an31 od32 an32 od33 an33 : Option Addr} {slA slE sl1 sl2 sl3 sl4 sl5 sl6 sl7 sl8 sl9 sl10 sl11 sl12 sl13 sl14 sl15 sl16 sl17 sl18 sl19 sl20 sl21 sl22 sl23 sl24 sl25 sl26 sl27 sl28 sl29 sl30 sl31 sl32 sl33 : Array (Option Value)} {oc1 kV1 dc1 pm1 cd1 ct1 oc2 kV2 dc2 pm2 cd2 ct2 oc3 kV3 dc3 pm3 cd3 ct3 oc4 kV4 dc4 pm4 cd4 ct4 oc5 kV5 dc5 pm5 cd5 ct5 oc6 kV6 dc6 pm6 cd6 ct6 oc7 kV7 dc7 pm7 cd7 ct7 oc8 kV8 dc8 pm8 cd8 ct8 oc9 kV9 dc9 pm9 cd9 ct9 oc10 kV10 dc10 pm10 cd10 ct10 oc11 kV11 dc11 pm11 cd11 ct11 oc12 kV12 dc12 pm12 cd12 ct12 oc13 kV13 dc13 pm13 cd13 ct13 oc14 kV14 dc14 pm14 cd14 ct14 oc15 kV15 dc15 pm15 cd15 ct15 oc16 kV16 dc16 pm16 cd16 ct16 oc17 kV17 dc17 pm17 cd17 ct17 oc18 kV18 dc18 pm18 cd18 ct18 oc19 kV19 dc19 pm19 cd19 ct19 oc20 kV20 dc20 pm20 cd20 ct20 oc21 kV21 dc21 pm21 cd21 ct21 oc22 kV22 dc22 pm22 cd22 ct22 oc23 kV23 dc23 pm23 cd23 ct23 oc24 kV24 dc24 pm24 cd24 ct24 oc25 kV25 dc25 pm25 cd25 ct25 oc26 kV26 dc26 pm26 cd26 ct26 oc27 kV27 dc27 pm27 cd27 ct27 oc28 kV28 dc28 pm28 cd28 ct28 oc29 kV29 dc29 pm29 cd29 ct29 oc30 kV30 dc30 pm30 cd30 ct30 oc31 kV31 dc31 pm31 cd31 ct31 oc32 kV32 dc32 pm32 cd32 ct32 oc33 kV33 dc33 pm33 cd33 ct33 : Value} {tA : Tok} {nA nE : Nat}
    (a1 : PySem.W.nsIn K mainGlobals "passes" = some (some (.ref f1))) (l1 : K.lookup f1 = some ⟨oc1, od1, .func (PySem.W.fnOf "passes" "passes" (defArgs s_passes) (defBody s_passes) (defScope s_passes) .none kV1 dc1 pm1 an1 cd1 ct1), sl1⟩) (c1 : PySem.W.codeIn K cd1 "passes" = true) (k1 : PySem.W.keepIn K (.ref f1) = true)
    (a2 : PySem.W.nsIn K mainGlobals "_law_passes" = some (some (.ref f2))) (l2 : K.lookup f2 = some ⟨oc2, od2, .func (PySem.W.fnOf "_law_passes" "_law_passes" (defArgs s_law_passes) (defBody s_law_passes) (defScope s_law_passes) .none kV2 dc2 pm2 an2 cd2 ct2), sl2⟩) (c2 : PySem.W.codeIn K cd2 "_law_passes" = true) (k2 : PySem.W.keepIn K (.ref f2) = true)
    (a3 : PySem.W.nsIn K mainGlobals "rounded_up" = some (some (.ref f3))) (l3 : K.lookup f3 = some ⟨oc3, od3, .func (PySem.W.fnOf "rounded_up" "rounded_up" (defArgs s_rounded_up) (defBody s_rounded_up) (defScope s_rounded_up) .none kV3 dc3 pm3 an3 cd3 ct3), sl3⟩) (c3 : PySem.W.codeIn K cd3 "rounded_up" = true) (k3 : PySem.W.keepIn K (.ref f3) = true)
    (a4 : PySem.W.nsIn K mainGlobals "greater" = some (some (.ref f4))) (l4 : K.lookup f4 = some ⟨oc4, od4, .func (PySem.W.fnOf "greater" "greater" (defArgs s_greater) (defBody s_greater) (defScope s_greater) .none kV4 dc4 pm4 an4 cd4 ct4), sl4⟩) (c4 : PySem.W.codeIn K cd4 "greater" = true) (k4 : PySem.W.keepIn K (.ref f4) = true)
    (a5 : PySem.W.nsIn K mainGlobals "lesser" = some (some (.ref f5))) (l5 : K.lookup f5 = some ⟨oc5, od5, .func (PySem.W.fnOf "lesser" "lesser" (defArgs s_lesser) (defBody s_lesser) (defScope s_lesser) .none kV5 dc5 pm5 an5 cd5 ct5), sl5⟩) (c5 : PySem.W.codeIn K cd5 "lesser" = true) (k5 : PySem.W.keepIn K (.ref f5) = true)
    (a6 : PySem.W.nsIn K mainGlobals "turned" = some (some (.ref f6))) (l6 : K.lookup f6 = some ⟨oc6, od6, .func (PySem.W.fnOf "turned" "turned" (defArgs s_turned) (defBody s_turned) (defScope s_turned) .none kV6 dc6 pm6 an6 cd6 ct6), sl6⟩) (c6 : PySem.W.codeIn K cd6 "turned" = true) (k6 : PySem.W.keepIn K (.ref f6) = true)
    (a7 : PySem.W.nsIn K mainGlobals "shows_value" = some (some (.ref f7))) (l7 : K.lookup f7 = some ⟨oc7, od7, .func (PySem.W.fnOf "shows_value" "shows_value" (defArgs s_shows_value) (defBody s_shows_value) (defScope s_shows_value) .none kV7 dc7 pm7 an7 cd7 ct7), sl7⟩) (c7 : PySem.W.codeIn K cd7 "shows_value" = true) (k7 : PySem.W.keepIn K (.ref f7) = true)
    (a8 : PySem.W.nsIn K mainGlobals "is_shown" = some (some (.ref f8))) (l8 : K.lookup f8 = some ⟨oc8, od8, .func (PySem.W.fnOf "is_shown" "is_shown" (defArgs s_is_shown) (defBody s_is_shown) (defScope s_is_shown) .none kV8 dc8 pm8 an8 cd8 ct8), sl8⟩) (c8 : PySem.W.codeIn K cd8 "is_shown" = true) (k8 : PySem.W.keepIn K (.ref f8) = true)
    (a9 : PySem.W.nsIn K mainGlobals "_law_inside" = some (some (.ref f9))) (l9 : K.lookup f9 = some ⟨oc9, od9, .func (PySem.W.fnOf "_law_inside" "_law_inside" (defArgs s_law_inside) (defBody s_law_inside) (defScope s_law_inside) .none kV9 dc9 pm9 an9 cd9 ct9), sl9⟩) (c9 : PySem.W.codeIn K cd9 "_law_inside" = true) (k9 : PySem.W.keepIn K (.ref f9) = true)
    (a10 : PySem.W.nsIn K mainGlobals "step_out" = some (some (.ref f10))) (l10 : K.lookup f10 = some ⟨oc10, od10, .func (PySem.W.fnOf "step_out" "step_out" (defArgs s_step_out) (defBody s_step_out) (defScope s_step_out) .none kV10 dc10 pm10 an10 cd10 ct10), sl10⟩) (c10 : PySem.W.codeIn K cd10 "step_out" = true) (k10 : PySem.W.keepIn K (.ref f10) = true)
    (a11 : PySem.W.nsIn K mainGlobals "written" = some (some (.ref f11))) (l11 : K.lookup f11 = some ⟨oc11, od11, .func (PySem.W.fnOf "written" "written" (defArgs s_written) (defBody s_written) (defScope s_written) .none kV11 dc11 pm11 an11 cd11 ct11), sl11⟩) (c11 : PySem.W.codeIn K cd11 "written" = true) (k11 : PySem.W.keepIn K (.ref f11) = true)
    (a12 : PySem.W.nsIn K mainGlobals "sifted" = some (some (.ref f12))) (l12 : K.lookup f12 = some ⟨oc12, od12, .func (PySem.W.fnOf "sifted" "sifted" (defArgs s_sifted) (defBody s_sifted) (defScope s_sifted) .none kV12 dc12 pm12 an12 cd12 ct12), sl12⟩) (c12 : PySem.W.codeIn K cd12 "sifted" = true) (k12 : PySem.W.keepIn K (.ref f12) = true)
    (a13 : PySem.W.nsIn K mainGlobals "narrowed" = some (some (.ref f13))) (l13 : K.lookup f13 = some ⟨oc13, od13, .func (PySem.W.fnOf "narrowed" "narrowed" (defArgs s_narrowed) (defBody s_narrowed) (defScope s_narrowed) .none kV13 dc13 pm13 an13 cd13 ct13), sl13⟩) (c13 : PySem.W.codeIn K cd13 "narrowed" = true) (k13 : PySem.W.keepIn K (.ref f13) = true)
    (a14 : PySem.W.nsIn K mainGlobals "run_top" = some (some (.ref f14))) (l14 : K.lookup f14 = some ⟨oc14, od14, .func (PySem.W.fnOf "run_top" "run_top" (defArgs s_run_top) (defBody s_run_top) (defScope s_run_top) .none kV14 dc14 pm14 an14 cd14 ct14), sl14⟩) (c14 : PySem.W.codeIn K cd14 "run_top" = true) (k14 : PySem.W.keepIn K (.ref f14) = true)
    (a15 : PySem.W.nsIn K mainGlobals "run_bottom" = some (some (.ref f15))) (l15 : K.lookup f15 = some ⟨oc15, od15, .func (PySem.W.fnOf "run_bottom" "run_bottom" (defArgs s_run_bottom) (defBody s_run_bottom) (defScope s_run_bottom) .none kV15 dc15 pm15 an15 cd15 ct15), sl15⟩) (c15 : PySem.W.codeIn K cd15 "run_bottom" = true) (k15 : PySem.W.keepIn K (.ref f15) = true)
    (a16 : PySem.W.nsIn K mainGlobals "class_of" = some (some (.ref f16))) (l16 : K.lookup f16 = some ⟨oc16, od16, .func (PySem.W.fnOf "class_of" "class_of" (defArgs s_class_of) (defBody s_class_of) (defScope s_class_of) .none kV16 dc16 pm16 an16 cd16 ct16), sl16⟩) (c16 : PySem.W.codeIn K cd16 "class_of" = true) (k16 : PySem.W.keepIn K (.ref f16) = true)
    (a17 : PySem.W.nsIn K mainGlobals "class_above" = some (some (.ref f17))) (l17 : K.lookup f17 = some ⟨oc17, od17, .func (PySem.W.fnOf "class_above" "class_above" (defArgs s_class_above) (defBody s_class_above) (defScope s_class_above) .none kV17 dc17 pm17 an17 cd17 ct17), sl17⟩) (c17 : PySem.W.codeIn K cd17 "class_above" = true) (k17 : PySem.W.keepIn K (.ref f17) = true)
    (a18 : PySem.W.nsIn K mainGlobals "class_below" = some (some (.ref f18))) (l18 : K.lookup f18 = some ⟨oc18, od18, .func (PySem.W.fnOf "class_below" "class_below" (defArgs s_class_below) (defBody s_class_below) (defScope s_class_below) .none kV18 dc18 pm18 an18 cd18 ct18), sl18⟩) (c18 : PySem.W.codeIn K cd18 "class_below" = true) (k18 : PySem.W.keepIn K (.ref f18) = true)
    (a19 : PySem.W.nsIn K mainGlobals "count_limit" = some (some (.ref f19))) (l19 : K.lookup f19 = some ⟨oc19, od19, .func (PySem.W.fnOf "count_limit" "count_limit" (defArgs s_count_limit) (defBody s_count_limit) (defScope s_count_limit) .none kV19 dc19 pm19 an19 cd19 ct19), sl19⟩) (c19 : PySem.W.codeIn K cd19 "count_limit" = true) (k19 : PySem.W.keepIn K (.ref f19) = true)
    (a20 : PySem.W.nsIn K mainGlobals "token" = some (some (.ref f20))) (l20 : K.lookup f20 = some ⟨oc20, od20, .func (PySem.W.fnOf "token" "token" (defArgs s_token) (defBody s_token) (defScope s_token) .none kV20 dc20 pm20 an20 cd20 ct20), sl20⟩) (c20 : PySem.W.codeIn K cd20 "token" = true) (k20 : PySem.W.keepIn K (.ref f20) = true)
    (a21 : PySem.W.nsIn K mainGlobals "_law_top" = some (some (.ref f21))) (l21 : K.lookup f21 = some ⟨oc21, od21, .func (PySem.W.fnOf "_law_top" "_law_top" (defArgs s_law_top) (defBody s_law_top) (defScope s_law_top) .none kV21 dc21 pm21 an21 cd21 ct21), sl21⟩) (c21 : PySem.W.codeIn K cd21 "_law_top" = true) (k21 : PySem.W.keepIn K (.ref f21) = true)
    (a22 : PySem.W.nsIn K mainGlobals "_law_turned" = some (some (.ref f22))) (l22 : K.lookup f22 = some ⟨oc22, od22, .func (PySem.W.fnOf "_law_turned" "_law_turned" (defArgs s_law_turned) (defBody s_law_turned) (defScope s_law_turned) .none kV22 dc22 pm22 an22 cd22 ct22), sl22⟩) (c22 : PySem.W.codeIn K cd22 "_law_turned" = true) (k22 : PySem.W.keepIn K (.ref f22) = true)
    (a23 : PySem.W.nsIn K mainGlobals "_law_class" = some (some (.ref f23))) (l23 : K.lookup f23 = some ⟨oc23, od23, .func (PySem.W.fnOf "_law_class" "_law_class" (defArgs s_law_class) (defBody s_law_class) (defScope s_law_class) .none kV23 dc23 pm23 an23 cd23 ct23), sl23⟩) (c23 : PySem.W.codeIn K cd23 "_law_class" = true) (k23 : PySem.W.keepIn K (.ref f23) = true)
    (a24 : PySem.W.nsIn K mainGlobals "_law_limit" = some (some (.ref f24))) (l24 : K.lookup f24 = some ⟨oc24, od24, .func (PySem.W.fnOf "_law_limit" "_law_limit" (defArgs s_law_limit) (defBody s_law_limit) (defScope s_law_limit) .none kV24 dc24 pm24 an24 cd24 ct24), sl24⟩) (c24 : PySem.W.codeIn K cd24 "_law_limit" = true) (k24 : PySem.W.keepIn K (.ref f24) = true)
    (a25 : PySem.W.nsIn K mainGlobals "_law_nearest" = some (some (.ref f25))) (l25 : K.lookup f25 = some ⟨oc25, od25, .func (PySem.W.fnOf "_law_nearest" "_law_nearest" (defArgs s_law_nearest) (defBody s_law_nearest) (defScope s_law_nearest) .none kV25 dc25 pm25 an25 cd25 ct25), sl25⟩) (c25 : PySem.W.codeIn K cd25 "_law_nearest" = true) (k25 : PySem.W.keepIn K (.ref f25) = true)
    (a26 : PySem.W.nsIn K mainGlobals "_law_same" = some (some (.ref f26))) (l26 : K.lookup f26 = some ⟨oc26, od26, .func (PySem.W.fnOf "_law_same" "_law_same" (defArgs s_law_same) (defBody s_law_same) (defScope s_law_same) .none kV26 dc26 pm26 an26 cd26 ct26), sl26⟩) (c26 : PySem.W.codeIn K cd26 "_law_same" = true) (k26 : PySem.W.keepIn K (.ref f26) = true)
    (a27 : PySem.W.nsIn K mainGlobals "_law_sifted" = some (some (.ref f27))) (l27 : K.lookup f27 = some ⟨oc27, od27, .func (PySem.W.fnOf "_law_sifted" "_law_sifted" (defArgs s_law_sifted) (defBody s_law_sifted) (defScope s_law_sifted) .none kV27 dc27 pm27 an27 cd27 ct27), sl27⟩) (c27 : PySem.W.codeIn K cd27 "_law_sifted" = true) (k27 : PySem.W.keepIn K (.ref f27) = true)
    (a28 : PySem.W.nsIn K mainGlobals "_law_tidied" = some (some (.ref f28))) (l28 : K.lookup f28 = some ⟨oc28, od28, .func (PySem.W.fnOf "_law_tidied" "_law_tidied" (defArgs s_law_tidied) (defBody s_law_tidied) (defScope s_law_tidied) .none kV28 dc28 pm28 an28 cd28 ct28), sl28⟩) (c28 : PySem.W.codeIn K cd28 "_law_tidied" = true) (k28 : PySem.W.keepIn K (.ref f28) = true)
    (a29 : PySem.W.nsIn K mainGlobals "_law_draw" = some (some (.ref f29))) (l29 : K.lookup f29 = some ⟨oc29, od29, .func (PySem.W.fnOf "_law_draw" "_law_draw" (defArgs s_law_draw) (defBody s_law_draw) (defScope s_law_draw) .none kV29 dc29 pm29 an29 cd29 ct29), sl29⟩) (c29 : PySem.W.codeIn K cd29 "_law_draw" = true) (k29 : PySem.W.keepIn K (.ref f29) = true)
    (a30 : PySem.W.nsIn K mainGlobals "_law_next" = some (some (.ref f30))) (l30 : K.lookup f30 = some ⟨oc30, od30, .func (PySem.W.fnOf "_law_next" "_law_next" (defArgs s_law_next) (defBody s_law_next) (defScope s_law_next) .none kV30 dc30 pm30 an30 cd30 ct30), sl30⟩) (c30 : PySem.W.codeIn K cd30 "_law_next" = true) (k30 : PySem.W.keepIn K (.ref f30) = true)
    (a31 : PySem.W.nsIn K mainGlobals "_law_bound" = some (some (.ref f31))) (l31 : K.lookup f31 = some ⟨oc31, od31, .func (PySem.W.fnOf "_law_bound" "_law_bound" (defArgs s_law_bound) (defBody s_law_bound) (defScope s_law_bound) .none kV31 dc31 pm31 an31 cd31 ct31), sl31⟩) (c31 : PySem.W.codeIn K cd31 "_law_bound" = true) (k31 : PySem.W.keepIn K (.ref f31) = true)
    (a32 : PySem.W.nsIn K mainGlobals "_law_great" = some (some (.ref f32))) (l32 : K.lookup f32 = some ⟨oc32, od32, .func (PySem.W.fnOf "_law_great" "_law_great" (defArgs s_law_great) (defBody s_law_great) (defScope s_law_great) .none kV32 dc32 pm32 an32 cd32 ct32), sl32⟩) (c32 : PySem.W.codeIn K cd32 "_law_great" = true) (k32 : PySem.W.keepIn K (.ref f32) = true)
    (a33 : PySem.W.nsIn K mainGlobals "law" = some (some (.ref f33))) (l33 : K.lookup f33 = some ⟨oc33, od33, .func (PySem.W.fnOf "law" "law" (defArgs s_law) (defBody s_law) (defScope s_law) .none kV33 dc33 pm33 an33 cd33 ct33), sl33⟩) (c33 : PySem.W.codeIn K cd33 "law" = true) (k33 : PySem.W.keepIn K (.ref f33) = true)
    (aA : PySem.W.nsIn K mainGlobals "ALL" = some (some (.ref gA))) (lA : K.lookup gA = some ⟨.type "tuple", odA, .seq #[.none, .none, .none, .ref gE, .int 1 tA, .none] nA, slA⟩) (lE : K.lookup gE = some ⟨.type "tuple", odE, .seq #[] nE, slE⟩)
    (z1 : PySem.W.nsIn K mainGlobals "len" = some none) (z2 : PySem.W.nsIn K mainGlobals "abs" = some none) (z3 : PySem.W.nsIn K mainGlobals "max" = some none) (z4 : PySem.W.nsIn K mainGlobals "min" = some none) (z5 : PySem.W.nsIn K mainGlobals "int" = some none) (z6 : PySem.W.nsIn K mainGlobals "sorted" = some none) (z7 : PySem.W.nsIn K mainGlobals "tuple" = some none) (z8 : PySem.W.nsIn K mainGlobals "list" = some none) (z9 : PySem.W.nsIn K mainGlobals "isinstance" = some none) (z10 : PySem.W.nsIn K mainGlobals "all" = some none) (z11 : PySem.W.nsIn K mainGlobals "range" = some none) (z12 : PySem.W.nsIn K mainGlobals "bool" = some none) (z13 : PySem.W.nsIn K mainGlobals "str" = some none) :
    ∃ fd : FuncData, (∀ (s : Shared) (v : Value), BindsTo s fd ⟨[v], []⟩ [("_law_script", v)]) ∧ ∀ base : Heap, K.In base → base.Ns mainGlobals mg → FnOk l.prog w K mg base CX0 5 fa fd ["_law_script"] (spLaw K) := by
  have e := hfa.symm.trans (PySem.W.mg_of X G a33)
  cases e
  have GG : Glob mg := ⟨PySem.W.mg_none_of X G z1, PySem.W.mg_none_of X G z2, PySem.W.mg_none_of X G z3, PySem.W.mg_none_of X G z4, PySem.W.mg_none_of X G z5, PySem.W.mg_none_of X G z6, PySem.W.mg_none_of X G z7, PySem.W.mg_none_of X G z8, PySem.W.mg_none_of X G z9, PySem.W.mg_none_of X G z10, PySem.W.mg_none_of X G z11, PySem.W.mg_none_of X G z12, PySem.W.mg_none_of X G z13⟩
  have D_passes : Has K mg "passes" s_passes ["comparison", "value", "bound"] := ⟨_, _, fun_mk (st := s_passes) l1 c1 k1, PySem.W.mg_of X G a1, (fun_mk (st := s_passes) l1 c1 k1).binds (ps := ["comparison", "value", "bound"]) fun _ _ _ _ _ _ us hl => match us, hl with | [_, _, _], _ => rfl⟩
  have D_law_passes : Has K mg "_law_passes" s_law_passes ["_law_comparison", "_law_value", "_law_bound_here"] := ⟨_, _, fun_mk (st := s_law_passes) l2 c2 k2, PySem.W.mg_of X G a2, (fun_mk (st := s_law_passes) l2 c2 k2).binds (ps := ["_law_comparison", "_law_value", "_law_bound_here"]) fun _ _ _ _ _ _ us hl => match us, hl with | [_, _, _], _ => rfl⟩
  have D_rounded_up : Has K mg "rounded_up" s_rounded_up ["number", "divisor"] := ⟨_, _, fun_mk (st := s_rounded_up) l3 c3 k3, PySem.W.mg_of X G a3, (fun_mk (st := s_rounded_up) l3 c3 k3).binds (ps := ["number", "divisor"]) fun _ _ _ _ _ _ us hl => match us, hl with | [_, _], _ => rfl⟩
  have D_greater : Has K mg "greater" s_greater ["first", "second"] := ⟨_, _, fun_mk (st := s_greater) l4 c4 k4, PySem.W.mg_of X G a4, (fun_mk (st := s_greater) l4 c4 k4).binds (ps := ["first", "second"]) fun _ _ _ _ _ _ us hl => match us, hl with | [_, _], _ => rfl⟩
  have D_lesser : Has K mg "lesser" s_lesser ["first", "second"] := ⟨_, _, fun_mk (st := s_lesser) l5 c5 k5, PySem.W.mg_of X G a5, (fun_mk (st := s_lesser) l5 c5 k5).binds (ps := ["first", "second"]) fun _ _ _ _ _ _ us hl => match us, hl with | [_, _], _ => rfl⟩
  have D_turned : Has K mg "turned" s_turned ["comparison", "bound", "factor"] := ⟨_, _, fun_mk (st := s_turned) l6 c6 k6, PySem.W.mg_of X G a6, (fun_mk (st := s_turned) l6 c6 k6).binds (ps := ["comparison", "bound", "factor"]) fun _ _ _ _ _ _ us hl => match us, hl with | [_, _, _], _ => rfl⟩
  have D_shows_value : Has K mg "shows_value" s_shows_value ["show", "value"] := ⟨_, _, fun_mk (st := s_shows_value) l7 c7 k7, PySem.W.mg_of X G a7, (fun_mk (st := s_shows_value) l7 c7 k7).binds (ps := ["show", "value"]) fun _ _ _ _ _ _ us hl => match us, hl with | [_, _], _ => rfl⟩
  have D_is_shown : Has K mg "is_shown" s_is_shown ["show", "value"] := ⟨_, _, fun_mk (st := s_is_shown) l8 c8 k8, PySem.W.mg_of X G a8, (fun_mk (st := s_is_shown) l8 c8 k8).binds (ps := ["show", "value"]) fun _ _ _ _ _ _ us hl => match us, hl with | [_, _], _ => rfl⟩
  have D_law_inside : Has K mg "_law_inside" s_law_inside ["_law_show", "_law_value"] := ⟨_, _, fun_mk (st := s_law_inside) l9 c9 k9, PySem.W.mg_of X G a9, (fun_mk (st := s_law_inside) l9 c9 k9).binds (ps := ["_law_show", "_law_value"]) fun _ _ _ _ _ _ us hl => match us, hl with | [_, _], _ => rfl⟩
  have D_step_out : Has K mg "step_out" s_step_out ["holes", "value", "step"] := ⟨_, _, fun_mk (st := s_step_out) l10 c10 k10, PySem.W.mg_of X G a10, (fun_mk (st := s_step_out) l10 c10 k10).binds (ps := ["holes", "value", "step"]) fun _ _ _ _ _ _ us hl => match us, hl with | [_, _, _], _ => rfl⟩
  have D_written : Has K mg "written" s_written ["keys", "low", "high", "holes", "factor", "name"] := ⟨_, _, fun_mk (st := s_written) l11 c11 k11, PySem.W.mg_of X G a11, (fun_mk (st := s_written) l11 c11 k11).binds (ps := ["keys", "low", "high", "holes", "factor", "name"]) fun _ _ _ _ _ _ us hl => match us, hl with | [_, _, _, _, _, _], _ => rfl⟩
  have D_sifted : Has K mg "sifted" s_sifted ["show", "comparison", "bound"] := ⟨_, _, fun_mk (st := s_sifted) l12 c12 k12, PySem.W.mg_of X G a12, (fun_mk (st := s_sifted) l12 c12 k12).binds (ps := ["show", "comparison", "bound"]) fun _ _ _ _ _ _ us hl => match us, hl with | [_, _, _], _ => rfl⟩
  have D_narrowed : Has K mg "narrowed" s_narrowed ["show", "stage"] := ⟨_, _, fun_mk (st := s_narrowed) l13 c13 k13, PySem.W.mg_of X G a13, (fun_mk (st := s_narrowed) l13 c13 k13).binds (ps := ["show", "stage"]) fun _ _ _ _ _ _ us hl => match us, hl with | [_, _], _ => rfl⟩
  have D_run_top : Has K mg "run_top" s_run_top ["show", "value"] := ⟨_, _, fun_mk (st := s_run_top) l14 c14 k14, PySem.W.mg_of X G a14, (fun_mk (st := s_run_top) l14 c14 k14).binds (ps := ["show", "value"]) fun _ _ _ _ _ _ us hl => match us, hl with | [_, _], _ => rfl⟩
  have D_run_bottom : Has K mg "run_bottom" s_run_bottom ["show", "value"] := ⟨_, _, fun_mk (st := s_run_bottom) l15 c15 k15, PySem.W.mg_of X G a15, (fun_mk (st := s_run_bottom) l15 c15 k15).binds (ps := ["show", "value"]) fun _ _ _ _ _ _ us hl => match us, hl with | [_, _], _ => rfl⟩
  have D_class_of : Has K mg "class_of" s_class_of ["show", "value", "first", "last"] := ⟨_, _, fun_mk (st := s_class_of) l16 c16 k16, PySem.W.mg_of X G a16, (fun_mk (st := s_class_of) l16 c16 k16).binds (ps := ["show", "value", "first", "last"]) fun _ _ _ _ _ _ us hl => match us, hl with | [_, _, _, _], _ => rfl⟩
  have D_class_above : Has K mg "class_above" s_class_above ["show", "value"] := ⟨_, _, fun_mk (st := s_class_above) l17 c17 k17, PySem.W.mg_of X G a17, (fun_mk (st := s_class_above) l17 c17 k17).binds (ps := ["show", "value"]) fun _ _ _ _ _ _ us hl => match us, hl with | [_, _], _ => rfl⟩
  have D_class_below : Has K mg "class_below" s_class_below ["show", "value"] := ⟨_, _, fun_mk (st := s_class_below) l18 c18 k18, PySem.W.mg_of X G a18, (fun_mk (st := s_class_below) l18 c18 k18).binds (ps := ["show", "value"]) fun _ _ _ _ _ _ us hl => match us, hl with | [_, _], _ => rfl⟩
  have D_count_limit : Has K mg "count_limit" s_count_limit ["show"] := ⟨_, _, fun_mk (st := s_count_limit) l19 c19 k19, PySem.W.mg_of X G a19, (fun_mk (st := s_count_limit) l19 c19 k19).binds (ps := ["show"]) fun _ _ _ _ _ _ us hl => match us, hl with | [_], _ => rfl⟩
  have D_token : Has K mg "token" s_token ["show"] := ⟨_, _, fun_mk (st := s_token) l20 c20 k20, PySem.W.mg_of X G a20, (fun_mk (st := s_token) l20 c20 k20).binds (ps := ["show"]) fun _ _ _ _ _ _ us hl => match us, hl with | [_], _ => rfl⟩
  have D_law_top : Has K mg "_law_top" s_law_top ["_law_show", "_law_value"] := ⟨_, _, fun_mk (st := s_law_top) l21 c21 k21, PySem.W.mg_of X G a21, (fun_mk (st := s_law_top) l21 c21 k21).binds (ps := ["_law_show", "_law_value"]) fun _ _ _ _ _ _ us hl => match us, hl with | [_, _], _ => rfl⟩
  have D_law_turned : Has K mg "_law_turned" s_law_turned ["_law_show"] := ⟨_, _, fun_mk (st := s_law_turned) l22 c22 k22, PySem.W.mg_of X G a22, (fun_mk (st := s_law_turned) l22 c22 k22).binds (ps := ["_law_show"]) fun _ _ _ _ _ _ us hl => match us, hl with | [_], _ => rfl⟩
  have D_law_class : Has K mg "_law_class" s_law_class ["_law_show", "_law_value", "_law_step"] := ⟨_, _, fun_mk (st := s_law_class) l23 c23 k23, PySem.W.mg_of X G a23, (fun_mk (st := s_law_class) l23 c23 k23).binds (ps := ["_law_show", "_law_value", "_law_step"]) fun _ _ _ _ _ _ us hl => match us, hl with | [_, _, _], _ => rfl⟩
  have D_law_limit : Has K mg "_law_limit" s_law_limit ["_law_show"] := ⟨_, _, fun_mk (st := s_law_limit) l24 c24 k24, PySem.W.mg_of X G a24, (fun_mk (st := s_law_limit) l24 c24 k24).binds (ps := ["_law_show"]) fun _ _ _ _ _ _ us hl => match us, hl with | [_], _ => rfl⟩
  have D_law_nearest : Has K mg "_law_nearest" s_law_nearest ["_law_show"] := ⟨_, _, fun_mk (st := s_law_nearest) l25 c25 k25, PySem.W.mg_of X G a25, (fun_mk (st := s_law_nearest) l25 c25 k25).binds (ps := ["_law_show"]) fun _ _ _ _ _ _ us hl => match us, hl with | [_], _ => rfl⟩
  have D_law_same : Has K mg "_law_same" s_law_same ["_law_actual", "_law_due"] := ⟨_, _, fun_mk (st := s_law_same) l26 c26 k26, PySem.W.mg_of X G a26, (fun_mk (st := s_law_same) l26 c26 k26).binds (ps := ["_law_actual", "_law_due"]) fun _ _ _ _ _ _ us hl => match us, hl with | [_, _], _ => rfl⟩
  have D_law_sifted : Has K mg "_law_sifted" s_law_sifted ["_law_box", "_law_comparison", "_law_bound_here"] := ⟨_, _, fun_mk (st := s_law_sifted) l27 c27 k27, PySem.W.mg_of X G a27, (fun_mk (st := s_law_sifted) l27 c27 k27).binds (ps := ["_law_box", "_law_comparison", "_law_bound_here"]) fun _ _ _ _ _ _ us hl => match us, hl with | [_, _, _], _ => rfl⟩
  have D_law_tidied : Has K mg "_law_tidied" s_law_tidied ["_law_box"] := ⟨_, _, fun_mk (st := s_law_tidied) l28 c28 k28, PySem.W.mg_of X G a28, (fun_mk (st := s_law_tidied) l28 c28 k28).binds (ps := ["_law_box"]) fun _ _ _ _ _ _ us hl => match us, hl with | [_], _ => rfl⟩
  have D_law_draw : Has K mg "_law_draw" s_law_draw ["_law_script"] := ⟨_, _, fun_mk (st := s_law_draw) l29 c29 k29, PySem.W.mg_of X G a29, (fun_mk (st := s_law_draw) l29 c29 k29).binds (ps := ["_law_script"]) fun _ _ _ _ _ _ us hl => match us, hl with | [_], _ => rfl⟩
  have D_law_next : Has K mg "_law_next" s_law_next ["_law_draw_here", "_law_many"] := ⟨_, _, fun_mk (st := s_law_next) l30 c30 k30, PySem.W.mg_of X G a30, (fun_mk (st := s_law_next) l30 c30 k30).binds (ps := ["_law_draw_here", "_law_many"]) fun _ _ _ _ _ _ us hl => match us, hl with | [_, _], _ => rfl⟩
  have D_law_bound : Has K mg "_law_bound" s_law_bound ["_law_draw_here"] := ⟨_, _, fun_mk (st := s_law_bound) l31 c31 k31, PySem.W.mg_of X G a31, (fun_mk (st := s_law_bound) l31 c31 k31).binds (ps := ["_law_draw_here"]) fun _ _ _ _ _ _ us hl => match us, hl with | [_], _ => rfl⟩
  have D_law_great : Has K mg "_law_great" s_law_great ["_law_draw_here", "_law_most"] := ⟨_, _, fun_mk (st := s_law_great) l32 c32 k32, PySem.W.mg_of X G a32, (fun_mk (st := s_law_great) l32 c32 k32).binds (ps := ["_law_draw_here", "_law_most"]) fun _ _ _ _ _ _ us hl => match us, hl with | [_, _], _ => rfl⟩
  refine ⟨PySem.W.fnOf "law" "law" (defArgs s_law) (defBody s_law) (defScope s_law) .none kV33 dc33 pm33 an33 cd33 ct33, fun s v => .of_eq rfl, fun base _ _ => ?_⟩
  have C_passes := ok_passes (P := l.prog) (w := w) (base := base) D_passes
  have C_law_passes := ok_law_passes (P := l.prog) (w := w) (base := base) D_law_passes
  have C_rounded_up := ok_rounded_up (P := l.prog) (w := w) (base := base) D_rounded_up
  have C_greater := ok_greater (P := l.prog) (w := w) (base := base) GG D_greater
  have C_lesser := ok_lesser (P := l.prog) (w := w) (base := base) GG D_lesser
  have C_turned := ok_turned (P := l.prog) (w := w) (base := base) GG C_rounded_up D_turned
  have C_shows_value := ok_shows_value (P := l.prog) (w := w) (base := base) D_shows_value
  have C_is_shown := ok_is_shown (P := l.prog) (w := w) (base := base) C_shows_value D_is_shown
  have C_law_inside := ok_law_inside (P := l.prog) (w := w) (base := base) D_law_inside
  have C_step_out := ok_step_out (P := l.prog) (w := w) (base := base) D_step_out
  have C_written := ok_written (P := l.prog) (w := w) (base := base) GG D_written
  have C_sifted := ok_sifted (P := l.prog) (w := w) (base := base) C_passes C_turned C_written C_greater C_lesser D_sifted
  have C_narrowed := ok_narrowed (P := l.prog) (w := w) (base := base) C_sifted D_narrowed
  have C_run_top := ok_run_top (P := l.prog) (w := w) (base := base) C_is_shown C_step_out D_run_top
  have C_run_bottom := ok_run_bottom (P := l.prog) (w := w) (base := base) C_is_shown C_step_out D_run_bottom
  have C_class_of := ok_class_of (P := l.prog) (w := w) (base := base) C_is_shown D_class_of
  have C_class_above := ok_class_above (P := l.prog) (w := w) (base := base) C_class_of C_run_top C_run_bottom D_class_above
  have C_class_below := ok_class_below (P := l.prog) (w := w) (base := base) C_class_of C_run_top C_run_bottom D_class_below
  have C_count_limit := ok_count_limit (P := l.prog) (w := w) (base := base) GG D_count_limit
  have C_token := ok_token (P := l.prog) (w := w) (base := base) GG C_step_out D_token
  have C_law_top := ok_law_top (P := l.prog) (w := w) (base := base) GG C_law_inside D_law_top
  have C_law_turned := ok_law_turned (P := l.prog) (w := w) (base := base) GG D_law_turned
  have C_law_class := ok_law_class (P := l.prog) (w := w) (base := base) C_law_turned C_law_inside C_law_top D_law_class
  have C_law_limit := ok_law_limit (P := l.prog) (w := w) (base := base) GG D_law_limit
  have C_law_nearest := ok_law_nearest (P := l.prog) (w := w) (base := base) GG C_law_inside D_law_nearest
  have C_law_same := ok_law_same (P := l.prog) (w := w) (base := base) GG D_law_same
  have C_law_sifted := ok_law_sifted (P := l.prog) (w := w) (base := base) GG C_law_passes D_law_sifted
  have C_law_tidied := ok_law_tidied (P := l.prog) (w := w) (base := base) GG D_law_tidied
  have C_law_draw := ok_law_draw (P := l.prog) (w := w) (base := base) GG D_law_draw
  have C_law_next := ok_law_next (P := l.prog) (w := w) (base := base) GG D_law_next
  have C_law_bound := ok_law_bound (P := l.prog) (w := w) (base := base) GG C_law_next D_law_bound
  have C_law_great := ok_law_great (P := l.prog) (w := w) (base := base) GG C_law_bound C_law_next C_law_sifted C_law_tidied D_law_great
  exact ok_law (fun_mk (st := s_law) l33 c33 k33) GG (PySem.W.mg_of X G aA) (nsAll lA lE) C_law_draw C_law_great C_narrowed C_law_same C_token C_law_nearest C_count_limit C_law_limit C_is_shown C_law_inside C_class_above C_law_class C_class_below
end TF
open PySem PySem.W PyProof.Rows
set_option maxHeartbeats 0 in
theorem PySem.Challenge.cw_tidefold_k70_great_bounds_and_several_ho_holds : PySem.Challenge.rw_tidefold_k70_great_bounds_and_several_ho.Holds := by
  w_on; o_law; k_head; (case hw => w_witness2)
  k_fill
  refine L2.walk_of (l := PySem.Challenge.rw_tidefold_k70_great_bounds_and_several_ho) (n := 63) (k := 5) (x := "_law_script") (CX := fun _ => L2.CX0) (sp := fun w => TF.spLaw _) rfl (by decide) rfl ⟨rfl, by decide, by decide⟩ (fun w h Y => PySem.W.kIn_of Y) ?F (fun _ _ a ns hl _ hS => ⟨a, ns, rfl, hS, fun _ => rfl⟩) (fun _ _ _ _ _ h => h)
  case F =>
    intro w mg fa h KX G hmg
    refine' TF.all_mk KX G hmg ?a1 ?l1 ?c1 ?k1 ?a2 ?l2 ?c2 ?k2 ?a3 ?l3 ?c3 ?k3 ?a4 ?l4 ?c4 ?k4 ?a5 ?l5 ?c5 ?k5 ?a6 ?l6 ?c6 ?k6 ?a7 ?l7 ?c7 ?k7 ?a8 ?l8 ?c8 ?k8 ?a9 ?l9 ?c9 ?k9 ?a10 ?l10 ?c10 ?k10 ?a11 ?l11 ?c11 ?k11 ?a12 ?l12 ?c12 ?k12 ?a13 ?l13 ?c13 ?k13 ?a14 ?l14 ?c14 ?k14 ?a15 ?l15 ?c15 ?k15 ?a16 ?l16 ?c16 ?k16 ?a17 ?l17 ?c17 ?k17 ?a18 ?l18 ?c18 ?k18 ?a19 ?l19 ?c19 ?k19 ?a20 ?l20 ?c20 ?k20 ?a21 ?l21 ?c21 ?k21 ?a22 ?l22 ?c22 ?k22 ?a23 ?l23 ?c23 ?k23 ?a24 ?l24 ?c24 ?k24 ?a25 ?l25 ?c25 ?k25 ?a26 ?l26 ?c26 ?k26 ?a27 ?l27 ?c27 ?k27 ?a28 ?l28 ?c28 ?k28 ?a29 ?l29 ?c29 ?k29 ?a30 ?l30 ?c30 ?k30 ?a31 ?l31 ?c31 ?k31 ?a32 ?l32 ?c32 ?k32 ?a33 ?l33 ?c33 ?k33 ?aA ?lA ?lE ?z1 ?z2 ?z3 ?z4 ?z5 ?z6 ?z7 ?z8 ?z9 ?z10 ?z11 ?z12 ?z13
    (case a1 => k_is)
    (case l1 => k_is)
    (case c1 => k_is)
    (case k1 => k_is)
    (case a2 => k_is)
    (case l2 => k_is)
    (case c2 => k_is)
    (case k2 => k_is)
    (case a3 => k_is)
    (case l3 => k_is)
    (case c3 => k_is)
    (case k3 => k_is)
    (case a4 => k_is)
    (case l4 => k_is)
    (case c4 => k_is)
    (case k4 => k_is)
    (case a5 => k_is)
    (case l5 => k_is)
    (case c5 => k_is)
    (case k5 => k_is)
    (case a6 => k_is)
    (case l6 => k_is)
    (case c6 => k_is)
    (case k6 => k_is)
    (case a7 => k_is)
    (case l7 => k_is)
    (case c7 => k_is)
    (case k7 => k_is)
    (case a8 => k_is)
    (case l8 => k_is)
    (case c8 => k_is)
    (case k8 => k_is)
    (case a9 => k_is)
    (case l9 => k_is)
    (case c9 => k_is)
    (case k9 => k_is)
    (case a10 => k_is)
    (case l10 => k_is)
    (case c10 => k_is)
    (case k10 => k_is)
    (case a11 => k_is)
    (case l11 => k_is)
    (case c11 => k_is)
    (case k11 => k_is)
    (case a12 => k_is)
    (case l12 => k_is)
    (case c12 => k_is)
    (case k12 => k_is)
    (case a13 => k_is)
    (case l13 => k_is)
    (case c13 => k_is)
    (case k13 => k_is)
    (case a14 => k_is)
    (case l14 => k_is)
    (case c14 => k_is)
    (case k14 => k_is)
    (case a15 => k_is)
    (case l15 => k_is)
    (case c15 => k_is)
    (case k15 => k_is)
    (case a16 => k_is)
    (case l16 => k_is)
    (case c16 => k_is)
    (case k16 => k_is)
    (case a17 => k_is)
    (case l17 => k_is)
    (case c17 => k_is)
    (case k17 => k_is)
    (case a18 => k_is)
    (case l18 => k_is)
    (case c18 => k_is)
    (case k18 => k_is)
    (case a19 => k_is)
    (case l19 => k_is)
    (case c19 => k_is)
    (case k19 => k_is)
    (case a20 => k_is)
    (case l20 => k_is)
    (case c20 => k_is)
    (case k20 => k_is)
    (case a21 => k_is)
    (case l21 => k_is)
    (case c21 => k_is)
    (case k21 => k_is)
    (case a22 => k_is)
    (case l22 => k_is)
    (case c22 => k_is)
    (case k22 => k_is)
    (case a23 => k_is)
    (case l23 => k_is)
    (case c23 => k_is)
    (case k23 => k_is)
    (case a24 => k_is)
    (case l24 => k_is)
    (case c24 => k_is)
    (case k24 => k_is)
    (case a25 => k_is)
    (case l25 => k_is)
    (case c25 => k_is)
    (case k25 => k_is)
    (case a26 => k_is)
    (case l26 => k_is)
    (case c26 => k_is)
    (case k26 => k_is)
    (case a27 => k_is)
    (case l27 => k_is)
    (case c27 => k_is)
    (case k27 => k_is)
    (case a28 => k_is)
    (case l28 => k_is)
    (case c28 => k_is)
    (case k28 => k_is)
    (case a29 => k_is)
    (case l29 => k_is)
    (case c29 => k_is)
    (case k29 => k_is)
    (case a30 => k_is)
    (case l30 => k_is)
    (case c30 => k_is)
    (case k30 => k_is)
    (case a31 => k_is)
    (case l31 => k_is)
    (case c31 => k_is)
    (case k31 => k_is)
    (case a32 => k_is)
    (case l32 => k_is)
    (case c32 => k_is)
    (case k32 => k_is)
    (case a33 => k_is)
    (case l33 => k_is)
    (case c33 => k_is)
    (case k33 => k_is)
    (case aA => k_is)
    (case lA => k_is)
    (case lE => k_is)
    (case z1 => k_is)
    (case z2 => k_is)
    (case z3 => k_is)
    (case z4 => k_is)
    (case z5 => k_is)
    (case z6 => k_is)
    (case z7 => k_is)
    (case z8 => k_is)
    (case z9 => k_is)
    (case z10 => k_is)
    (case z11 => k_is)
    (case z12 => k_is)
    (case z13 => k_is)
