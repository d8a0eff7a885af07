import PyProof.Rows.All
import Wide.All
import OpenK.AllK
import Wide.FinOn
import KE.KStateDown
import HandS.ForMost
import HandS.Exc
import HandS.ExcOwn
import HandS.TryOnly
import HandS.WordsExc
import HandS.Defaults
import HandS.HeadHook1
import HandS.HeadHook2
import PySem.Challenge.RW_purse_k54_whole_text_years
import HandS.Deep
import KE.DataFind
import KE.GoesMore
import KE.GoesZip
import KE.GoesEnum
import HandS.Base
import HandS.Call
import HandS.Ends
import HandS.Head0
import HandS.Head1
import HandS.Head2
import HandS.HeadEnd
import HandS.Walk
import HandS.Wide
import HandS.WideBits
import HandS.Codes
import HandS.IsInst
import HandS.Small
set_option Elab.async false
set_option linter.all false
set_option maxRecDepth 100000
set_option maxHeartbeats 4000000
/-! EpMath: the numbers: lcm, levels, sums, the choosing. No program in sight. -/
namespace Ep
/-! ### lists by a function -/
def vec {α : Type} (n : Nat) (f : Nat → α) : List α := (List.range n).map f
theorem vec_length {α : Type} (n : Nat) (f : Nat → α) : (vec n f).length = n := by unfold vec; rw [List.length_map, List.length_range]
theorem vec_zero {α : Type} (f : Nat → α) : vec 0 f = [] := rfl
theorem vec_succ {α : Type} (n : Nat) (f : Nat → α) : vec (n + 1) f = vec n f ++ [f n] := by unfold vec; rw [List.range_succ, List.map_append]; rfl
theorem vec_get {α : Type} {n : Nat} {f : Nat → α} {i : Nat} (h : i < n) : (vec n f)[i]? = some (f i) := by
  unfold vec
  rw [List.getElem?_map, List.getElem?_range h]; rfl
theorem vec_get_none {α : Type} {n : Nat} {f : Nat → α} {i : Nat} (h : ¬ i < n) : (vec n f)[i]? = none := List.getElem?_eq_none_iff.mpr (by rw [vec_length]; omega)
theorem vec_get_some {α : Type} {n : Nat} {f : Nat → α} {i : Nat} {x : α} (h : (vec n f)[i]? = some x) : i < n ∧ x = f i := by
  by_cases hi : i < n
  · rw [vec_get hi] at h
    exact ⟨hi, (Option.some.inj h).symm⟩
  · rw [vec_get_none hi] at h
    cases h
theorem vec_map {α β : Type} (n : Nat) (f : Nat → α) (g : α → β) : (vec n f).map g = vec n fun i => g (f i) := by
  unfold vec
  rw [List.map_map]; rfl
theorem vec_congr {α : Type} {n : Nat} {f g : Nat → α} (h : ∀ i, i < n → f i = g i) : vec n f = vec n g := by
  unfold vec
  exact List.map_congr_left fun i hi => h i (List.mem_range.mp hi)
theorem vec_of {α : Type} (l : List α) (d : α) : l = vec l.length fun i => l.getD i d := by
  apply List.ext_getElem?
  intro i
  by_cases h : i < l.length
  · rw [vec_get h, List.getD_eq_getElem?_getD, List.getElem?_eq_getElem h]; rfl
  · rw [vec_get_none h, List.getElem?_eq_none_iff.mpr (by omega)]
theorem vec_mem {α : Type} {n : Nat} {f : Nat → α} {x : α} : x ∈ vec n f ↔ ∃ i, i < n ∧ f i = x := by
  unfold vec
  rw [List.mem_map]
  constructor
  · rintro ⟨i, h, e⟩
    exact ⟨i, List.mem_range.mp h, e⟩
  · rintro ⟨i, h, e⟩
    exact ⟨i, List.mem_range.mpr h, e⟩
theorem vec_take {α : Type} {n : Nat} {f : Nat → α} {i : Nat} (h : i ≤ n) : (vec n f).take i = vec i f := by
  unfold vec
  rw [← List.map_take, List.take_range, Nat.min_eq_left h]
theorem vec_inj {α : Type} {n : Nat} {f g : Nat → α} (h : vec n f = vec n g) {i : Nat} (hi : i < n) : f i = g i := by
  have e : (vec n f)[i]? = (vec n g)[i]? := by rw [h]
  rw [vec_get hi, vec_get hi] at e
  exact Option.some.inj e

/-! ### sums -/
def sumTo (n : Nat) (f : Nat → Int) : Int := (vec n f).sum
theorem sum_snoc (l : List Int) (x : Int) : (l ++ [x]).sum = l.sum + x := by
  induction l with
  | nil => simp
  | cons a r ih =>
    rw [List.cons_append, List.sum_cons, List.sum_cons, ih]; omega
theorem sumTo_zero (f : Nat → Int) : sumTo 0 f = 0 := rfl
theorem sumTo_succ (n : Nat) (f : Nat → Int) : sumTo (n + 1) f = sumTo n f + f n := by unfold sumTo; rw [vec_succ, sum_snoc]
theorem sumTo_congr {n : Nat} {f g : Nat → Int} (h : ∀ i, i < n → f i = g i) : sumTo n f = sumTo n g := by unfold sumTo; rw [vec_congr h]
theorem sumTo_add (n : Nat) (f g : Nat → Int) : sumTo n (fun i => f i + g i) = sumTo n f + sumTo n g := by
  induction n with
  | zero => rfl
  | succ n ih => rw [sumTo_succ, sumTo_succ, sumTo_succ, ih]; omega
theorem sumTo_sub (n : Nat) (f g : Nat → Int) : sumTo n (fun i => f i - g i) = sumTo n f - sumTo n g := by
  induction n with
  | zero => rfl
  | succ n ih => rw [sumTo_succ, sumTo_succ, sumTo_succ, ih]; omega
theorem sumTo_mul (n : Nat) (f : Nat → Int) (c : Int) : sumTo n (fun i => f i * c) = sumTo n f * c := by
  induction n with
  | zero => show (0 : Int) = 0 * c; rw [Int.zero_mul]
  | succ n ih => rw [sumTo_succ, sumTo_succ, ih, Int.add_mul]
theorem sumTo_const (n : Nat) (c : Int) : sumTo n (fun _ => c) = (n : Int) * c := by
  induction n with
  | zero => show (0 : Int) = ((0 : Nat) : Int) * c; simp
  | succ n ih => rw [sumTo_succ, ih]; rw [Int.natCast_succ, Int.add_mul, Int.one_mul]
theorem sumTo_nonneg {n : Nat} {f : Nat → Int} (h : ∀ i, i < n → 0 ≤ f i) : 0 ≤ sumTo n f := by
  induction n with
  | zero => exact Int.le_refl 0
  | succ n ih =>
    rw [sumTo_succ]
    have h1 := ih fun i hi => h i (by omega)
    have h2 := h n (by omega)
    omega
theorem sumTo_le {n : Nat} {f g : Nat → Int} (h : ∀ i, i < n → f i ≤ g i) : sumTo n f ≤ sumTo n g := by
  induction n with
  | zero => exact Int.le_refl 0
  | succ n ih =>
    rw [sumTo_succ, sumTo_succ]
    have h1 := ih fun i hi => h i (by omega)
    have h2 := h n (by omega)
    omega
theorem le_sumTo {n : Nat} {f : Nat → Int} (h : ∀ i, i < n → 0 ≤ f i) {i : Nat} (hi : i < n) : f i ≤ sumTo n f := by
  induction n with
  | zero => omega
  | succ n ih =>
    rw [sumTo_succ]
    by_cases e : i = n
    · subst e
      have h1 := sumTo_nonneg (n := i) (f := f) fun j hj => h j (by omega)
      omega
    · have h1 := ih (fun j hj => h j (by omega)) (by omega)
      have h2 := h n (by omega)
      omega
theorem dvd_sumTo {n : Nat} {f : Nat → Int} {c : Int} (h : ∀ i, i < n → c ∣ f i) : c ∣ sumTo n f := by
  induction n with
  | zero => exact Int.dvd_zero c
  | succ n ih =>
    rw [sumTo_succ]
    exact Int.dvd_add (ih fun i hi => h i (by omega)) (h n (by omega))
/-- the sum over a filtered range -/
theorem sum_filter (l : List Nat) (p : Nat → Bool) (f : Nat → Int) : ((l.filter p).map f).sum = (l.map fun i => if p i = true then f i else 0).sum := by
  induction l with
  | nil => rfl
  | cons a r ih =>
    rw [List.filter_cons]
    by_cases h : p a = true
    · rw [if_pos h, List.map_cons, List.sum_cons, ih, List.map_cons, List.sum_cons, if_pos h]
    · rw [if_neg h, ih, List.map_cons, List.sum_cons, if_neg h]; omega
theorem sumTo_filter (n : Nat) (p : Nat → Bool) (f : Nat → Int) : (((List.range n).filter p).map f).sum = sumTo n fun i => if p i = true then f i else 0 := sum_filter _ _ _

/-! ### pigeons -/
theorem mem_erase_of {α : Type} [DecidableEq α] {l : List α} {a b : α} (h : a ∈ l) (n : a ≠ b) : a ∈ l.erase b := (List.mem_erase_of_ne n).mpr h
theorem pigeon {α : Type} [DecidableEq α] : ∀ {l m : List α}, l.Nodup → (∀ x, x ∈ l → x ∈ m) → l.length ≤ m.length
  | [], _, _, _ => Nat.zero_le _
  | a :: r, m, hn, h => by
    obtain ⟨h1, h2⟩ := List.nodup_cons.mp hn
    have ha : a ∈ m := h a (List.mem_cons_self ..)
    have ih := pigeon (m := m.erase a) h2 fun x hx => mem_erase_of (h x (List.mem_cons_of_mem _ hx)) fun e => h1 (e ▸ hx)
    have e := List.length_erase_of_mem ha
    have p : 0 < m.length := List.length_pos_of_mem ha
    rw [List.length_cons]
    omega
theorem pigeon_lt {l : List Nat} {w : Nat} (hn : l.Nodup) (h : ∀ x, x ∈ l → x < w) : l.length ≤ w := by
  have q := pigeon (m := List.range w) hn fun x hx => List.mem_range.mpr (h x hx)
  rw [List.length_range] at q
  exact q

/-! ### lcm -/
def lcmTo : Nat → Nat
  | 0 => 1
  | n + 1 => Nat.lcm (lcmTo n) (n + 1)
theorem lcmTo_pos : ∀ n, 0 < lcmTo n
  | 0 => Nat.one_pos
  | n + 1 => Nat.lcm_pos (lcmTo_pos n) (Nat.succ_pos n)
theorem dvd_lcmTo : ∀ {n m : Nat}, 1 ≤ m → m ≤ n → m ∣ lcmTo n
  | 0, m, h1, h2 => by omega
  | n + 1, m, h1, h2 => by
    by_cases e : m = n + 1
    · subst e
      exact Nat.dvd_lcm_right _ _
    · exact Nat.dvd_trans (dvd_lcmTo h1 (by omega)) (Nat.dvd_lcm_left _ _)
theorem lcmTo_le : ∀ {n : Nat}, n ≤ 6 → lcmTo n ≤ 60
  | 0, _ => by decide
  | 1, _ => by decide
  | 2, _ => by decide
  | 3, _ => by decide
  | 4, _ => by decide
  | 5, _ => by decide
  | 6, _ => by decide
  | n + 7, h => by omega
/-- the grains of a coin -/
def gr (v w : Nat) : Nat := lcmTo v ^ (w + 1)
theorem gr_pos (v w : Nat) : 0 < gr v w := Nat.pow_pos (lcmTo_pos v)
theorem gr_le {v w : Nat} (hv : v ≤ 6) (hw : w ≤ 6) : gr v w ≤ 2799360000000 := by
  have h1 : gr v w ≤ 60 ^ (w + 1) := Nat.pow_le_pow_left (lcmTo_le hv) _
  have h2 : 60 ^ (w + 1) ≤ 60 ^ 7 := Nat.pow_le_pow_right (by decide) (by omega)
  have h3 : (60 : Nat) ^ 7 = 2799360000000 := by decide
  omega

/-! ### levels -/
def mn (a b : Int) : Int := if b < a then b else a
theorem mn_le_left (a b : Int) : mn a b ≤ a := by unfold mn; split <;> omega
theorem mn_le_right (a b : Int) : mn a b ≤ b := by unfold mn; split <;> omega
theorem mn_nonneg {a b : Int} (ha : 0 ≤ a) (hb : 0 ≤ b) : 0 ≤ mn a b := by unfold mn; split <;> omega
theorem mn_dvd {a b c : Int} (ha : c ∣ a) (hb : c ∣ b) : c ∣ mn a b := by unfold mn; split <;> assumption
def lev : List Int → Int → Option Int
  | [], _ => none
  | b :: r, l => if l ≤ b * ((r.length : Int) + 1) then some ((l + ((r.length : Int) + 1) - 1) / ((r.length : Int) + 1)) else lev r (l - b)
theorem sum_map_const {s : List Int} {f : Int → Int} {k : Int} (h : ∀ c, c ∈ s → f c = k) : (s.map f).sum = (s.length : Int) * k := by
  induction s with
  | nil => simp
  | cons a r ih =>
    have h1 := ih fun c hc => h c (List.mem_cons_of_mem _ hc)
    rw [List.map_cons, List.sum_cons, h1, h a (List.mem_cons_self ..), List.length_cons, Int.natCast_succ, Int.add_mul, Int.one_mul]
    omega
theorem sum_map_le {s : List Int} {f : Int → Int} {k : Int} (h : ∀ c, c ∈ s → f c ≤ k) : (s.map f).sum ≤ (s.length : Int) * k := by
  induction s with
  | nil => simp
  | cons a r ih =>
    have h1 := ih fun c hc => h c (List.mem_cons_of_mem _ hc)
    have h2 := h a (List.mem_cons_self ..)
    rw [List.map_cons, List.sum_cons, List.length_cons, Int.natCast_succ, Int.add_mul, Int.one_mul]
    omega
theorem ceil_exact {m q : Int} (hm : 0 < m) : (m * q + m - 1) / m = q := by
  have e : m * q + m - 1 = (m - 1) + q * m := by rw [Int.mul_comm]; omega
  rw [e, Int.add_mul_ediv_right _ _ (by omega), Int.ediv_eq_zero_of_lt (by omega) (by omega)]
  omega
theorem lev_some {L N : Int} (hN : 0 < N) : ∀ {s : List Int} {l x : Int}, (∀ m : Nat, 1 ≤ m → m ≤ s.length → (m : Int) ∣ L) → (∀ b, b ∈ s → L * N ∣ b ∧ 0 ≤ b) → s.Pairwise (· ≤ ·) → L * N ∣ l → 0 < l → lev s l = some x →
    N ∣ x ∧ 0 < x ∧ (s.map (mn · x)).sum = l
  | [], l, x, _, _, _, _, _, h => by cases h
  | b :: r, l, x, hL, hb, hs, hl, h0, h => by
    have hm : (0 : Int) < (r.length : Int) + 1 := by omega
    obtain ⟨p1, p2⟩ := List.pairwise_cons.mp hs
    have h' : (if l ≤ b * ((r.length : Int) + 1) then some ((l + ((r.length : Int) + 1) - 1) / ((r.length : Int) + 1)) else lev r (l - b)) = some x := h
    by_cases c : l ≤ b * ((r.length : Int) + 1)
    · rw [if_pos c] at h'
      have ex := Option.some.inj h'
      obtain ⟨L', eL⟩ : ((r.length : Int) + 1) ∣ L := by
        have q := hL (r.length + 1) (by omega) (by rw [List.length_cons]; omega)
        rw [Int.natCast_succ] at q
        exact q
      obtain ⟨t, et⟩ := hl
      have el : l = ((r.length : Int) + 1) * (L' * N * t) := by
        rw [et, eL]
        simp only [Int.mul_assoc]
      have eq : x = L' * N * t := by
        rw [← ex, el]
        exact ceil_exact hm
      have hx : b ≥ x := by
        rw [el, ← eq, Int.mul_comm b] at c
        exact Int.le_of_mul_le_mul_left c hm
      refine ⟨⟨L' * t, by rw [eq]; simp only [Int.mul_assoc, Int.mul_left_comm]⟩, ?_, ?_⟩
      · rw [el, ← eq] at h0
        exact Int.lt_of_mul_lt_mul_left (by rw [Int.mul_zero]; exact h0) (show (0 : Int) ≤ (r.length : Int) + 1 by omega)
      · have e2 : ∀ y, y ∈ b :: r → mn y x = x := fun y hy => by
          have hy2 : b ≤ y := by
            rcases List.mem_cons.mp hy with e | e
            · omega
            · exact p1 y e
          unfold mn
          split <;> omega
        rw [sum_map_const e2, List.length_cons, Int.natCast_succ, el, ← eq]
    · rw [if_neg c] at h'
      obtain ⟨d1, d2⟩ := hb b (List.mem_cons_self ..)
      have hbm : b ≤ b * ((r.length : Int) + 1) := by
        rw [Int.mul_add, Int.mul_one]
        have := Int.mul_nonneg d2 (Int.natCast_nonneg r.length)
        omega
      obtain ⟨i1, i2, i3⟩ := lev_some hN (fun m h1 h2 => hL m h1 (by rw [List.length_cons]; omega)) (fun y hy => hb y (List.mem_cons_of_mem _ hy)) p2 (Int.dvd_sub hl d1) (by omega) h'
      refine ⟨i1, i2, ?_⟩
      have hbx : b ≤ x := by
        rcases (show x < b ∨ b ≤ x by omega) with q | q
        · exfalso
          have u : (r.map (mn · x)).sum ≤ (r.length : Int) * b := sum_map_le fun y _ => by
            have := mn_le_right y x
            omega
          rw [i3] at u
          have v : b * ((r.length : Int) + 1) = (r.length : Int) * b + b := by rw [Int.mul_add, Int.mul_one, Int.mul_comm]
          omega
        · exact q
      have e3 : mn b x = b := by unfold mn; split <;> omega
      rw [List.map_cons, List.sum_cons, i3, e3]
      omega
theorem lev_none : ∀ {s : List Int} {l : Int}, 0 < l → lev s l = none → (∀ b, b ∈ s → 0 ≤ b) → s.sum < l
  | [], l, h0, _, _ => by simpa using h0
  | b :: r, l, h0, h, hb => by
    have h' : (if l ≤ b * ((r.length : Int) + 1) then some ((l + ((r.length : Int) + 1) - 1) / ((r.length : Int) + 1)) else lev r (l - b)) = none := h
    by_cases c : l ≤ b * ((r.length : Int) + 1)
    · rw [if_pos c] at h'
      cases h'
    · rw [if_neg c] at h'
      have d2 := hb b (List.mem_cons_self ..)
      have hbm : b ≤ b * ((r.length : Int) + 1) := by
        rw [Int.mul_add, Int.mul_one]
        have := Int.mul_nonneg d2 (Int.natCast_nonneg r.length)
        omega
      have ih := lev_none (l := l - b) (by omega) h' fun y hy => hb y (List.mem_cons_of_mem _ hy)
      rw [List.sum_cons]
      omega
theorem perm_sum {s t : List Int} (p : s.Perm t) : s.sum = t.sum := by
  induction p with
  | nil => rfl
  | cons x _ ih => rw [List.sum_cons, List.sum_cons, ih]
  | swap x y l => simp only [List.sum_cons]; omega
  | trans _ _ i1 i2 => exact i1.trans i2
/-- what level_for hands back -/
def LevOk (ns : List Int) (price : Int) (r : Option Int) : Prop := ∃ s : List Int, s.Perm ns ∧ s.Pairwise (· ≤ ·) ∧ r = lev s price
theorem LevOk.some_ {L N : Int} {ns : List Int} {l x : Int} (h : LevOk ns l (some x)) (hN : 0 < N) (hL : ∀ m : Nat, 1 ≤ m → m ≤ ns.length → (m : Int) ∣ L) (hb : ∀ b, b ∈ ns → L * N ∣ b ∧ 0 ≤ b) (hl : L * N ∣ l) (h0 : 0 < l) :
    N ∣ x ∧ 0 < x ∧ (ns.map (mn · x)).sum = l := by
  obtain ⟨s, p, o, e⟩ := h
  obtain ⟨h1, h2, h3⟩ := lev_some hN (fun m a b => hL m a (by rw [← p.length_eq]; exact b)) (fun b hb' => hb b (p.mem_iff.mp hb')) o hl h0 e.symm
  exact ⟨h1, h2, (perm_sum (p.map _)).symm.trans h3⟩
theorem LevOk.none_ {ns : List Int} {l : Int} (h : LevOk ns l none) (h0 : 0 < l) (hb : ∀ b, b ∈ ns → 0 ≤ b) : ns.sum < l := by
  obtain ⟨s, p, o, e⟩ := h
  have q := lev_none h0 e.symm fun b hb' => hb b (p.mem_iff.mp hb')
  rw [perm_sum p] at q
  exact q

/-! ### the choosing -/
structure Step where
  work : Nat
  level : Int
  paid : Nat → Int
/-- the places of those who want work k -/
def wanters (n : Nat) (W : Nat → Nat → Bool) (k : Nat) : List Nat := (List.range n).filter fun i => W i k
def payF (W : Nat → Nat → Bool) (k : Nat) (x : Int) (left : Nat → Int) : Nat → Int := fun i => if W i k = true then mn (left i) x else 0
structure ChInv (n w : Nat) (W : Nat → Nat → Bool) (price p0 : Nat → Int) (L : Int) (steps : List Step) (left : Nat → Int) : Prop where
  nd : (steps.map (·.work)).Nodup
  lt : ∀ s, s ∈ steps → s.work < w
  sum : ∀ s, s ∈ steps → sumTo n s.paid = price s.work
  pos : ∀ s, s ∈ steps → ∀ i, i < n → 0 ≤ s.paid i
  want : ∀ s, s ∈ steps → ∀ i, i < n → 0 < s.paid i → W i s.work = true
  left_ : ∀ i, i < n → left i = p0 i - (steps.map fun s => s.paid i).sum
  nonneg : ∀ i, i < n → 0 ≤ left i
  dvd : ∀ i, i < n → L ^ (w + 1 - steps.length) ∣ left i
theorem ChInv.len {n w : Nat} {W : Nat → Nat → Bool} {price p0 : Nat → Int} {L : Int} {steps : List Step} {left : Nat → Int} (I : ChInv n w W price p0 L steps left) : steps.length ≤ w := by
  have q := pigeon_lt I.nd fun x hx => by
    obtain ⟨s, hs, e⟩ := List.mem_map.mp hx
    rw [← e]
    exact I.lt s hs
  rw [List.length_map] at q
  exact q
theorem ChInv.start {n w : Nat} {W : Nat → Nat → Bool} {price p0 : Nat → Int} {L : Int} (h : ∀ i, i < n → 0 ≤ p0 i ∧ L ^ (w + 1) ∣ p0 i) : ChInv n w W price p0 L [] p0 where
  nd := List.nodup_nil
  lt := fun s h => by cases h
  sum := fun s h => by cases h
  pos := fun s h => by cases h
  want := fun s h => by cases h
  left_ := fun i _ => by simp
  nonneg := fun i hi => (h i hi).1
  dvd := fun i hi => (h i hi).2
theorem ChInv.step {n w : Nat} {W : Nat → Nat → Bool} {price p0 : Nat → Int} {L : Int} {steps : List Step} {left : Nat → Int} (I : ChInv n w W price p0 L steps left) (hL : 0 < L) (hd : ∀ m : Nat, 1 ≤ m → m ≤ n → (m : Int) ∣ L)
    (hp : ∀ k, k < w → 0 < price k ∧ L ^ (w + 1) ∣ price k) {k : Nat} {x : Int} (hk : k < w) (hn : k ∉ steps.map (·.work)) (hx : LevOk ((wanters n W k).map left) (price k) (some x)) :
    0 < x ∧ ChInv n w W price p0 L (steps ++ [⟨k, x, payF W k x left⟩]) (fun i => left i - payF W k x left i) := by
  have nd' : (steps.map (·.work) ++ [k]).Nodup := by
    rw [List.nodup_append]
    refine ⟨I.nd, by simp, fun a ha b hb e => ?_⟩
    rw [List.mem_singleton.mp hb] at e
    exact hn (e ▸ ha)
  have lt' : ∀ a, a ∈ steps.map (·.work) ++ [k] → a < w := fun a ha => by
    rcases List.mem_append.mp ha with q | q
    · obtain ⟨s, hs, e⟩ := List.mem_map.mp q
      rw [← e]
      exact I.lt s hs
    · rw [List.mem_singleton.mp q]
      exact hk
  have hlen := pigeon_lt nd' lt'
  rw [List.length_append, List.length_map, List.length_singleton] at hlen
  have e1 : w + 1 - steps.length = (w - steps.length) + 1 := by omega
  have e0 : w + 1 - (steps.length + 1) = w - steps.length := by omega
  have hN : 0 < L ^ (w - steps.length) := Int.pow_pos hL
  have ePow : L ^ (w + 1 - steps.length) = L * L ^ (w - steps.length) := by rw [e1, Int.pow_succ, Int.mul_comm]
  obtain ⟨p1, p2⟩ := hp k hk
  have hdl : L * L ^ (w - steps.length) ∣ price k := by
    rw [← ePow]
    refine Int.dvd_trans ?_ p2
    have e2 : w + 1 = (w + 1 - steps.length) + steps.length := by omega
    rw [e2, Int.pow_add]
    have e3 : (w + 1 - steps.length + steps.length - steps.length) = w + 1 - steps.length := by omega
    rw [e3]
    exact Int.dvd_mul_right _ _
  have hwl : (wanters n W k).length ≤ n := by
    have q := List.length_filter_le (fun i => W i k) (List.range n)
    rw [List.length_range] at q
    exact q
  have mw : ∀ {i : Nat}, i ∈ wanters n W k → i < n := fun hi => List.mem_range.mp (List.mem_filter.mp hi).1
  obtain ⟨d1, d2, d3⟩ := hx.some_ hN (fun m a b => hd m a (by rw [List.length_map] at b; omega)) (fun b hb => by
    obtain ⟨i, hi, e⟩ := List.mem_map.mp hb
    rw [← e, ← ePow]
    exact ⟨I.dvd i (mw hi), I.nonneg i (mw hi)⟩) hdl p1
  have hsum : sumTo n (payF W k x left) = price k := by
    rw [← d3, List.map_map]
    exact (sumTo_filter n (fun i => W i k) fun i => mn (left i) x).symm
  have hpay : ∀ i, i < n → 0 ≤ payF W k x left i ∧ payF W k x left i ≤ left i ∧ L ^ (w - steps.length) ∣ payF W k x left i := fun i hi => by
    have a1 := I.nonneg i hi
    have a2 := I.dvd i hi
    rw [ePow] at a2
    unfold payF
    split
    · exact ⟨mn_nonneg a1 (by omega), mn_le_left _ _, mn_dvd (Int.dvd_trans (Int.dvd_mul_left _ _) a2) d1⟩
    · exact ⟨Int.le_refl 0, a1, Int.dvd_zero _⟩
  refine ⟨d2, ?_⟩
  constructor
  · rw [List.map_append]
    exact nd'
  · intro s hs
    rcases List.mem_append.mp hs with q | q
    · exact I.lt s q
    · rw [List.mem_singleton.mp q]
      exact hk
  · intro s hs
    rcases List.mem_append.mp hs with q | q
    · exact I.sum s q
    · rw [List.mem_singleton.mp q]
      exact hsum
  · intro s hs i hi
    rcases List.mem_append.mp hs with q | q
    · exact I.pos s q i hi
    · rw [List.mem_singleton.mp q]
      exact (hpay i hi).1
  · intro s hs i hi h
    rcases List.mem_append.mp hs with q | q
    · exact I.want s q i hi h
    · rw [List.mem_singleton.mp q] at h ⊢
      have h' : 0 < payF W k x left i := h
      unfold payF at h'
      by_cases c : W i k = true
      · exact c
      · rw [if_neg c] at h'
        omega
  · intro i hi
    have a := I.left_ i hi
    rw [List.map_append, List.map_cons, List.map_nil, sum_snoc]
    show left i - payF W k x left i = p0 i - ((steps.map fun s => s.paid i).sum + payF W k x left i)
    omega
  · intro i hi
    have a := hpay i hi
    show 0 ≤ left i - payF W k x left i
    omega
  · intro i hi
    have a2 := I.dvd i hi
    rw [ePow] at a2
    rw [List.length_append, List.length_singleton, e0]
    exact Int.dvd_sub (Int.dvd_trans (Int.dvd_mul_left _ _) a2) (hpay i hi).2.2
/-- the end of a choosing: no work left can be paid -/
structure ChEnd (n w : Nat) (W : Nat → Nat → Bool) (price p0 : Nat → Int) (L : Int) (steps : List Step) (left : Nat → Int) : Prop where
  inv : ChInv n w W price p0 L steps left
  fin : ∀ k, k < w → k ∉ steps.map (·.work) → (sumTo n fun i => if W i k = true then left i else 0) < price k
theorem ChInv.end_ {n w : Nat} {W : Nat → Nat → Bool} {price p0 : Nat → Int} {L : Int} {steps : List Step} {left : Nat → Int} (I : ChInv n w W price p0 L steps left) (hp : ∀ k, k < w → 0 < price k)
    (h : ∀ k, k < w → k ∉ steps.map (·.work) → LevOk ((wanters n W k).map left) (price k) none) : ChEnd n w W price p0 L steps left := by
  refine ⟨I, fun k hk hn => ?_⟩
  have q := (h k hk hn).none_ (hp k hk) fun b hb => by
    obtain ⟨i, hi, e⟩ := List.mem_map.mp hb
    rw [← e]
    exact I.nonneg i (List.mem_range.mp (List.mem_filter.mp hi).1)
  rw [show ((wanters n W k).map left).sum = _ from sumTo_filter n (fun i => W i k) left] at q
  exact q
end Ep
set_option Elab.async false
set_option linter.all false
set_option maxRecDepth 100000
set_option maxHeartbeats 4000000
/-! EpFacts: where each def stands, what the top leaves (a list of facts). -/
namespace Ep
open PySem PySem.Spec PyProof.Rows L2
def top (i : Nat) : Stmt := PySem.Challenge.pw_purse_k54_whole_text_years.main.body.getD i (.Pass ⟨0, 0, 0, 0⟩)
abbrev s_shared_by_both : Stmt := top 1
abbrev s_together : Stmt := top 2
abbrev s_grains_of : Stmt := top 3
abbrev s_level_for : Stmt := top 5
abbrev s_wanters_of : Stmt := top 7
abbrev s_price_of : Stmt := top 9
abbrev s_offer_of : Stmt := top 10
abbrev s_offers_of : Stmt := top 11
abbrev s_next_of : Stmt := top 12
abbrev s_payments : Stmt := top 14
abbrev s_lessened : Stmt := top 15
abbrev s_choose : Stmt := top 16
abbrev s_left_of : Stmt := top 17
abbrev s_is_chest_name : Stmt := top 32
abbrev s_look_new_name : Stmt := top 33
abbrev s_Chest_init : Stmt := inClass (top 34) 0
abbrev s_Chest_voters : Stmt := inClass (top 34) 1
abbrev s_Chest_wanting : Stmt := inClass (top 34) 2
abbrev s_Chest_works : Stmt := inClass (top 34) 3
abbrev s_Chest_pot : Stmt := inClass (top 34) 4
abbrev s_Chest_given : Stmt := inClass (top 34) 5
abbrev s_Chest_spent : Stmt := inClass (top 34) 6
abbrev s_Chest_look_voter : Stmt := inClass (top 34) 7
abbrev s_Chest_look_work : Stmt := inClass (top 34) 8
abbrev s_Chest_enrol : Stmt := inClass (top 34) 9
abbrev s_Chest_leave : Stmt := inClass (top 34) 10
abbrev s_Chest_give : Stmt := inClass (top 34) 11
abbrev s_Chest_propose : Stmt := inClass (top 34) 12
abbrev s_Chest_withdraw : Stmt := inClass (top 34) 13
abbrev s_Chest_want : Stmt := inClass (top 34) 14
abbrev s_Chest_unwant : Stmt := inClass (top 34) 15
abbrev s_Chest_wishes_now : Stmt := inClass (top 34) 16
abbrev s_Chest_keep_whole : Stmt := inClass (top 34) 17
abbrev s_Chest_told_step : Stmt := inClass (top 34) 18
abbrev s_Chest_close : Stmt := inClass (top 34) 19
abbrev s_read_words : Stmt := top 38
abbrev s_read_number : Stmt := top 39
abbrev s_form_behind : Stmt := top 41
abbrev s_things_behind : Stmt := top 42
abbrev s_show_closed : Stmt := top 43
abbrev s_show_works : Stmt := top 44
abbrev s_Desk_init : Stmt := inClass (top 45) 0
abbrev s_Desk_say : Stmt := inClass (top 45) 1
abbrev s_Desk_done_by : Stmt := inClass (top 45) 2
abbrev s_Desk_asked_of : Stmt := inClass (top 45) 3
abbrev s_law_nth : Stmt := top 47
abbrev s_law_spins : Stmt := top 48
abbrev s_law_name : Stmt := top 49
abbrev s_law_number : Stmt := top 50
abbrev s_law_works : Stmt := top 51
abbrev s_law_asked : Stmt := top 52
abbrev s_law_sums : Stmt := top 53
abbrev s_law_paid : Stmt := top 54
abbrev s_law_parts_right : Stmt := top 55
abbrev s_law_too_dear : Stmt := top 56
abbrev s_law_closed : Stmt := top 57
abbrev s_law_amount : Stmt := top 58
abbrev s_law_row : Stmt := top 59
abbrev s_law_noted : Stmt := top 60
abbrev s_law_shown : Stmt := top 61
abbrev s_law_refused : Stmt := top 62
abbrev s_law : Stmt := top 63
def d_shared_by_both : He.DefD := ⟨("shared_by_both", none), "shared_by_both", "shared_by_both", defArgs s_shared_by_both, defBody s_shared_by_both, defScope s_shared_by_both, [], []⟩
def d_together : He.DefD := ⟨("together", none), "together", "together", defArgs s_together, defBody s_together, defScope s_together, [], []⟩
def d_grains_of : He.DefD := ⟨("grains_of", none), "grains_of", "grains_of", defArgs s_grains_of, defBody s_grains_of, defScope s_grains_of, [], []⟩
def d_level_for : He.DefD := ⟨("level_for", none), "level_for", "level_for", defArgs s_level_for, defBody s_level_for, defScope s_level_for, [], []⟩
def d_wanters_of : He.DefD := ⟨("wanters_of", none), "wanters_of", "wanters_of", defArgs s_wanters_of, defBody s_wanters_of, defScope s_wanters_of, [], []⟩
def d_price_of : He.DefD := ⟨("price_of", none), "price_of", "price_of", defArgs s_price_of, defBody s_price_of, defScope s_price_of, [], []⟩
def d_offer_of : He.DefD := ⟨("offer_of", none), "offer_of", "offer_of", defArgs s_offer_of, defBody s_offer_of, defScope s_offer_of, [], []⟩
def d_offers_of : He.DefD := ⟨("offers_of", none), "offers_of", "offers_of", defArgs s_offers_of, defBody s_offers_of, defScope s_offers_of, [], []⟩
def d_next_of : He.DefD := ⟨("next_of", none), "next_of", "next_of", defArgs s_next_of, defBody s_next_of, defScope s_next_of, [], []⟩
def d_payments : He.DefD := ⟨("payments", none), "payments", "payments", defArgs s_payments, defBody s_payments, defScope s_payments, [], []⟩
def d_lessened : He.DefD := ⟨("lessened", none), "lessened", "lessened", defArgs s_lessened, defBody s_lessened, defScope s_lessened, [], []⟩
def d_choose : He.DefD := ⟨("choose", none), "choose", "choose", defArgs s_choose, defBody s_choose, defScope s_choose, [], []⟩
def d_left_of : He.DefD := ⟨("left_of", none), "left_of", "left_of", defArgs s_left_of, defBody s_left_of, defScope s_left_of, [], []⟩
def d_is_chest_name : He.DefD := ⟨("is_chest_name", none), "is_chest_name", "is_chest_name", defArgs s_is_chest_name, defBody s_is_chest_name, defScope s_is_chest_name, [], []⟩
def d_look_new_name : He.DefD := ⟨("look_new_name", none), "look_new_name", "look_new_name", defArgs s_look_new_name, defBody s_look_new_name, defScope s_look_new_name, [], []⟩
def d_Chest_init : He.DefD := ⟨("Chest", some "__init__"), "__init__", "Chest.__init__", defArgs s_Chest_init, defBody s_Chest_init, defScope s_Chest_init, [], []⟩
def d_Chest_voters : He.DefD := ⟨("Chest", some "voters"), "voters", "Chest.voters", defArgs s_Chest_voters, defBody s_Chest_voters, defScope s_Chest_voters, [], []⟩
def d_Chest_wanting : He.DefD := ⟨("Chest", some "wanting"), "wanting", "Chest.wanting", defArgs s_Chest_wanting, defBody s_Chest_wanting, defScope s_Chest_wanting, [], []⟩
def d_Chest_works : He.DefD := ⟨("Chest", some "works"), "works", "Chest.works", defArgs s_Chest_works, defBody s_Chest_works, defScope s_Chest_works, [], []⟩
def d_Chest_pot : He.DefD := ⟨("Chest", some "pot"), "pot", "Chest.pot", defArgs s_Chest_pot, defBody s_Chest_pot, defScope s_Chest_pot, [], []⟩
def d_Chest_given : He.DefD := ⟨("Chest", some "given"), "given", "Chest.given", defArgs s_Chest_given, defBody s_Chest_given, defScope s_Chest_given, [], []⟩
def d_Chest_spent : He.DefD := ⟨("Chest", some "spent"), "spent", "Chest.spent", defArgs s_Chest_spent, defBody s_Chest_spent, defScope s_Chest_spent, [], []⟩
def d_Chest_look_voter : He.DefD := ⟨("Chest", some "look_voter"), "look_voter", "Chest.look_voter", defArgs s_Chest_look_voter, defBody s_Chest_look_voter, defScope s_Chest_look_voter, [], []⟩
def d_Chest_look_work : He.DefD := ⟨("Chest", some "look_work"), "look_work", "Chest.look_work", defArgs s_Chest_look_work, defBody s_Chest_look_work, defScope s_Chest_look_work, [], []⟩
def d_Chest_enrol : He.DefD := ⟨("Chest", some "enrol"), "enrol", "Chest.enrol", defArgs s_Chest_enrol, defBody s_Chest_enrol, defScope s_Chest_enrol, [], []⟩
def d_Chest_leave : He.DefD := ⟨("Chest", some "leave"), "leave", "Chest.leave", defArgs s_Chest_leave, defBody s_Chest_leave, defScope s_Chest_leave, [], []⟩
def d_Chest_give : He.DefD := ⟨("Chest", some "give"), "give", "Chest.give", defArgs s_Chest_give, defBody s_Chest_give, defScope s_Chest_give, [], []⟩
def d_Chest_propose : He.DefD := ⟨("Chest", some "propose"), "propose", "Chest.propose", defArgs s_Chest_propose, defBody s_Chest_propose, defScope s_Chest_propose, [], []⟩
def d_Chest_withdraw : He.DefD := ⟨("Chest", some "withdraw"), "withdraw", "Chest.withdraw", defArgs s_Chest_withdraw, defBody s_Chest_withdraw, defScope s_Chest_withdraw, [], []⟩
def d_Chest_want : He.DefD := ⟨("Chest", some "want"), "want", "Chest.want", defArgs s_Chest_want, defBody s_Chest_want, defScope s_Chest_want, [], []⟩
def d_Chest_unwant : He.DefD := ⟨("Chest", some "unwant"), "unwant", "Chest.unwant", defArgs s_Chest_unwant, defBody s_Chest_unwant, defScope s_Chest_unwant, [], []⟩
def d_Chest_wishes_now : He.DefD := ⟨("Chest", some "wishes_now"), "wishes_now", "Chest.wishes_now", defArgs s_Chest_wishes_now, defBody s_Chest_wishes_now, defScope s_Chest_wishes_now, [], []⟩
def d_Chest_keep_whole : He.DefD := ⟨("Chest", some "keep_whole"), "keep_whole", "Chest.keep_whole", defArgs s_Chest_keep_whole, defBody s_Chest_keep_whole, defScope s_Chest_keep_whole, [], []⟩
def d_Chest_told_step : He.DefD := ⟨("Chest", some "told_step"), "told_step", "Chest.told_step", defArgs s_Chest_told_step, defBody s_Chest_told_step, defScope s_Chest_told_step, [], []⟩
def d_Chest_close : He.DefD := ⟨("Chest", some "close"), "close", "Chest.close", defArgs s_Chest_close, defBody s_Chest_close, defScope s_Chest_close, [], []⟩
def d_read_words : He.DefD := ⟨("read_words", none), "read_words", "read_words", defArgs s_read_words, defBody s_read_words, defScope s_read_words, [], []⟩
def d_read_number : He.DefD := ⟨("read_number", none), "read_number", "read_number", defArgs s_read_number, defBody s_read_number, defScope s_read_number, [], []⟩
def d_form_behind : He.DefD := ⟨("form_behind", none), "form_behind", "form_behind", defArgs s_form_behind, defBody s_form_behind, defScope s_form_behind, [], []⟩
def d_things_behind : He.DefD := ⟨("things_behind", none), "things_behind", "things_behind", defArgs s_things_behind, defBody s_things_behind, defScope s_things_behind, [], []⟩
def d_show_closed : He.DefD := ⟨("show_closed", none), "show_closed", "show_closed", defArgs s_show_closed, defBody s_show_closed, defScope s_show_closed, [], []⟩
def d_show_works : He.DefD := ⟨("show_works", none), "show_works", "show_works", defArgs s_show_works, defBody s_show_works, defScope s_show_works, [], []⟩
def d_Desk_init : He.DefD := ⟨("Desk", some "__init__"), "__init__", "Desk.__init__", defArgs s_Desk_init, defBody s_Desk_init, defScope s_Desk_init, [], []⟩
def d_Desk_say : He.DefD := ⟨("Desk", some "say"), "say", "Desk.say", defArgs s_Desk_say, defBody s_Desk_say, defScope s_Desk_say, [], []⟩
def d_Desk_done_by : He.DefD := ⟨("Desk", some "done_by"), "done_by", "Desk.done_by", defArgs s_Desk_done_by, defBody s_Desk_done_by, defScope s_Desk_done_by, [], []⟩
def d_Desk_asked_of : He.DefD := ⟨("Desk", some "asked_of"), "asked_of", "Desk.asked_of", defArgs s_Desk_asked_of, defBody s_Desk_asked_of, defScope s_Desk_asked_of, [], []⟩
def d_law_nth : He.DefD := ⟨("_law_nth", none), "_law_nth", "_law_nth", defArgs s_law_nth, defBody s_law_nth, defScope s_law_nth, [], []⟩
def d_law_spins : He.DefD := ⟨("_law_spins", none), "_law_spins", "_law_spins", defArgs s_law_spins, defBody s_law_spins, defScope s_law_spins, [], []⟩
def d_law_name : He.DefD := ⟨("_law_name", none), "_law_name", "_law_name", defArgs s_law_name, defBody s_law_name, defScope s_law_name, [], []⟩
def d_law_number : He.DefD := ⟨("_law_number", none), "_law_number", "_law_number", defArgs s_law_number, defBody s_law_number, defScope s_law_number, [], []⟩
def d_law_works : He.DefD := ⟨("_law_works", none), "_law_works", "_law_works", defArgs s_law_works, defBody s_law_works, defScope s_law_works, [], []⟩
def d_law_asked : He.DefD := ⟨("_law_asked", none), "_law_asked", "_law_asked", defArgs s_law_asked, defBody s_law_asked, defScope s_law_asked, [], []⟩
def d_law_sums : He.DefD := ⟨("_law_sums", none), "_law_sums", "_law_sums", defArgs s_law_sums, defBody s_law_sums, defScope s_law_sums, [], []⟩
def d_law_paid : He.DefD := ⟨("_law_paid", none), "_law_paid", "_law_paid", defArgs s_law_paid, defBody s_law_paid, defScope s_law_paid, [], []⟩
def d_law_parts_right : He.DefD := ⟨("_law_parts_right", none), "_law_parts_right", "_law_parts_right", defArgs s_law_parts_right, defBody s_law_parts_right, defScope s_law_parts_right, [], []⟩
def d_law_too_dear : He.DefD := ⟨("_law_too_dear", none), "_law_too_dear", "_law_too_dear", defArgs s_law_too_dear, defBody s_law_too_dear, defScope s_law_too_dear, [], []⟩
def d_law_closed : He.DefD := ⟨("_law_closed", none), "_law_closed", "_law_closed", defArgs s_law_closed, defBody s_law_closed, defScope s_law_closed, [], []⟩
def d_law_amount : He.DefD := ⟨("_law_amount", none), "_law_amount", "_law_amount", defArgs s_law_amount, defBody s_law_amount, defScope s_law_amount, [], []⟩
def d_law_row : He.DefD := ⟨("_law_row", none), "_law_row", "_law_row", defArgs s_law_row, defBody s_law_row, defScope s_law_row, [], []⟩
def d_law_noted : He.DefD := ⟨("_law_noted", none), "_law_noted", "_law_noted", defArgs s_law_noted, defBody s_law_noted, defScope s_law_noted, [], []⟩
def d_law_shown : He.DefD := ⟨("_law_shown", none), "_law_shown", "_law_shown", defArgs s_law_shown, defBody s_law_shown, defScope s_law_shown, [], []⟩
def d_law_refused : He.DefD := ⟨("_law_refused", none), "_law_refused", "_law_refused", defArgs s_law_refused, defBody s_law_refused, defScope s_law_refused, [], []⟩
def d_law : He.DefD := ⟨("law", none), "law", "law", defArgs s_law, defBody s_law, defScope s_law, [], []⟩
def fn : List He.DefD := [d_shared_by_both, d_together, d_grains_of, d_level_for, d_wanters_of, d_price_of, d_offer_of, d_offers_of, d_next_of, d_payments, d_lessened, d_choose, d_left_of, d_is_chest_name, d_look_new_name, d_Chest_init, d_Chest_voters, d_Chest_wanting, d_Chest_works, d_Chest_pot, d_Chest_given, d_Chest_spent, d_Chest_look_voter, d_Chest_look_work, d_Chest_enrol, d_Chest_leave, d_Chest_give, d_Chest_propose, d_Chest_withdraw, d_Chest_want, d_Chest_unwant, d_Chest_wishes_now, d_Chest_keep_whole, d_Chest_told_step, d_Chest_close, d_read_words, d_read_number, d_form_behind, d_things_behind, d_show_closed, d_show_works, d_Desk_init, d_Desk_say, d_Desk_done_by, d_Desk_asked_of, d_law_nth, d_law_spins, d_law_name, d_law_number, d_law_works, d_law_asked, d_law_sums, d_law_paid, d_law_parts_right, d_law_too_dear, d_law_closed, d_law_amount, d_law_row, d_law_noted, d_law_shown, d_law_refused, d_law]
def glos : List Str := (["shared_by_both", "together", "grains_of", "level_for", "wanters_of", "price_of", "offer_of", "offers_of", "next_of", "payments", "lessened", "choose", "left_of", "is_chest_name", "look_new_name", "read_words", "read_number", "form_behind", "things_behind", "show_closed", "show_works"] : List Str) ++ (["_law_nth", "_law_spins", "_law_name", "_law_number", "_law_works", "_law_asked", "_law_sums", "_law_paid", "_law_parts_right", "_law_too_dear", "_law_closed", "_law_amount", "_law_row", "_law_noted", "_law_shown", "_law_refused", "law", "Chest", "Desk", "PurseError", "Twice", "NoVoter", "NoWork"] : List Str)
def frees : List Str := ["len", "range", "sorted", "enumerate", "zip", "min", "max", "divmod", "str", "int", "sum", "isinstance", "list"]
def excs : List Str := ["Twice", "NoVoter", "NoWork"]
def chestFields : List Str := ["people", "held", "plans", "prices", "wished", "well", "gifts", "outlay"]
def chestMeths : List Str := ["voters", "wanting", "works", "pot", "given", "spent", "look_voter", "look_work", "enrol", "leave", "give", "propose", "withdraw", "want", "unwant", "wishes_now", "keep_whole", "told_step", "close"]
def deskMeths : List Str := ["say", "done_by", "asked_of"]
def fa : List He.Fa := glos.map .glo ++ (frees.map .free ++ ([.int "MOST_PEOPLE" 20, .int "MOST_PLANS" 12, .int "MOST_COINS" 1000000000, .int "MOST_WRITTEN" 13, .str "LETTERS_KNOWN" "abcdefghijklmnopqrstuvwxyz", .str "TEN_FIGURES" "0123456789", .cls "Chest", .cls "Desk", .mkr "Chest", .mkr "Desk", .noat "Desk" "chest"]
  ++ (chestFields.map (.noat "Chest") ++ (chestMeths.map (.meth "Chest") ++ (deskMeths.map (.meth "Desk") ++ (excs.map .exc ++ excs.map fun x => .exm x "PurseError" true))))))
end Ep
set_option Elab.async false
set_option linter.all false
set_option maxRecDepth 100000
set_option maxHeartbeats 4000000
/-! EpRules: rules beside the hand layer's: list.remove of data, an attribute as a target within a tuple, a method called within a try, zip of a text and a list. -/
namespace Ep
open PySem PySem.Spec PyProof.Rows L2
section
variable {X : Cx}
/-! ### xs.remove(y): the first item that is like y -/
def rRemD (K : PySem.W.Frag) : V → List V → Hp → VK → Prop := fun x xs H Q => ∃ (l : Addr) (vs : List V) (y : V) (d : PyData) (ds : List PyData) (j : Nat) (z : PyData), x = V.ref l ∧ xs = [y] ∧ H l = some (.lst vs) ∧ Dp K H (V.ref l) (.list ds) ∧ Dp K H y d ∧
  SeqAt.shaped (.list ds) = true ∧ SeqAt.shaped d = true ∧ ds[j]? = some z ∧ PyData.eqv z d = true ∧ (∀ (m : Nat) (z' : PyData), m < j → ds[m]? = some z' → PyData.eqv z' d = false) ∧ Q .non (upd H l (.lst (vs.eraseIdx j)))
theorem mt_removeD (hu : X.A.units + 65 < cLine) : MtM X "list.remove" (rRemD X.K) := by
  intro pins s σ H x xs v us Q I rx rxs h
  obtain ⟨l, vs, y, d, ds, j, z, rfl, rfl, hH, hl, hy, sl, sd, hz, hzj, hno, q⟩ := h
  cases rx
  cases rxs with
  | cons ry rt =>
    rename_i uy ut
    cases rt
    obtain ⟨bs, r1⟩ := Dp.reads I d y uy hy ry
    have hxs : PyData.canLayAll0 ds = true := SeqAt.canLay_of_shaped sl
    have hroom : X.A.units + 1 + min (PyData.depthAll ds) d.depth < cLine := room_in_shaped sd hu
    cases hl with
    | lst hs ha =>
      obtain ⟨zz, its, n, rv, hlen, ho⟩ := I.lstM hH
      have evs := I.list_inj hs (SqL.of hH)
      subst evs
      obtain ⟨as, h4⟩ := Dp.readsAll I ds _ its ha rv
      have hn : its.length = ds.length := SeqAt.ReadsAll.length ds its as h4
      have hmap : its.map (SeqAt.readOf s.heap) = ds := SeqAt.readsAll_map ds its as hxs h4
      have hvl := rv.length
      obtain ⟨hjd, _⟩ := List.getElem?_eq_some_iff.mp hz
      have hjl : j < its.length := by omega
      have hj : j < its.toArray.size := by simpa using hjl
      have at_ : ∀ (m : Nat) (hm : m < its.toArray.size) (z' : PyData), ds[m]? = some z' → SeqAt.readOf s.heap its.toArray[m] = z' := by
        intro m hm z' hz'
        have hml : m < its.length := by simpa using hm
        rw [← hmap, List.getElem?_map, List.getElem?_eq_getElem hml] at hz'
        have e1 : SeqAt.readOf s.heap its[m] = z' := Option.some.inj (show some (SeqAt.readOf s.heap its[m]) = some z' from hz')
        simpa using e1
      refine call_meets PySem.F.slot_list_remove ⟨_, ho, rfl⟩ PySem.F.entry_list_remove (PySem.F.args_list_remove_2 _ _)
        (SeqAt.list_removeAt l its.toArray n none #[] uy (fun u => PyData.eqv (SeqAt.readOf s.heap u) d) j hj ?_ ?_ (by rw [List.size_toArray]; omega)) ⟨ho, SeqAt.items_eqAt (vs := its.toArray) (show ReadsAll s.heap its.toArray.toList ds as from h4) r1 hxs (SeqAt.canLay_of_shaped sd) hroom, ?_⟩
      · show PyData.eqv (SeqAt.readOf s.heap its.toArray[j]) d = true
        rw [at_ j hj z hz]
        exact hzj
      · intro m hm hmj
        have hmd : m < ds.length := by omega
        have hz' : ds[m]? = some ds[m] := List.getElem?_eq_getElem hmd
        show PyData.eqv (SeqAt.readOf s.heap its.toArray[m]) d = false
        rw [at_ m hm _ hz']
        exact hno m _ hmj hz'
      · refine ⟨.non, _, I.lset (its' := its.eraseIdx j) (t' := s.toks) hH ho ?_ (rv.eraseIdx j) ?_, rfl, q⟩
        · show its.toArray.eraseIdxIfInBounds j = (its.eraseIdx j).toArray
          rw [List.eraseIdxIfInBounds_toArray]
        · have z2 := len_erase its j
          have z3 := len_erase ‹List V› j
          omega
/-! ### o.f as a target -/
def gAttr (K : PySem.W.Frag) (ta : TE) (f : Str) : TG := fun v σ H Q => ta σ H fun x H1 => ∃ a C dx fs, x = .ref a ∧ H1 a = some (.ins C dx fs) ∧ Cls K C ∧ NoAttr K C f ∧ fs.length < 1000 ∧ Q σ (upd H1 a (.ins C dx (putF f v fs)))
theorem pg_attr {o : Expr} {ta : TE} {f : Str} {pos : Pos} (ho : PE X o ta)
    (ha : ∀ v, assign (.Attribute o f pos) X.env v = (do
      let ov ← holding [v] (eval o X.env)
      standAt pos.atName
      holding [v, ov] (setAttr ov f v)
      release [v, ov] []) := by intro _; rfl) : PG X (.Attribute o f pos) (gAttr X.K ta f) := by
  refine ⟨fun pins s σ H v u Q I r h => ?_⟩
  rw [ha]
  refine wpAny_bind (wpAny_holding (thn (ho.run pins s σ H _ I h) fun ov s1 ⟨x, H1, I1, r1, a, C, dx, fs, ex, ea, c, n, l, q1⟩ => ?_))
  subst ex
  obtain rfl : ov = Value.ref a := r1
  refine wpAny_bind (wpAny_standAt (wpAny_bind (wpAny_holding (setattr_ok I1 ea c n l r fun s3 I3 => ?_))))
  exact wpAny_release ⟨σ, _, I3, q1⟩
/-! ### o.m(e, ..) within a try -/
def tMethS (C : Addr) (m : Str) (sp : Sp) (E : L2.St → XK) (ta : TE) (t : TA) : TE := fun σ H Q => ta σ H fun x H1 => ∃ a dx fs, x = .ref a ∧ H1 a = some (.ins C dx fs) ∧ fs.lookup m = none ∧ t σ H1 fun vs H2 => sp (x :: vs) H2 Q (E σ)
theorem pe_methS {CX : CXT} {k : Nat} {f C : Addr} {fd : FuncData} {ps : List Str} {sp : Sp} {E : L2.St → XK} {m : Str} {pos apos : Pos} {e o : Expr} {es : List Expr} {ta : TE} {t : TA} {pl : Sem Bool}
    (he : PE X o ta) (c : Cls X.K C) (hm : Meth X.K C m f) (F : FnOk X.prog X.w X.K X.mg X.base CX k f fd ps sp) (hr : Room k X.A) (hb : Binds X.K fd ps []) (hx : ∀ σ, PassesAt CX X σ (E σ)) (ha : PA X (e :: es) t)
    (hst : starEach (e :: es) X.env = (false, eval e X.env) :: starEach es X.env := by rfl) (hpl : (backTo pos (starEach es X.env)).any (·.1) = false := by rfl)
    (ht : eval (.Call (.Attribute o m apos) (e :: es) [] pos) X.env = (do
      let ov ← eval o X.env
      standAt apos.atName
      let (f, first) ← holding [ov] (getMethod ov m pl)
      callWith pos f first (backTo pos (starEach (e :: es) X.env)) (backToKw pos (keywordEach [] X.env))) := by rfl) :
    PE X (.Call (.Attribute o m apos) (e :: es) [] pos) (tMethS C m sp E ta t) := by
  refine ⟨fun pins s σ H Q I h => ?_⟩
  refine PySem.W.methodCall_KW (pl := pl) (thn (he.run pins s σ H _ I h) fun u s1 ⟨x, H1, I1, rx, a, dx, fs, ex, ea, l, q⟩ => ?_) ht
  subst ex
  obtain rfl : u = Value.ref a := rx
  refine getmeth_ok I1 ea c hm l ?_
  refine PySem.W.callWith_K (first := [.ref a]) (h₀ := X.base) I.ok.mod.kin hm.kp (thn (ha.run pos pins s1 σ H1 _ I1 q) fun us s2 ⟨vs, H2, I2, r, q2⟩ => ⟨I2.kIn, ?_⟩) hst hpl
  exact run_fnS (us := .ref a :: us) (vs := .ref a :: vs) F hr hb (hx σ) I2 (.cons rfl r) q2
/-! ### zip of a text and a list -/
/-- the signs of z and the items of the list at b -/
def Itzs (K : PySem.W.Frag) (z : Str) (b : Addr) : It :=
  ⟨fun i H => ∃ (ys : List V), SqL K H b ys ∧ i < z.cps.size ∧ i < ys.length,
    fun i H v H' => ∃ T c y, v = .ref T ∧ H T = none ∧ H' = upd H T (.tup [.str ⟨#[c]⟩, y]) ∧ z.cps[i]? = some c ∧ ∀ ys, SqL K H b ys → ys[i]? = some y,
    fun i H => ∃ ys : List V, SqL K H b ys ∧ i ≤ z.cps.size ∧ i ≤ ys.length ∧ (i = z.cps.size ∨ i = ys.length)⟩
theorem strIter_at {h h' : Heap} {a : Addr} {ty : String} {x : Str} {t : Tok} {i : Nat} (q : h.IsStrIter a ty x t i) (e : ∀ o, h.get? a = some o → h'.get? a = some o) : h'.IsStrIter a ty x t i := let ⟨o, ho, r⟩ := q; ⟨o, e _ ho, r⟩
theorem turn_zips {P : Program} {w : World} {K : PySem.W.Frag} {elts : List Expr} {kk : Nat} {tpos : Pos} {x : Str} {tk0 : Tok} {b z TI TO i1 i2 : Addr} (D : ZipSep2 z TI TO i1 i2 [i1] [i2, b]) (hbz : b ≠ z) (hbO : b ≠ TO) (hb1 : b ≠ i1) (hb2 : b ≠ i2) :
    Turn P w K (.Tuple elts kk tpos) (Itzs K x b) [z, TI, TO, i1, i2] z (fun i h => IsZip h z TI TO .none ∧ IsTupOf2 h TI (.ref i1) (.ref i2) ∧ (∃ x y, IsTupOf2 h TO x y) ∧ h.IsStrIter i1 (strIterType x) x tk0 i ∧ h.IsListIter i2 b i) where
  mem := by simp
  obj := fun i h st c hc => by
    obtain ⟨hz, hTI, ⟨x, y, hTO⟩, ⟨o1, e1, _, d1⟩, ⟨o2, e2, _, d2⟩⟩ := st
    have e' : c = z ∨ c = TI ∨ c = TO ∨ c = i1 ∨ c = i2 := by simpa using hc
    rcases e' with q | q | q | q | q
    · rw [q]; exact ⟨_, hz, fun v q => nomatch q⟩
    · rw [q]; exact ⟨_, hTI, fun v q => nomatch q⟩
    · rw [q]; exact ⟨_, hTO, fun v q => nomatch q⟩
    · rw [q]; exact ⟨o1, e1, fun v q => by rw [d1] at q; cases q⟩
    · rw [q]; exact ⟨o2, e2, fun v q => by rw [d2] at q; cases q⟩
  keep := fun i h h' st k => by
    obtain ⟨hz, hTI, ⟨x, y, hTO⟩, h1, h2⟩ := st
    exact ⟨k z (by simp) _ hz, k TI (by simp) _ hTI, ⟨x, y, k TO (by simp) _ hTO⟩, strIter_at h1 fun o q => k i1 (by simp) o q, h2.at fun o q => k i2 (by simp) o q⟩
  item := by
    intro X hP hw hK hc i pins s σ H E I hf st hg
    subst hP hw hK
    obtain ⟨hz, hTI, ⟨x0, y0, hTO⟩, h1, h2⟩ := st
    obtain ⟨ys, hqy, hx, hy⟩ := hg
    obtain ⟨its2, rv2, p2, _⟩ := I.list hqy
    have l2 := rv2.length
    have hzl : z < s.heap.objs.size := Heap.lt_size hz
    have hh : X.A.in1.handled = none := I.ok.hd hc
    refine wpAny_pyNext_zipD2_item D (Draws.text (A := X.A.in1) hh i1 x tk0) (Draws.list (A := X.A.in1) hh i2 b hb2 its2.toArray) hz hTI hTO h1 ⟨h2, p2.isList⟩ hx (by simp; omega) fun x1 x2 h' tk P1 P2 z' TO' S1 S2 hT hsz hk => ?_
    obtain ⟨c, uu, hcx, rfl⟩ := P1
    obtain ⟨y, hyy⟩ : ∃ y, ys[i]? = some y := ⟨ys[i], List.getElem?_eq_getElem hy⟩
    obtain ⟨u2, hu2, ru2⟩ := rv2.get hyy
    have eu : x2 = u2 := by
      have q : its2.toArray[i]? = some x2 := P2
      rw [List.getElem?_toArray, hu2] at q
      exact (Option.some.inj q).symm
    subst eu
    refine ⟨_, rfl, wpAny_letOwnedTupleGo_zip (s := { s with heap := h', toks := tk }) z' fun h'' z'' sb => ?_⟩
    have hT2 : h''.get? s.heap.objs.size = some { cls := .type "tuple", data := .seq #[.str ⟨#[c]⟩ uu, x2] } := (sb.2 _ (Nat.ne_of_gt hzl)).trans hT
    have new : ObjOk X.prog X.w (upd H s.heap.objs.size (.tup [.str ⟨#[c]⟩, y])) h'' s.heap.objs.size (.tup [.str ⟨#[c]⟩, y]) :=
      ⟨by show 2 ≤ sizeLine; decide, [.str ⟨#[c]⟩ uu, x2], .cons ⟨uu, rfl⟩ (.cons ru2 .nil), ⟨_, hT2, rfl, _, rfl⟩⟩
    have I1 : Inv X pins σ (upd H s.heap.objs.size (.tup [.str ⟨#[c]⟩, y])) { s with heap := h'', toks := tk } :=
      I.turnedNew (t' := tk) (ch := [z, TI, TO, i1, i2]) (fun c o hb q => (sb.2 c (fun q' => hb (by simp [q']))).trans (hk c o (fun q' => hb (by simp [q'])) (fun q' => hb (by simp [q'])) (fun q' => hb (by simp [q'])) (fun q' => hb (by simp [q'])) q)) hf (Nat.le_refl _) new
    refine ⟨.ref s.heap.objs.size, _, I1, rfl, ⟨_, c, y, rfl, I.hok.fresh (Nat.le_refl _), rfl, hcx, fun l hl => by rw [I.list_inj hl hqy]; exact hyy⟩, ⟨z'', ?_, ⟨.str ⟨#[c]⟩ uu, x2, ?_⟩, ?_, ?_⟩, fun c hcm => ?_⟩
    · exact (sb.2 _ D.TIz).trans (hk _ _ D.TIz D.TITO D.TIi1 D.TIi2 hTI)
    · exact (sb.2 _ D.TOz).trans TO'
    · exact strIter_at S1 fun o q => (sb.2 _ (Ne.symm D.zi1)).trans q
    · exact S2.1.at fun o q => (sb.2 _ (Ne.symm D.zi2)).trans q
    · have hlt : c < s.heap.objs.size := by
        have e' : c = z ∨ c = TI ∨ c = TO ∨ c = i1 ∨ c = i2 := by simpa using hcm
        rcases e' with q | q | q | q | q
        · rw [q]; exact hzl
        · rw [q]; exact Heap.lt_size hTI
        · rw [q]; exact Heap.lt_size hTO
        · rw [q]; obtain ⟨_, e1, _⟩ := h1; exact Heap.lt_size e1
        · rw [q]; obtain ⟨_, e2, _⟩ := h2; exact Heap.lt_size e2
      rw [upd_ne (Nat.ne_of_lt hlt)]
      exact (hf c hcm).1
  done := by
    intro X hP hw hK hc i pins s σ H E I hf st hg
    subst hP hw hK
    obtain ⟨hz, hTI, ⟨x0, y0, hTO⟩, h1, h2⟩ := st
    obtain ⟨ys, hqy, hx, hy, hend⟩ := hg
    obtain ⟨its2, rv2, p2, _⟩ := I.list hqy
    have l2 := rv2.length
    have hh : X.A.in1.handled = none := I.ok.hd hc
    exact wpAny_pyNext_zipD2_end D (Draws.text (A := X.A.in1) hh i1 x tk0) (Draws.list (A := X.A.in1) hh i2 b hb2 its2.toArray) hz hTI hTO h1 ⟨h2, p2.isList⟩ hx (by simp; omega) (by
      rcases hend with q | q
      · exact .inl q
      · exact .inr (by simp; omega)) fun h' tk hk => ⟨rfl, I.turnedL (t' := tk) (ch := [z, TI, TO, i1, i2]) (fun c o hb q =>
      hk c o (fun q' => hb (by simp [q'])) (fun q' => hb (by simp [q'])) (fun q' => hb (by simp [q'])) (fun q' => hb (by simp [q'])) q) hf⟩
  self := fun A i s Q E st h => wpAny_pyIter_zip st.1 h
def iZips (K : PySem.W.Frag) (ta : TA) : TI := fun σ H R => ta σ H fun vs H1 => ∃ z b ys, vs = [.str z, .ref b] ∧ SqL K H1 b ys ∧ R (Itzs K z b) H1
theorem pi_zips {e e2 : Expr} {ta : TA} {p pos tpos : Pos} {elts : List Expr} {kk : Nat} (hg : Gl X "zip") (hm : X.mg "zip" = none) (ha : PA X [e, e2] ta)
    (hs : starEach [e, e2] X.env = (false, eval e X.env) :: starEach [e2] X.env := by rfl) (hpl : (backTo pos (starEach [e2] X.env)).any (·.1) = false := by rfl) :
    PI X (.Tuple elts kk tpos) (.Call (.Name "zip" p) [e, e2] [] pos) (iZips X.K ta) := by
  refine ⟨fun pins s σ H R I h => ?_⟩
  refine Call_ (ld_blt I hg hm PyProof.Rows.boot_zip (PyProof.Rows.callWith_type1 (thn (ha.run pos pins s σ H _ I h) fun us s1 ⟨vs, H1, I1, r1, q1⟩ => ?_) hs hpl))
  obtain ⟨z, b, ys, ex, hqy, q⟩ := q1
  subst ex
  cases r1 with
  | cons r rr =>
    cases rr with
    | cons r' rr =>
      cases rr
      obtain ⟨tk0, rfl⟩ := r
      cases r'
      obtain ⟨its2, rv2, p2, _⟩ := I1.list hqy
      have lb : b < s1.heap.objs.size := p2.lt
      refine zip_begins2 (begins_text z tk0) (begins_list b its2.toArray) trivial p2.isList fun h' hz hTI hTO h1 h2 hsz hk => wpAny_pyIter_zip hz ?_
      have I2 : Inv X pins σ H1 { s1 with heap := h' } := I1.kept (t' := s1.toks) hk
      have D : ZipSep2 (s1.heap.objs.size + 4) (s1.heap.objs.size + 2) (s1.heap.objs.size + 3) s1.heap.objs.size (s1.heap.objs.size + 1) [s1.heap.objs.size] [s1.heap.objs.size + 1, b] :=
        zip_sep2 (fp1 := []) (fp2 := [b]) (fun _ h => by cases h) (fun c hc => by rw [List.mem_singleton.mp hc]; exact lb)
      refine ⟨s1.heap.objs.size + 4, [s1.heap.objs.size + 4, s1.heap.objs.size + 2, s1.heap.objs.size + 3, s1.heap.objs.size, s1.heap.objs.size + 1], _, _, H1, rfl, I2, turn_zips (tk0 := tk0) D (Nat.ne_of_lt (Nat.lt_of_lt_of_le lb (Nat.le_add_right _ _))) (Nat.ne_of_lt (Nat.lt_of_lt_of_le lb (Nat.le_add_right _ _))) (Nat.ne_of_lt lb) (Nat.ne_of_lt (Nat.lt_of_lt_of_le lb (Nat.le_add_right _ _))), ⟨hz, hTI, ⟨_, _, hTO⟩, ⟨_, h1, rfl, rfl⟩, ⟨_, h2, rfl, rfl⟩⟩, fun c hcm => ?_, q⟩
      have e' : c = s1.heap.objs.size + 4 ∨ c = s1.heap.objs.size + 2 ∨ c = s1.heap.objs.size + 3 ∨ c = s1.heap.objs.size ∨ c = s1.heap.objs.size + 1 := by simpa using hcm
      have hle : s1.heap.objs.size ≤ c := by
        rcases e' with z | z | z | z | z
        · rw [z]; exact Nat.le_add_right _ _
        · rw [z]; exact Nat.le_add_right _ _
        · rw [z]; exact Nat.le_add_right _ _
        · rw [z]; exact Nat.le_refl _
        · rw [z]; exact Nat.le_add_right _ _
      exact I1.fpOk hle (I1.hok.fresh hle)
end
end Ep
set_option Elab.async false
set_option linter.all false
set_option maxRecDepth 100000
set_option maxHeartbeats 4000000
/-! EpTxt: the facts by names; a def with its promise, and its calls. -/
namespace Ep
open PySem PySem.Spec PyProof.Rows L2
structure Tx (K : PySem.W.Frag) (mg : Str → Option Value) : Prop where
  c : He.SaysD fa fn K
  g : ∃ h : Heap, K.In h ∧ h.Ns mainGlobals mg
section
variable {K : PySem.W.Frag} {mg : Str → Option Value}
theorem Tx.glo (T : Tx K mg) {x : Str} (i : Nat) (h : fa[i]? = some (.glo x)) : mg x = some (.ref (He.ga K x)) := by
  obtain ⟨_, X, G⟩ := T.g
  exact He.glo_ok X G (T.c.fact i h)
theorem Tx.free (T : Tx K mg) {x : Str} (i : Nat) (h : fa[i]? = some (.free x)) : mg x = none := by
  obtain ⟨_, X, G⟩ := T.g
  exact He.free_ok X G (T.c.fact i h)
theorem Tx.int_ (T : Tx K mg) {x : Str} {n : Int} (i : Nat) (h : fa[i]? = some (.int x n)) : ∃ t, mg x = some (.int n t) := by
  obtain ⟨_, X, G⟩ := T.g
  exact He.int_ok X G (T.c.fact i h)
theorem Tx.str_ (T : Tx K mg) {x z : Str} (i : Nat) (h : fa[i]? = some (.str x z)) : ∃ t, mg x = some (.str z t) := by
  obtain ⟨_, X, G⟩ := T.g
  exact He.str_ok X G (T.c.fact i h)
theorem Tx.g_shared_by_both (T : Tx K mg) : mg "shared_by_both" = some (.ref (He.ga K "shared_by_both")) := T.glo 0 rfl
theorem Tx.g_together (T : Tx K mg) : mg "together" = some (.ref (He.ga K "together")) := T.glo 1 rfl
theorem Tx.g_grains_of (T : Tx K mg) : mg "grains_of" = some (.ref (He.ga K "grains_of")) := T.glo 2 rfl
theorem Tx.g_level_for (T : Tx K mg) : mg "level_for" = some (.ref (He.ga K "level_for")) := T.glo 3 rfl
theorem Tx.g_wanters_of (T : Tx K mg) : mg "wanters_of" = some (.ref (He.ga K "wanters_of")) := T.glo 4 rfl
theorem Tx.g_price_of (T : Tx K mg) : mg "price_of" = some (.ref (He.ga K "price_of")) := T.glo 5 rfl
theorem Tx.g_offer_of (T : Tx K mg) : mg "offer_of" = some (.ref (He.ga K "offer_of")) := T.glo 6 rfl
theorem Tx.g_offers_of (T : Tx K mg) : mg "offers_of" = some (.ref (He.ga K "offers_of")) := T.glo 7 rfl
theorem Tx.g_next_of (T : Tx K mg) : mg "next_of" = some (.ref (He.ga K "next_of")) := T.glo 8 rfl
theorem Tx.g_payments (T : Tx K mg) : mg "payments" = some (.ref (He.ga K "payments")) := T.glo 9 rfl
theorem Tx.g_lessened (T : Tx K mg) : mg "lessened" = some (.ref (He.ga K "lessened")) := T.glo 10 rfl
theorem Tx.g_choose (T : Tx K mg) : mg "choose" = some (.ref (He.ga K "choose")) := T.glo 11 rfl
theorem Tx.g_left_of (T : Tx K mg) : mg "left_of" = some (.ref (He.ga K "left_of")) := T.glo 12 rfl
theorem Tx.g_is_chest_name (T : Tx K mg) : mg "is_chest_name" = some (.ref (He.ga K "is_chest_name")) := T.glo 13 rfl
theorem Tx.g_look_new_name (T : Tx K mg) : mg "look_new_name" = some (.ref (He.ga K "look_new_name")) := T.glo 14 rfl
theorem Tx.g_read_words (T : Tx K mg) : mg "read_words" = some (.ref (He.ga K "read_words")) := T.glo 15 rfl
theorem Tx.g_read_number (T : Tx K mg) : mg "read_number" = some (.ref (He.ga K "read_number")) := T.glo 16 rfl
theorem Tx.g_form_behind (T : Tx K mg) : mg "form_behind" = some (.ref (He.ga K "form_behind")) := T.glo 17 rfl
theorem Tx.g_things_behind (T : Tx K mg) : mg "things_behind" = some (.ref (He.ga K "things_behind")) := T.glo 18 rfl
theorem Tx.g_show_closed (T : Tx K mg) : mg "show_closed" = some (.ref (He.ga K "show_closed")) := T.glo 19 rfl
theorem Tx.g_show_works (T : Tx K mg) : mg "show_works" = some (.ref (He.ga K "show_works")) := T.glo 20 rfl
theorem Tx.g_law_nth (T : Tx K mg) : mg "_law_nth" = some (.ref (He.ga K "_law_nth")) := T.glo 21 rfl
theorem Tx.g_law_spins (T : Tx K mg) : mg "_law_spins" = some (.ref (He.ga K "_law_spins")) := T.glo 22 rfl
theorem Tx.g_law_name (T : Tx K mg) : mg "_law_name" = some (.ref (He.ga K "_law_name")) := T.glo 23 rfl
theorem Tx.g_law_number (T : Tx K mg) : mg "_law_number" = some (.ref (He.ga K "_law_number")) := T.glo 24 rfl
theorem Tx.g_law_works (T : Tx K mg) : mg "_law_works" = some (.ref (He.ga K "_law_works")) := T.glo 25 rfl
theorem Tx.g_law_asked (T : Tx K mg) : mg "_law_asked" = some (.ref (He.ga K "_law_asked")) := T.glo 26 rfl
theorem Tx.g_law_sums (T : Tx K mg) : mg "_law_sums" = some (.ref (He.ga K "_law_sums")) := T.glo 27 rfl
theorem Tx.g_law_paid (T : Tx K mg) : mg "_law_paid" = some (.ref (He.ga K "_law_paid")) := T.glo 28 rfl
theorem Tx.g_law_parts_right (T : Tx K mg) : mg "_law_parts_right" = some (.ref (He.ga K "_law_parts_right")) := T.glo 29 rfl
theorem Tx.g_law_too_dear (T : Tx K mg) : mg "_law_too_dear" = some (.ref (He.ga K "_law_too_dear")) := T.glo 30 rfl
theorem Tx.g_law_closed (T : Tx K mg) : mg "_law_closed" = some (.ref (He.ga K "_law_closed")) := T.glo 31 rfl
theorem Tx.g_law_amount (T : Tx K mg) : mg "_law_amount" = some (.ref (He.ga K "_law_amount")) := T.glo 32 rfl
theorem Tx.g_law_row (T : Tx K mg) : mg "_law_row" = some (.ref (He.ga K "_law_row")) := T.glo 33 rfl
theorem Tx.g_law_noted (T : Tx K mg) : mg "_law_noted" = some (.ref (He.ga K "_law_noted")) := T.glo 34 rfl
theorem Tx.g_law_shown (T : Tx K mg) : mg "_law_shown" = some (.ref (He.ga K "_law_shown")) := T.glo 35 rfl
theorem Tx.g_law_refused (T : Tx K mg) : mg "_law_refused" = some (.ref (He.ga K "_law_refused")) := T.glo 36 rfl
theorem Tx.g_law (T : Tx K mg) : mg "law" = some (.ref (He.ga K "law")) := T.glo 37 rfl
theorem Tx.g_Chest (T : Tx K mg) : mg "Chest" = some (.ref (He.ga K "Chest")) := T.glo 38 rfl
theorem Tx.g_Desk (T : Tx K mg) : mg "Desk" = some (.ref (He.ga K "Desk")) := T.glo 39 rfl
theorem Tx.g_PurseError (T : Tx K mg) : mg "PurseError" = some (.ref (He.ga K "PurseError")) := T.glo 40 rfl
theorem Tx.g_Twice (T : Tx K mg) : mg "Twice" = some (.ref (He.ga K "Twice")) := T.glo 41 rfl
theorem Tx.g_NoVoter (T : Tx K mg) : mg "NoVoter" = some (.ref (He.ga K "NoVoter")) := T.glo 42 rfl
theorem Tx.g_NoWork (T : Tx K mg) : mg "NoWork" = some (.ref (He.ga K "NoWork")) := T.glo 43 rfl
theorem Tx.z_len (T : Tx K mg) : mg "len" = none := T.free 44 rfl
theorem Tx.z_range (T : Tx K mg) : mg "range" = none := T.free 45 rfl
theorem Tx.z_sorted (T : Tx K mg) : mg "sorted" = none := T.free 46 rfl
theorem Tx.z_enumerate (T : Tx K mg) : mg "enumerate" = none := T.free 47 rfl
theorem Tx.z_zip (T : Tx K mg) : mg "zip" = none := T.free 48 rfl
theorem Tx.z_min (T : Tx K mg) : mg "min" = none := T.free 49 rfl
theorem Tx.z_max (T : Tx K mg) : mg "max" = none := T.free 50 rfl
theorem Tx.z_divmod (T : Tx K mg) : mg "divmod" = none := T.free 51 rfl
theorem Tx.z_str (T : Tx K mg) : mg "str" = none := T.free 52 rfl
theorem Tx.z_int (T : Tx K mg) : mg "int" = none := T.free 53 rfl
theorem Tx.z_sum (T : Tx K mg) : mg "sum" = none := T.free 54 rfl
theorem Tx.z_isinstance (T : Tx K mg) : mg "isinstance" = none := T.free 55 rfl
theorem Tx.z_list (T : Tx K mg) : mg "list" = none := T.free 56 rfl
theorem Tx.i_MOST_PEOPLE (T : Tx K mg) : ∃ t, mg "MOST_PEOPLE" = some (.int 20 t) := T.int_ 57 rfl
theorem Tx.i_MOST_PLANS (T : Tx K mg) : ∃ t, mg "MOST_PLANS" = some (.int 12 t) := T.int_ 58 rfl
theorem Tx.i_MOST_COINS (T : Tx K mg) : ∃ t, mg "MOST_COINS" = some (.int 1000000000 t) := T.int_ 59 rfl
theorem Tx.i_MOST_WRITTEN (T : Tx K mg) : ∃ t, mg "MOST_WRITTEN" = some (.int 13 t) := T.int_ 60 rfl
theorem Tx.s_LETTERS_KNOWN (T : Tx K mg) : ∃ t, mg "LETTERS_KNOWN" = some (.str "abcdefghijklmnopqrstuvwxyz" t) := T.str_ 61 rfl
theorem Tx.s_TEN_FIGURES (T : Tx K mg) : ∃ t, mg "TEN_FIGURES" = some (.str "0123456789" t) := T.str_ 62 rfl
abbrev cC (K : PySem.W.Frag) : Addr := He.ga K "Chest"
abbrev cD (K : PySem.W.Frag) : Addr := He.ga K "Desk"
theorem Tx.cl_Chest (T : Tx K mg) : Cls K (He.ga K "Chest") := He.cls_ok (T.c.fact 63 rfl)
theorem Tx.cl_Desk (T : Tx K mg) : Cls K (He.ga K "Desk") := He.cls_ok (T.c.fact 64 rfl)
theorem Tx.mk_Chest (T : Tx K mg) : Mk K (He.ga K "Chest") (He.ma K (He.ga K "Chest") "__init__") := He.mkr_ok (T.c.fact 65 rfl)
theorem Tx.mk_Desk (T : Tx K mg) : Mk K (He.ga K "Desk") (He.ma K (He.ga K "Desk") "__init__") := He.mkr_ok (T.c.fact 66 rfl)
theorem Tx.n_chest (T : Tx K mg) : NoAttr K (cD K) "chest" := He.noat_ok (T.c.fact 67 rfl)
theorem Tx.n_people (T : Tx K mg) : NoAttr K (cC K) "people" := He.noat_ok (T.c.fact 68 rfl)
theorem Tx.n_held (T : Tx K mg) : NoAttr K (cC K) "held" := He.noat_ok (T.c.fact 69 rfl)
theorem Tx.n_plans (T : Tx K mg) : NoAttr K (cC K) "plans" := He.noat_ok (T.c.fact 70 rfl)
theorem Tx.n_prices (T : Tx K mg) : NoAttr K (cC K) "prices" := He.noat_ok (T.c.fact 71 rfl)
theorem Tx.n_wished (T : Tx K mg) : NoAttr K (cC K) "wished" := He.noat_ok (T.c.fact 72 rfl)
theorem Tx.n_well (T : Tx K mg) : NoAttr K (cC K) "well" := He.noat_ok (T.c.fact 73 rfl)
theorem Tx.n_gifts (T : Tx K mg) : NoAttr K (cC K) "gifts" := He.noat_ok (T.c.fact 74 rfl)
theorem Tx.n_outlay (T : Tx K mg) : NoAttr K (cC K) "outlay" := He.noat_ok (T.c.fact 75 rfl)
theorem Tx.m_voters (T : Tx K mg) : Meth K (cC K) "voters" (He.ma K (cC K) "voters") := He.meth_ok (T.c.fact 76 rfl)
theorem Tx.m_wanting (T : Tx K mg) : Meth K (cC K) "wanting" (He.ma K (cC K) "wanting") := He.meth_ok (T.c.fact 77 rfl)
theorem Tx.m_works (T : Tx K mg) : Meth K (cC K) "works" (He.ma K (cC K) "works") := He.meth_ok (T.c.fact 78 rfl)
theorem Tx.m_pot (T : Tx K mg) : Meth K (cC K) "pot" (He.ma K (cC K) "pot") := He.meth_ok (T.c.fact 79 rfl)
theorem Tx.m_given (T : Tx K mg) : Meth K (cC K) "given" (He.ma K (cC K) "given") := He.meth_ok (T.c.fact 80 rfl)
theorem Tx.m_spent (T : Tx K mg) : Meth K (cC K) "spent" (He.ma K (cC K) "spent") := He.meth_ok (T.c.fact 81 rfl)
theorem Tx.m_look_voter (T : Tx K mg) : Meth K (cC K) "look_voter" (He.ma K (cC K) "look_voter") := He.meth_ok (T.c.fact 82 rfl)
theorem Tx.m_look_work (T : Tx K mg) : Meth K (cC K) "look_work" (He.ma K (cC K) "look_work") := He.meth_ok (T.c.fact 83 rfl)
theorem Tx.m_enrol (T : Tx K mg) : Meth K (cC K) "enrol" (He.ma K (cC K) "enrol") := He.meth_ok (T.c.fact 84 rfl)
theorem Tx.m_leave (T : Tx K mg) : Meth K (cC K) "leave" (He.ma K (cC K) "leave") := He.meth_ok (T.c.fact 85 rfl)
theorem Tx.m_give (T : Tx K mg) : Meth K (cC K) "give" (He.ma K (cC K) "give") := He.meth_ok (T.c.fact 86 rfl)
theorem Tx.m_propose (T : Tx K mg) : Meth K (cC K) "propose" (He.ma K (cC K) "propose") := He.meth_ok (T.c.fact 87 rfl)
theorem Tx.m_withdraw (T : Tx K mg) : Meth K (cC K) "withdraw" (He.ma K (cC K) "withdraw") := He.meth_ok (T.c.fact 88 rfl)
theorem Tx.m_want (T : Tx K mg) : Meth K (cC K) "want" (He.ma K (cC K) "want") := He.meth_ok (T.c.fact 89 rfl)
theorem Tx.m_unwant (T : Tx K mg) : Meth K (cC K) "unwant" (He.ma K (cC K) "unwant") := He.meth_ok (T.c.fact 90 rfl)
theorem Tx.m_wishes_now (T : Tx K mg) : Meth K (cC K) "wishes_now" (He.ma K (cC K) "wishes_now") := He.meth_ok (T.c.fact 91 rfl)
theorem Tx.m_keep_whole (T : Tx K mg) : Meth K (cC K) "keep_whole" (He.ma K (cC K) "keep_whole") := He.meth_ok (T.c.fact 92 rfl)
theorem Tx.m_told_step (T : Tx K mg) : Meth K (cC K) "told_step" (He.ma K (cC K) "told_step") := He.meth_ok (T.c.fact 93 rfl)
theorem Tx.m_close (T : Tx K mg) : Meth K (cC K) "close" (He.ma K (cC K) "close") := He.meth_ok (T.c.fact 94 rfl)
theorem Tx.m_say (T : Tx K mg) : Meth K (cD K) "say" (He.ma K (cD K) "say") := He.meth_ok (T.c.fact 95 rfl)
theorem Tx.m_done_by (T : Tx K mg) : Meth K (cD K) "done_by" (He.ma K (cD K) "done_by") := He.meth_ok (T.c.fact 96 rfl)
theorem Tx.m_asked_of (T : Tx K mg) : Meth K (cD K) "asked_of" (He.ma K (cD K) "asked_of") := He.meth_ok (T.c.fact 97 rfl)
theorem Tx.x_Twice (T : Tx K mg) : PySem.W.excIn K (He.ga K "Twice") He.veBase "ValueError.__new__" = true ∧ PySem.W.keepIn K (.ref (He.ga K "Twice")) = true ∧ PySem.W.subIn K (.ref (He.ga K "Twice")) (.type "BaseException") = some true ∧ PySem.W.typeIn K (.ref (He.ga K "Twice")) = some (.type "type") := He.exc_ok (T.c.fact 98 rfl)
theorem Tx.x_NoVoter (T : Tx K mg) : PySem.W.excIn K (He.ga K "NoVoter") He.veBase "ValueError.__new__" = true ∧ PySem.W.keepIn K (.ref (He.ga K "NoVoter")) = true ∧ PySem.W.subIn K (.ref (He.ga K "NoVoter")) (.type "BaseException") = some true ∧ PySem.W.typeIn K (.ref (He.ga K "NoVoter")) = some (.type "type") := He.exc_ok (T.c.fact 99 rfl)
theorem Tx.x_NoWork (T : Tx K mg) : PySem.W.excIn K (He.ga K "NoWork") He.veBase "ValueError.__new__" = true ∧ PySem.W.keepIn K (.ref (He.ga K "NoWork")) = true ∧ PySem.W.subIn K (.ref (He.ga K "NoWork")) (.type "BaseException") = some true ∧ PySem.W.typeIn K (.ref (He.ga K "NoWork")) = some (.type "type") := He.exc_ok (T.c.fact 100 rfl)
theorem Tx.e_Twice (T : Tx K mg) : PySem.W.exmOne K (.ref (He.ga K "Twice")) (.ref (He.ga K "PurseError")) = some true := He.exm_ok (T.c.fact 101 rfl)
theorem Tx.e_NoVoter (T : Tx K mg) : PySem.W.exmOne K (.ref (He.ga K "NoVoter")) (.ref (He.ga K "PurseError")) = some true := He.exm_ok (T.c.fact 102 rfl)
theorem Tx.e_NoWork (T : Tx K mg) : PySem.W.exmOne K (.ref (He.ga K "NoWork")) (.ref (He.ga K "PurseError")) = some true := He.exm_ok (T.c.fact 103 rfl)
theorem Tx.f_shared_by_both (T : Tx K mg) : ∃ fd, FunD K d_shared_by_both.name d_shared_by_both.qual (defArgs s_shared_by_both) (defBody s_shared_by_both) (defScope s_shared_by_both) [] [] (He.fAd K d_shared_by_both.at_) fd := T.c.def_ 0 (d := d_shared_by_both) rfl
theorem Tx.f_together (T : Tx K mg) : ∃ fd, FunD K d_together.name d_together.qual (defArgs s_together) (defBody s_together) (defScope s_together) [] [] (He.fAd K d_together.at_) fd := T.c.def_ 1 (d := d_together) rfl
theorem Tx.f_grains_of (T : Tx K mg) : ∃ fd, FunD K d_grains_of.name d_grains_of.qual (defArgs s_grains_of) (defBody s_grains_of) (defScope s_grains_of) [] [] (He.fAd K d_grains_of.at_) fd := T.c.def_ 2 (d := d_grains_of) rfl
theorem Tx.f_level_for (T : Tx K mg) : ∃ fd, FunD K d_level_for.name d_level_for.qual (defArgs s_level_for) (defBody s_level_for) (defScope s_level_for) [] [] (He.fAd K d_level_for.at_) fd := T.c.def_ 3 (d := d_level_for) rfl
theorem Tx.f_wanters_of (T : Tx K mg) : ∃ fd, FunD K d_wanters_of.name d_wanters_of.qual (defArgs s_wanters_of) (defBody s_wanters_of) (defScope s_wanters_of) [] [] (He.fAd K d_wanters_of.at_) fd := T.c.def_ 4 (d := d_wanters_of) rfl
theorem Tx.f_price_of (T : Tx K mg) : ∃ fd, FunD K d_price_of.name d_price_of.qual (defArgs s_price_of) (defBody s_price_of) (defScope s_price_of) [] [] (He.fAd K d_price_of.at_) fd := T.c.def_ 5 (d := d_price_of) rfl
theorem Tx.f_offer_of (T : Tx K mg) : ∃ fd, FunD K d_offer_of.name d_offer_of.qual (defArgs s_offer_of) (defBody s_offer_of) (defScope s_offer_of) [] [] (He.fAd K d_offer_of.at_) fd := T.c.def_ 6 (d := d_offer_of) rfl
theorem Tx.f_offers_of (T : Tx K mg) : ∃ fd, FunD K d_offers_of.name d_offers_of.qual (defArgs s_offers_of) (defBody s_offers_of) (defScope s_offers_of) [] [] (He.fAd K d_offers_of.at_) fd := T.c.def_ 7 (d := d_offers_of) rfl
theorem Tx.f_next_of (T : Tx K mg) : ∃ fd, FunD K d_next_of.name d_next_of.qual (defArgs s_next_of) (defBody s_next_of) (defScope s_next_of) [] [] (He.fAd K d_next_of.at_) fd := T.c.def_ 8 (d := d_next_of) rfl
theorem Tx.f_payments (T : Tx K mg) : ∃ fd, FunD K d_payments.name d_payments.qual (defArgs s_payments) (defBody s_payments) (defScope s_payments) [] [] (He.fAd K d_payments.at_) fd := T.c.def_ 9 (d := d_payments) rfl
theorem Tx.f_lessened (T : Tx K mg) : ∃ fd, FunD K d_lessened.name d_lessened.qual (defArgs s_lessened) (defBody s_lessened) (defScope s_lessened) [] [] (He.fAd K d_lessened.at_) fd := T.c.def_ 10 (d := d_lessened) rfl
theorem Tx.f_choose (T : Tx K mg) : ∃ fd, FunD K d_choose.name d_choose.qual (defArgs s_choose) (defBody s_choose) (defScope s_choose) [] [] (He.fAd K d_choose.at_) fd := T.c.def_ 11 (d := d_choose) rfl
theorem Tx.f_left_of (T : Tx K mg) : ∃ fd, FunD K d_left_of.name d_left_of.qual (defArgs s_left_of) (defBody s_left_of) (defScope s_left_of) [] [] (He.fAd K d_left_of.at_) fd := T.c.def_ 12 (d := d_left_of) rfl
theorem Tx.f_is_chest_name (T : Tx K mg) : ∃ fd, FunD K d_is_chest_name.name d_is_chest_name.qual (defArgs s_is_chest_name) (defBody s_is_chest_name) (defScope s_is_chest_name) [] [] (He.fAd K d_is_chest_name.at_) fd := T.c.def_ 13 (d := d_is_chest_name) rfl
theorem Tx.f_look_new_name (T : Tx K mg) : ∃ fd, FunD K d_look_new_name.name d_look_new_name.qual (defArgs s_look_new_name) (defBody s_look_new_name) (defScope s_look_new_name) [] [] (He.fAd K d_look_new_name.at_) fd := T.c.def_ 14 (d := d_look_new_name) rfl
theorem Tx.f_Chest_init (T : Tx K mg) : ∃ fd, FunD K d_Chest_init.name d_Chest_init.qual (defArgs s_Chest_init) (defBody s_Chest_init) (defScope s_Chest_init) [] [] (He.fAd K d_Chest_init.at_) fd := T.c.def_ 15 (d := d_Chest_init) rfl
theorem Tx.f_Chest_voters (T : Tx K mg) : ∃ fd, FunD K d_Chest_voters.name d_Chest_voters.qual (defArgs s_Chest_voters) (defBody s_Chest_voters) (defScope s_Chest_voters) [] [] (He.fAd K d_Chest_voters.at_) fd := T.c.def_ 16 (d := d_Chest_voters) rfl
theorem Tx.f_Chest_wanting (T : Tx K mg) : ∃ fd, FunD K d_Chest_wanting.name d_Chest_wanting.qual (defArgs s_Chest_wanting) (defBody s_Chest_wanting) (defScope s_Chest_wanting) [] [] (He.fAd K d_Chest_wanting.at_) fd := T.c.def_ 17 (d := d_Chest_wanting) rfl
theorem Tx.f_Chest_works (T : Tx K mg) : ∃ fd, FunD K d_Chest_works.name d_Chest_works.qual (defArgs s_Chest_works) (defBody s_Chest_works) (defScope s_Chest_works) [] [] (He.fAd K d_Chest_works.at_) fd := T.c.def_ 18 (d := d_Chest_works) rfl
theorem Tx.f_Chest_pot (T : Tx K mg) : ∃ fd, FunD K d_Chest_pot.name d_Chest_pot.qual (defArgs s_Chest_pot) (defBody s_Chest_pot) (defScope s_Chest_pot) [] [] (He.fAd K d_Chest_pot.at_) fd := T.c.def_ 19 (d := d_Chest_pot) rfl
theorem Tx.f_Chest_given (T : Tx K mg) : ∃ fd, FunD K d_Chest_given.name d_Chest_given.qual (defArgs s_Chest_given) (defBody s_Chest_given) (defScope s_Chest_given) [] [] (He.fAd K d_Chest_given.at_) fd := T.c.def_ 20 (d := d_Chest_given) rfl
theorem Tx.f_Chest_spent (T : Tx K mg) : ∃ fd, FunD K d_Chest_spent.name d_Chest_spent.qual (defArgs s_Chest_spent) (defBody s_Chest_spent) (defScope s_Chest_spent) [] [] (He.fAd K d_Chest_spent.at_) fd := T.c.def_ 21 (d := d_Chest_spent) rfl
theorem Tx.f_Chest_look_voter (T : Tx K mg) : ∃ fd, FunD K d_Chest_look_voter.name d_Chest_look_voter.qual (defArgs s_Chest_look_voter) (defBody s_Chest_look_voter) (defScope s_Chest_look_voter) [] [] (He.fAd K d_Chest_look_voter.at_) fd := T.c.def_ 22 (d := d_Chest_look_voter) rfl
theorem Tx.f_Chest_look_work (T : Tx K mg) : ∃ fd, FunD K d_Chest_look_work.name d_Chest_look_work.qual (defArgs s_Chest_look_work) (defBody s_Chest_look_work) (defScope s_Chest_look_work) [] [] (He.fAd K d_Chest_look_work.at_) fd := T.c.def_ 23 (d := d_Chest_look_work) rfl
theorem Tx.f_Chest_enrol (T : Tx K mg) : ∃ fd, FunD K d_Chest_enrol.name d_Chest_enrol.qual (defArgs s_Chest_enrol) (defBody s_Chest_enrol) (defScope s_Chest_enrol) [] [] (He.fAd K d_Chest_enrol.at_) fd := T.c.def_ 24 (d := d_Chest_enrol) rfl
theorem Tx.f_Chest_leave (T : Tx K mg) : ∃ fd, FunD K d_Chest_leave.name d_Chest_leave.qual (defArgs s_Chest_leave) (defBody s_Chest_leave) (defScope s_Chest_leave) [] [] (He.fAd K d_Chest_leave.at_) fd := T.c.def_ 25 (d := d_Chest_leave) rfl
theorem Tx.f_Chest_give (T : Tx K mg) : ∃ fd, FunD K d_Chest_give.name d_Chest_give.qual (defArgs s_Chest_give) (defBody s_Chest_give) (defScope s_Chest_give) [] [] (He.fAd K d_Chest_give.at_) fd := T.c.def_ 26 (d := d_Chest_give) rfl
theorem Tx.f_Chest_propose (T : Tx K mg) : ∃ fd, FunD K d_Chest_propose.name d_Chest_propose.qual (defArgs s_Chest_propose) (defBody s_Chest_propose) (defScope s_Chest_propose) [] [] (He.fAd K d_Chest_propose.at_) fd := T.c.def_ 27 (d := d_Chest_propose) rfl
theorem Tx.f_Chest_withdraw (T : Tx K mg) : ∃ fd, FunD K d_Chest_withdraw.name d_Chest_withdraw.qual (defArgs s_Chest_withdraw) (defBody s_Chest_withdraw) (defScope s_Chest_withdraw) [] [] (He.fAd K d_Chest_withdraw.at_) fd := T.c.def_ 28 (d := d_Chest_withdraw) rfl
theorem Tx.f_Chest_want (T : Tx K mg) : ∃ fd, FunD K d_Chest_want.name d_Chest_want.qual (defArgs s_Chest_want) (defBody s_Chest_want) (defScope s_Chest_want) [] [] (He.fAd K d_Chest_want.at_) fd := T.c.def_ 29 (d := d_Chest_want) rfl
theorem Tx.f_Chest_unwant (T : Tx K mg) : ∃ fd, FunD K d_Chest_unwant.name d_Chest_unwant.qual (defArgs s_Chest_unwant) (defBody s_Chest_unwant) (defScope s_Chest_unwant) [] [] (He.fAd K d_Chest_unwant.at_) fd := T.c.def_ 30 (d := d_Chest_unwant) rfl
theorem Tx.f_Chest_wishes_now (T : Tx K mg) : ∃ fd, FunD K d_Chest_wishes_now.name d_Chest_wishes_now.qual (defArgs s_Chest_wishes_now) (defBody s_Chest_wishes_now) (defScope s_Chest_wishes_now) [] [] (He.fAd K d_Chest_wishes_now.at_) fd := T.c.def_ 31 (d := d_Chest_wishes_now) rfl
theorem Tx.f_Chest_keep_whole (T : Tx K mg) : ∃ fd, FunD K d_Chest_keep_whole.name d_Chest_keep_whole.qual (defArgs s_Chest_keep_whole) (defBody s_Chest_keep_whole) (defScope s_Chest_keep_whole) [] [] (He.fAd K d_Chest_keep_whole.at_) fd := T.c.def_ 32 (d := d_Chest_keep_whole) rfl
theorem Tx.f_Chest_told_step (T : Tx K mg) : ∃ fd, FunD K d_Chest_told_step.name d_Chest_told_step.qual (defArgs s_Chest_told_step) (defBody s_Chest_told_step) (defScope s_Chest_told_step) [] [] (He.fAd K d_Chest_told_step.at_) fd := T.c.def_ 33 (d := d_Chest_told_step) rfl
theorem Tx.f_Chest_close (T : Tx K mg) : ∃ fd, FunD K d_Chest_close.name d_Chest_close.qual (defArgs s_Chest_close) (defBody s_Chest_close) (defScope s_Chest_close) [] [] (He.fAd K d_Chest_close.at_) fd := T.c.def_ 34 (d := d_Chest_close) rfl
theorem Tx.f_read_words (T : Tx K mg) : ∃ fd, FunD K d_read_words.name d_read_words.qual (defArgs s_read_words) (defBody s_read_words) (defScope s_read_words) [] [] (He.fAd K d_read_words.at_) fd := T.c.def_ 35 (d := d_read_words) rfl
theorem Tx.f_read_number (T : Tx K mg) : ∃ fd, FunD K d_read_number.name d_read_number.qual (defArgs s_read_number) (defBody s_read_number) (defScope s_read_number) [] [] (He.fAd K d_read_number.at_) fd := T.c.def_ 36 (d := d_read_number) rfl
theorem Tx.f_form_behind (T : Tx K mg) : ∃ fd, FunD K d_form_behind.name d_form_behind.qual (defArgs s_form_behind) (defBody s_form_behind) (defScope s_form_behind) [] [] (He.fAd K d_form_behind.at_) fd := T.c.def_ 37 (d := d_form_behind) rfl
theorem Tx.f_things_behind (T : Tx K mg) : ∃ fd, FunD K d_things_behind.name d_things_behind.qual (defArgs s_things_behind) (defBody s_things_behind) (defScope s_things_behind) [] [] (He.fAd K d_things_behind.at_) fd := T.c.def_ 38 (d := d_things_behind) rfl
theorem Tx.f_show_closed (T : Tx K mg) : ∃ fd, FunD K d_show_closed.name d_show_closed.qual (defArgs s_show_closed) (defBody s_show_closed) (defScope s_show_closed) [] [] (He.fAd K d_show_closed.at_) fd := T.c.def_ 39 (d := d_show_closed) rfl
theorem Tx.f_show_works (T : Tx K mg) : ∃ fd, FunD K d_show_works.name d_show_works.qual (defArgs s_show_works) (defBody s_show_works) (defScope s_show_works) [] [] (He.fAd K d_show_works.at_) fd := T.c.def_ 40 (d := d_show_works) rfl
theorem Tx.f_Desk_init (T : Tx K mg) : ∃ fd, FunD K d_Desk_init.name d_Desk_init.qual (defArgs s_Desk_init) (defBody s_Desk_init) (defScope s_Desk_init) [] [] (He.fAd K d_Desk_init.at_) fd := T.c.def_ 41 (d := d_Desk_init) rfl
theorem Tx.f_Desk_say (T : Tx K mg) : ∃ fd, FunD K d_Desk_say.name d_Desk_say.qual (defArgs s_Desk_say) (defBody s_Desk_say) (defScope s_Desk_say) [] [] (He.fAd K d_Desk_say.at_) fd := T.c.def_ 42 (d := d_Desk_say) rfl
theorem Tx.f_Desk_done_by (T : Tx K mg) : ∃ fd, FunD K d_Desk_done_by.name d_Desk_done_by.qual (defArgs s_Desk_done_by) (defBody s_Desk_done_by) (defScope s_Desk_done_by) [] [] (He.fAd K d_Desk_done_by.at_) fd := T.c.def_ 43 (d := d_Desk_done_by) rfl
theorem Tx.f_Desk_asked_of (T : Tx K mg) : ∃ fd, FunD K d_Desk_asked_of.name d_Desk_asked_of.qual (defArgs s_Desk_asked_of) (defBody s_Desk_asked_of) (defScope s_Desk_asked_of) [] [] (He.fAd K d_Desk_asked_of.at_) fd := T.c.def_ 44 (d := d_Desk_asked_of) rfl
theorem Tx.f_law_nth (T : Tx K mg) : ∃ fd, FunD K d_law_nth.name d_law_nth.qual (defArgs s_law_nth) (defBody s_law_nth) (defScope s_law_nth) [] [] (He.fAd K d_law_nth.at_) fd := T.c.def_ 45 (d := d_law_nth) rfl
theorem Tx.f_law_spins (T : Tx K mg) : ∃ fd, FunD K d_law_spins.name d_law_spins.qual (defArgs s_law_spins) (defBody s_law_spins) (defScope s_law_spins) [] [] (He.fAd K d_law_spins.at_) fd := T.c.def_ 46 (d := d_law_spins) rfl
theorem Tx.f_law_name (T : Tx K mg) : ∃ fd, FunD K d_law_name.name d_law_name.qual (defArgs s_law_name) (defBody s_law_name) (defScope s_law_name) [] [] (He.fAd K d_law_name.at_) fd := T.c.def_ 47 (d := d_law_name) rfl
theorem Tx.f_law_number (T : Tx K mg) : ∃ fd, FunD K d_law_number.name d_law_number.qual (defArgs s_law_number) (defBody s_law_number) (defScope s_law_number) [] [] (He.fAd K d_law_number.at_) fd := T.c.def_ 48 (d := d_law_number) rfl
theorem Tx.f_law_works (T : Tx K mg) : ∃ fd, FunD K d_law_works.name d_law_works.qual (defArgs s_law_works) (defBody s_law_works) (defScope s_law_works) [] [] (He.fAd K d_law_works.at_) fd := T.c.def_ 49 (d := d_law_works) rfl
theorem Tx.f_law_asked (T : Tx K mg) : ∃ fd, FunD K d_law_asked.name d_law_asked.qual (defArgs s_law_asked) (defBody s_law_asked) (defScope s_law_asked) [] [] (He.fAd K d_law_asked.at_) fd := T.c.def_ 50 (d := d_law_asked) rfl
theorem Tx.f_law_sums (T : Tx K mg) : ∃ fd, FunD K d_law_sums.name d_law_sums.qual (defArgs s_law_sums) (defBody s_law_sums) (defScope s_law_sums) [] [] (He.fAd K d_law_sums.at_) fd := T.c.def_ 51 (d := d_law_sums) rfl
theorem Tx.f_law_paid (T : Tx K mg) : ∃ fd, FunD K d_law_paid.name d_law_paid.qual (defArgs s_law_paid) (defBody s_law_paid) (defScope s_law_paid) [] [] (He.fAd K d_law_paid.at_) fd := T.c.def_ 52 (d := d_law_paid) rfl
theorem Tx.f_law_parts_right (T : Tx K mg) : ∃ fd, FunD K d_law_parts_right.name d_law_parts_right.qual (defArgs s_law_parts_right) (defBody s_law_parts_right) (defScope s_law_parts_right) [] [] (He.fAd K d_law_parts_right.at_) fd := T.c.def_ 53 (d := d_law_parts_right) rfl
theorem Tx.f_law_too_dear (T : Tx K mg) : ∃ fd, FunD K d_law_too_dear.name d_law_too_dear.qual (defArgs s_law_too_dear) (defBody s_law_too_dear) (defScope s_law_too_dear) [] [] (He.fAd K d_law_too_dear.at_) fd := T.c.def_ 54 (d := d_law_too_dear) rfl
theorem Tx.f_law_closed (T : Tx K mg) : ∃ fd, FunD K d_law_closed.name d_law_closed.qual (defArgs s_law_closed) (defBody s_law_closed) (defScope s_law_closed) [] [] (He.fAd K d_law_closed.at_) fd := T.c.def_ 55 (d := d_law_closed) rfl
theorem Tx.f_law_amount (T : Tx K mg) : ∃ fd, FunD K d_law_amount.name d_law_amount.qual (defArgs s_law_amount) (defBody s_law_amount) (defScope s_law_amount) [] [] (He.fAd K d_law_amount.at_) fd := T.c.def_ 56 (d := d_law_amount) rfl
theorem Tx.f_law_row (T : Tx K mg) : ∃ fd, FunD K d_law_row.name d_law_row.qual (defArgs s_law_row) (defBody s_law_row) (defScope s_law_row) [] [] (He.fAd K d_law_row.at_) fd := T.c.def_ 57 (d := d_law_row) rfl
theorem Tx.f_law_noted (T : Tx K mg) : ∃ fd, FunD K d_law_noted.name d_law_noted.qual (defArgs s_law_noted) (defBody s_law_noted) (defScope s_law_noted) [] [] (He.fAd K d_law_noted.at_) fd := T.c.def_ 58 (d := d_law_noted) rfl
theorem Tx.f_law_shown (T : Tx K mg) : ∃ fd, FunD K d_law_shown.name d_law_shown.qual (defArgs s_law_shown) (defBody s_law_shown) (defScope s_law_shown) [] [] (He.fAd K d_law_shown.at_) fd := T.c.def_ 59 (d := d_law_shown) rfl
theorem Tx.f_law_refused (T : Tx K mg) : ∃ fd, FunD K d_law_refused.name d_law_refused.qual (defArgs s_law_refused) (defBody s_law_refused) (defScope s_law_refused) [] [] (He.fAd K d_law_refused.at_) fd := T.c.def_ 60 (d := d_law_refused) rfl
theorem Tx.f_law (T : Tx K mg) : ∃ fd, FunD K d_law.name d_law.qual (defArgs s_law) (defBody s_law) (defScope s_law) [] [] (He.fAd K d_law.at_) fd := T.c.def_ 61 (d := d_law) rfl
end
/-! ### a def with its promise -/
def Def (P : Program) (w : World) (K : PySem.W.Frag) (mg : Str → Option Value) (base : Heap) (CX : CXT) (k : Nat) (f : Addr) (ps : List Str) (sp : Sp) : Prop :=
  ∃ fd, FnOk P w K mg base CX k f fd ps sp ∧ Binds K fd ps [] ∧ PySem.W.keepIn K (.ref f) = true
section
variable {X : Cx} {CX : CXT} {k j : Nat} {f C : Addr} {ps : List Str} {sp : Sp} {x m : Str} {p pos apos : Pos} {e o : Expr} {es : List Expr} {ta : TE} {t : TA} {E : XK}
theorem pe_f (D : Def X.prog X.w X.K X.mg X.base CX k f ps sp) (hr : Room j X.A) (hx : Passes CX X E) (hm : X.mg x = some (.ref f)) (ha : PA X (e :: es) t) (hk : k ≤ j := by decide) (hg : Gl X x := by rfl)
    (hd : (x == ("__debug__" : Str)) = false := by decide) (he : starEach (e :: es) X.env = (false, eval e X.env) :: starEach es X.env := by rfl) (hpl : (backTo pos (starEach es X.env)).any (·.1) = false := by rfl) :
    PE X (.Call (.Name x p) (e :: es) [] pos) (tCall sp [] E t) := by
  obtain ⟨fd, F, b, kp⟩ := D
  exact pe_call F (hr.mono hk) hg hm kp b .nil hx ha hd he hpl
theorem pe_m {pl : Sem Bool} (D : Def X.prog X.w X.K X.mg X.base CX k f ps sp) (hr : Room j X.A) (hx : Passes CX X E) (c : Cls X.K C) (hm : Meth X.K C m f) (ho : PE X o ta) (ha : PA X (e :: es) t) (hk : k ≤ j := by decide)
    (hst : starEach (e :: es) X.env = (false, eval e X.env) :: starEach es X.env := by rfl) (hpl : (backTo pos (starEach es X.env)).any (·.1) = false := by rfl)
    (ht : eval (.Call (.Attribute o m apos) (e :: es) [] pos) X.env = (do
      let ov ← eval o X.env
      standAt apos.atName
      let (f, first) ← holding [ov] (getMethod ov m pl)
      callWith pos f first (backTo pos (starEach (e :: es) X.env)) (backToKw pos (keywordEach [] X.env))) := by rfl) :
    PE X (.Call (.Attribute o m apos) (e :: es) [] pos) (tMeth C m sp [] E ta t) := by
  obtain ⟨fd, F, b, kp⟩ := D
  exact pe_meth ho c hm F (hr.mono hk) b .nil hx ha hst hpl ht
theorem pe_m0 {pl : Sem Bool} (D : Def X.prog X.w X.K X.mg X.base CX k f ps sp) (hr : Room j X.A) (hx : Passes CX X E) (c : Cls X.K C) (hm : Meth X.K C m f) (ho : PE X o ta) (hk : k ≤ j := by decide)
    (ht : eval (.Call (.Attribute o m apos) [] [] pos) X.env = (do
      let ov ← eval o X.env
      standAt apos.atName
      let (f, first) ← holding [ov] (getMethod ov m pl)
      callWith pos f first (backTo pos (starEach [] X.env)) (backToKw pos (keywordEach [] X.env))) := by rfl) :
    PE X (.Call (.Attribute o m apos) [] [] pos) (tMeth C m sp [] E ta tNil) := by
  obtain ⟨fd, F, b, kp⟩ := D
  exact pe_meth0 ho c hm F (hr.mono hk) b .nil hx ht
/-- the wish of a def that may raise, for its calls -/
theorem passX {E : XK} (hs : X.stack = X.env :: X.outer) (hf : X.env.frame = some X.env.locals) (hex : X.ex = []) {E₁ : Value → Shared → Prop}
    (hx : X.xe = fun e s' => wpAny (model X.prog X.w) X.A (leaving X.env e) (fun _ s'' => L2.CX X.prog X.w X.outer X.H_0 X.s_0 E e s'') E₁ s') : Passes (L2.CX X.prog X.w) X E :=
  passes_call (takes_of hs hf hex hx) fun _ _ _ _ h => h
end
/-! ### lists by a function in the heap -/
theorem sz_of {n : Nat} (h : n ≤ 100000) : n ≤ sizeLine := Nat.le_trans h (by decide)
theorem sz_lt {n : Nat} (h : n < 100000) : n < sizeLine := Nat.lt_of_lt_of_le h (by decide)
theorem snew {H : Hp} {p : Addr} {o : HO} (h : H p = none) : Same H (upd H p o) := fun a u e => by
  rw [upd_ne (ne_of_none e h)]
  exact e
/-- an object that H does not know may change -/
theorem smut {H H' : Hp} {p : Addr} {o : HO} (e : Same H H') (h : H p = none) : Same H (upd H' p o) := fun a u ha => by
  rw [upd_ne (ne_of_none ha h)]
  exact e a u ha
end Ep
set_option Elab.async false
set_option linter.all false
set_option maxRecDepth 100000
set_option maxHeartbeats 0
namespace Ep
open PySem PySem.Spec PyProof.Rows L2
abbrev R : PySem.W.OpenRow := PySem.W.OpenLaw.row PySem.Challenge.rw_purse_k54_whole_text_years
abbrev hk : PySem.W.Hook := He.hookD 5 fa fn
def ob (s : PySem.W.SharedT) : He.AlD := He.obsDG 5 fa fn (HandSHeadRun.getT s)
theorem ob_eq (s : PySem.W.SharedT) : ob s = hk.obs s.abs := He.obsDG_eq (HandSHeadRun.getT_eq s)
def loose : List Str := (["shared_by_both", "together", "grains_of", "level_for", "wanters_of", "price_of", "offer_of", "offers_of", "next_of", "payments", "lessened", "choose", "left_of", "PurseError", "TooMuch", "NoName", "Twice", "NoVoter"] : List Str) ++ (["NoWork", "Full", "NoRow", "MOST_PEOPLE", "MOST_PLANS", "MOST_COINS", "LETTERS_KNOWN", "is_chest_name", "look_new_name", "Chest", "TEN_FIGURES", "MOST_WRITTEN", "read_words", "read_number", "form_behind", "things_behind", "show_closed", "show_works"] : List Str) ++ (["Desk", "_law_nth", "_law_spins", "_law_name", "_law_number", "_law_works", "_law_asked", "_law_sums", "_law_paid", "_law_parts_right", "_law_too_dear", "_law_closed", "_law_amount", "_law_row", "_law_noted", "_law_shown", "_law_refused"] : List Str)
theorem run (w : World) : HandSHeadRun.RunEq R (PySem.W.view R.prog [63]) hk ob 40000 loose w := by
  intro os
  kernel_rfl
end Ep
set_option Elab.async false
set_option linter.all false
set_option maxRecDepth 100000
set_option maxHeartbeats 4000000
/-! EpNum: purse/grains.py. -/
namespace Ep
open PySem PySem.Spec PyProof.Rows L2
/-! ### promises -/
def spGcd : Sp := fun vs H Q _ => ∃ a b : Nat, vs = [.int a, .int b] ∧ Q (.int (Nat.gcd b a : Nat)) H
def spTogether : Sp := fun vs H Q _ => ∃ n : Nat, vs = [.int n] ∧ n ≤ 6 ∧ Q (.int (lcmTo n : Nat)) H
def spGrains : Sp := fun vs H Q _ => ∃ v w : Nat, vs = [.int v, .int w] ∧ v ≤ 6 ∧ w ≤ 6 ∧ Q (.int (gr v w : Nat)) H
section
variable {P : Program} {w : World} {K : PySem.W.Frag} {mg : Str → Option Value} {base : Heap}
theorem sc_gcd : FnScope ["one", "other"] ["one", "other"] (defScope s_shared_by_both) := ⟨rfl, rfl, rfl, by decide +kernel, rfl, by decide +kernel, by decide +kernel⟩
theorem ok_gcd (T : Tx K mg) : Def P w K mg base CX0 1 (He.fAd K d_shared_by_both.at_) ["one", "other"] spGcd := by
  obtain ⟨fd, F⟩ := T.f_shared_by_both
  refine ⟨fd, F.ok sc_gcd (fun vs H Q E h => ?_) (fun cdv A outer s H vs Q E hr h => ?_), F.bindsN (fun _ _ _ _ _ _ us hl => match us, hl with | [_, _], _ => rfl), F.kp⟩
  · obtain ⟨_, _, rfl, _⟩ := h
    rfl
  · obtain ⟨a, b, rfl, k⟩ := h
    -- while other > 0: one, other = other, one % other
    refine ⟨_, PSs.nox (pss_cons (ps_while PassesOwn.never (pt_cmpR op_gt (pv 1) pe_int (nomark _))
      (pss_one (ps_par (i := 0) (j := 1) rfl sc_gcd.nd rfl rfl (by decide) rfl rfl (pa_cons (pv 1) (pa_cons (pe_op op_mod (pv 0) (pv 1)) pa_nil)) (by rfl))))
      (pss_one (ps_ret (pv 0)))), ?_⟩
    refine ⟨fun m σ H' => ∃ x y : Nat, σ = [some (.int x), some (.int y)] ∧ H' = H ∧ m = y ∧ Nat.gcd y x = Nat.gcd b a, ⟨b, a, b, rfl, rfl, rfl, rfl⟩, ?_⟩
    rintro m σ H' ⟨x, y, rfl, rfl, rfl, e⟩
    refine ⟨_, rfl, _, _, rfl, rfl, _, rfl, ?_⟩
    refine ite2 (fun c => ?_) (fun c => ?_)
    · have hy : 0 < m := by
        have := of_decide_eq_true c
        omega
      refine ⟨fun σ' H2 => ∃ x2 y2 : Nat, σ' = [some (.int x2), some (.int y2)] ∧ H2 = H' ∧ y2 < m ∧ Nat.gcd y2 x2 = Nat.gcd b a, ?_, ?_⟩
      · rintro σ' H2 ⟨x2, y2, h1, h2, h3, h4⟩
        exact ⟨y2, h3, x2, y2, h1, h2, rfl, h4⟩
      · refine ⟨_, rfl, _, rfl, _, rfl, _, _, rfl, rfl, (by show (0 : Int) < (m : Int); omega), _, _, rfl, ?_⟩
        refine ⟨m, x % m, ?_, rfl, Nat.mod_lt _ hy, ?_⟩
        · show [some (V.int (m : Int)), some (V.int ((x : Int) % (m : Int)))] = _
          rw [Int.natCast_emod]
        · rw [← e, Nat.gcd_rec m x]
    · have hy : m = 0 := by
        have : ¬ (0 : Int) < (m : Int) := fun q => c (decide_eq_true q)
        omega
      subst hy
      rw [Nat.gcd_zero_left] at e
      subst e
      exact ⟨_, rfl, k⟩
theorem sc_together : FnScope ["n", "found", "number"] ["n"] (defScope s_together) := ⟨rfl, rfl, rfl, by decide +kernel, rfl, by decide +kernel, by decide +kernel⟩
theorem ok_together (T : Tx K mg) : Def P w K mg base CX0 2 (He.fAd K d_together.at_) ["n"] spTogether := by
  obtain ⟨fd, F⟩ := T.f_together
  refine ⟨fd, F.ok sc_together (fun vs H Q E h => ?_) (fun cdv A outer s H vs Q E hr h => ?_), F.bindsN (fun _ _ _ _ _ _ us hl => match us, hl with | [_], _ => rfl), F.kp⟩
  · obtain ⟨_, rfl, _⟩ := h
    rfl
  · obtain ⟨n, rfl, hn, k⟩ := h
    refine ⟨_, PSs.nox (pss_cons (ps_set (i := 1) sc_together.nd rfl (.inl rfl) pe_int)
      (pss_cons (ps_for PassesOwn.never rfl (pi_range2 rfl T.z_range (pa_cons pe_int (pa_cons (pe_op op_add (pv 0) pe_int) pa_nil))) (pg_name (i := 2) sc_together.nd rfl (.inl rfl))
        (pss_one (ps_set (i := 1) sc_together.nd rfl (.inl rfl) (pe_op op_mul (pe_op op_fdiv (pv 1) (pe_f (ok_gcd T) hr pass0 T.g_shared_by_both (pa_cons (pv 1) (pa_cons (pv 2) pa_nil)))) (pv 2)))))
      (pss_one (ps_ret (pv 1))))), ?_⟩
    refine ⟨_, rfl, _, _, rfl, rfl, 2, (n : Int) + 1, rfl, (by omega), for_it (walk_range (lo := 2) (n := ((n : Int) + 1 - 2).toNat)) (fun i σ H' => H' = H ∧ ∃ v, σ = [some (.int n), some (.int (lcmTo (if i = 0 then 1 else i + 1) : Nat)), v]) ⟨rfl, none, rfl⟩ (fun _ _ _ _ _ => trivial) ?_ ?_⟩
    · rintro i x σ H1 H2 hi ⟨rfl, v, rfl⟩ ⟨rfl, ex⟩
      have e0 : (if i = 0 then 1 else i + 1) = i + 1 := by split <;> omega
      have e1 : (2 : Int) + (i : Int) = ((i + 2 : Nat) : Int) := by omega
      have ex2 : x = V.int ((i + 2 : Nat) : Int) := by
        rw [ex, ← e1]
      subst ex2
      clear ex
      rw [e0]
      have hl : lcmTo (i + 1) ≤ 60 := lcmTo_le (by omega)
      have hp := lcmTo_pos (i + 1)
      have hg : 0 < Nat.gcd (i + 2) (lcmTo (i + 1)) := Nat.gcd_pos_of_pos_left _ (by omega)
      have hg2 : Nat.gcd (i + 2) (lcmTo (i + 1)) ≤ i + 2 := Nat.gcd_le_left _ (by omega)
      have hd : lcmTo (i + 1) / Nat.gcd (i + 2) (lcmTo (i + 1)) ≤ lcmTo (i + 1) := Nat.div_le_self _ _
      have hz : (0 : Int) ≤ (lcmTo (i + 1) : Int) / (Nat.gcd (i + 2) (lcmTo (i + 1)) : Int) := Int.ediv_nonneg (by omega) (by omega)
      refine ⟨_, rfl, _, rfl, _, rfl, lcmTo (i + 1), i + 2, rfl, _, _, rfl, rfl, ⟨(by omega), (by omega)⟩, _, rfl, _, _, rfl, rfl, .inl ⟨(by rw [← Int.natCast_ediv]; omega), (by rw [← Int.natCast_ediv]; omega)⟩, ?_⟩
      refine ⟨rfl, some (.int ((i + 2 : Nat) : Int)), ?_⟩
      have e2 : (if i + 1 = 0 then 1 else i + 1 + 1) = i + 2 := by split <;> omega
      have e3 : lcmTo (i + 2) = lcmTo (i + 1) / Nat.gcd (i + 2) (lcmTo (i + 1)) * (i + 2) := by
        show Nat.lcm (lcmTo (i + 1)) (i + 2) = _
        unfold Nat.lcm
        rw [Nat.gcd_comm (i + 2), Nat.mul_comm (lcmTo (i + 1)), Nat.mul_div_assoc _ (Nat.gcd_dvd_left _ _), Nat.mul_comm]
      rw [e2, e3]
      show [some (V.int (n : Int)), some (V.int ((lcmTo (i + 1) : Int) / (Nat.gcd (i + 2) (lcmTo (i + 1)) : Int) * ((i + 2 : Nat) : Int))), some (V.int ((i + 2 : Nat) : Int))] = _
      rw [Int.natCast_mul, Int.natCast_ediv]
    · rintro σ H1 ⟨rfl, v, rfl⟩
      refine ⟨_, rfl, ?_⟩
      have e : lcmTo (if ((n : Int) + 1 - 2).toNat = 0 then 1 else ((n : Int) + 1 - 2).toNat + 1) = lcmTo n := by
        by_cases h0 : n = 0
        · subst h0
          rfl
        · by_cases h1 : n = 1
          · subst h1
            rfl
          · have : (if ((n : Int) + 1 - 2).toNat = 0 then 1 else ((n : Int) + 1 - 2).toNat + 1) = n := by split <;> omega
            rw [this]
      show Q (V.int (lcmTo (if ((n : Int) + 1 - 2).toNat = 0 then 1 else ((n : Int) + 1 - 2).toNat + 1) : Nat)) H1
      rw [e]
      exact k
theorem sc_grains : FnScope ["voters", "works", "once", "grains", "work"] ["voters", "works"] (defScope s_grains_of) := ⟨rfl, rfl, rfl, by decide +kernel, rfl, by decide +kernel, by decide +kernel⟩
theorem ok_grains (T : Tx K mg) : Def P w K mg base CX0 3 (He.fAd K d_grains_of.at_) ["voters", "works"] spGrains := by
  obtain ⟨fd, F⟩ := T.f_grains_of
  refine ⟨fd, F.ok sc_grains (fun vs H Q E h => ?_) (fun cdv A outer s H vs Q E hr h => ?_), F.bindsN (fun _ _ _ _ _ _ us hl => match us, hl with | [_, _], _ => rfl), F.kp⟩
  · obtain ⟨_, _, rfl, _⟩ := h
    rfl
  · obtain ⟨v, n, rfl, hv, hn, k⟩ := h
    refine ⟨_, PSs.nox (pss_cons (ps_set (i := 2) sc_grains.nd rfl (.inl rfl) (pe_f (ok_together T) hr pass0 T.g_together (pa_cons (pv 0) pa_nil)))
      (pss_cons (ps_set (i := 3) sc_grains.nd rfl (.inl rfl) (pv 2))
      (pss_cons (ps_for PassesOwn.never rfl (pi_range1 rfl T.z_range (pa_cons (pv 1) pa_nil)) (pg_name (i := 4) sc_grains.nd rfl (.inl rfl))
        (pss_one (ps_set (i := 3) sc_grains.nd rfl (.inl rfl) (pe_op op_mul (pv 3) (pv 2)))))
      (pss_one (ps_ret (pv 3)))))), ?_⟩
    refine ⟨_, rfl, v, rfl, hv, _, rfl, _, rfl, (n : Int), rfl, (by omega), (by omega), for_it (walk_range (lo := 0) (n := (n : Int).toNat)) (fun i σ H' => H' = H ∧ ∃ u, σ = [some (.int v), some (.int n), some (.int (lcmTo v : Nat)), some (.int (gr v i : Nat)), u]) ⟨rfl, none, ?_⟩ (fun _ _ _ _ _ => trivial) ?_ ?_⟩
    · have e : gr v 0 = lcmTo v := Nat.pow_one _
      rw [e]
      rfl
    · rintro i x σ H1 H2 hi ⟨rfl, u, rfl⟩ ⟨rfl, rfl⟩
      have hb := gr_le (v := v) (w := i) hv (by omega)
      refine ⟨_, rfl, _, rfl, _, _, rfl, rfl, .inl ⟨(by omega), (by omega)⟩, rfl, some (.int (0 + (i : Int))), ?_⟩
      have e : gr v (i + 1) = gr v i * lcmTo v := Nat.pow_succ ..
      rw [e, Int.natCast_mul]
      rfl
    · rintro σ H1 ⟨rfl, u, rfl⟩
      exact ⟨_, rfl, k⟩
end
end Ep
set_option Elab.async false
set_option linter.all false
set_option maxRecDepth 100000
set_option maxHeartbeats 4000000
/-! EpHp: data in the heap. -/
namespace Ep
open PySem PySem.Spec PyProof.Rows L2
/-! ### filtered ranges -/
def gv {α : Type} (n : Nat) (f : Nat → Bool) (v : Nat → α) : List α := ((List.range n).filter f).map v
theorem gv_zero {α : Type} (f : Nat → Bool) (v : Nat → α) : gv 0 f v = [] := rfl
theorem gv_yes {α : Type} {n : Nat} {f : Nat → Bool} {v : Nat → α} (h : f n = true) : gv (n + 1) f v = gv n f v ++ [v n] := by
  unfold gv
  rw [List.range_succ, List.filter_append, List.map_append, List.filter_cons, if_pos h]; rfl
theorem gv_no {α : Type} {n : Nat} {f : Nat → Bool} {v : Nat → α} (h : f n = false) : gv (n + 1) f v = gv n f v := by
  unfold gv
  rw [List.range_succ, List.filter_append, List.map_append, List.filter_cons, if_neg (by rw [h]; decide)]
  show _ ++ [] = _
  rw [List.append_nil]
theorem gv_len {α : Type} (n : Nat) (f : Nat → Bool) (v : Nat → α) : (gv n f v).length ≤ n := by
  unfold gv
  rw [List.length_map]
  have h := List.length_filter_le f (List.range n)
  rw [List.length_range] at h
  exact h
theorem gv_map {α β : Type} (n : Nat) (f : Nat → Bool) (v : Nat → α) (g : α → β) : (gv n f v).map g = gv n f fun i => g (v i) := by
  unfold gv
  rw [List.map_map]; rfl
/-! ### two lists, item by item -/
def Each {α β : Type} (R : α → β → Prop) (as : List α) (bs : List β) : Prop := as.length = bs.length ∧ ∀ (i : Nat) a b, as[i]? = some a → bs[i]? = some b → R a b
theorem Each.nil {α β : Type} {R : α → β → Prop} : Each R [] [] := ⟨rfl, fun i a b h => by simp at h⟩
theorem Each.mono {α β : Type} {R R' : α → β → Prop} {as : List α} {bs : List β} (h : Each R as bs) (f : ∀ a b, a ∈ as → b ∈ bs → R a b → R' a b) : Each R' as bs :=
  ⟨h.1, fun i a b ha hb => f a b (List.mem_of_getElem? ha) (List.mem_of_getElem? hb) (h.2 i a b ha hb)⟩
theorem Each.snoc {α β : Type} {R : α → β → Prop} {as : List α} {bs : List β} {a : α} {b : β} (h : Each R as bs) (r : R a b) : Each R (as ++ [a]) (bs ++ [b]) := by
  refine ⟨by rw [List.length_append, List.length_append, h.1]; rfl, fun i x y hx hy => ?_⟩
  by_cases hi : i < as.length
  · rw [List.getElem?_append_left hi] at hx
    rw [List.getElem?_append_left (by rw [← h.1]; exact hi)] at hy
    exact h.2 i x y hx hy
  · rw [List.getElem?_append_right (by omega)] at hx
    rw [List.getElem?_append_right (by rw [← h.1]; omega), ← h.1] at hy
    have e : i - as.length = 0 := by
      have := (List.getElem?_eq_some_iff.mp hx).1
      rw [List.length_singleton] at this
      omega
    rw [e] at hx hy
    cases hx
    cases hy
    exact r
theorem Each.left {α β : Type} {R : α → β → Prop} {as : List α} {bs : List β} (h : Each R as bs) {i : Nat} {a : α} (ha : as[i]? = some a) : ∃ b, bs[i]? = some b ∧ R a b := by
  have hi := (List.getElem?_eq_some_iff.mp ha).1
  have hi2 : i < bs.length := by rw [← h.1]; exact hi
  exact ⟨bs[i], List.getElem?_eq_getElem hi2, h.2 i _ _ ha (List.getElem?_eq_getElem hi2)⟩
theorem Each.right {α β : Type} {R : α → β → Prop} {as : List α} {bs : List β} (h : Each R as bs) {i : Nat} {b : β} (hb : bs[i]? = some b) : ∃ a, as[i]? = some a ∧ R a b := by
  have hi := (List.getElem?_eq_some_iff.mp hb).1
  have hi2 : i < as.length := by rw [h.1]; exact hi
  exact ⟨as[i], List.getElem?_eq_getElem hi2, h.2 i _ _ (List.getElem?_eq_getElem hi2) hb⟩
/-! ### a part of the heap hidden -/
def hide (S : List Addr) (H : Hp) : Hp := fun a => if a ∈ S then none else H a
theorem hide_in {S : List Addr} {H : Hp} {a : Addr} (h : a ∈ S) : hide S H a = none := by unfold hide; rw [if_pos h]
theorem hide_out {S : List Addr} {H : Hp} {a : Addr} (h : a ∉ S) : hide S H a = H a := by unfold hide; rw [if_neg h]
theorem hide_some {S : List Addr} {H : Hp} {a : Addr} {o : HO} (h : hide S H a = some o) : a ∉ S ∧ H a = some o := by
  unfold hide at h
  by_cases c : a ∈ S
  · rw [if_pos c] at h
    cases h
  · rw [if_neg c] at h
    exact ⟨c, h⟩
theorem hide_le (S : List Addr) (H : Hp) : Same (hide S H) H := fun a o h => (hide_some h).2
theorem hide_same {S : List Addr} {H H' : Hp} (h : Same H H') : Same (hide S H) (hide S H') := fun a o e => by
  obtain ⟨c, e2⟩ := hide_some e
  rw [hide_out c]
  exact h a o e2
theorem hide_upd {S : List Addr} {H : Hp} {a : Addr} {o : HO} (h : a ∈ S) : hide S (upd H a o) = hide S H := by
  funext b
  by_cases c : b ∈ S
  · rw [hide_in c, hide_in c]
  · rw [hide_out c, hide_out c, upd_ne fun e => c (by rw [e]; exact h)]
/-- what H has, hidden places aside -/
theorem hide_into {S : List Addr} {H H' : Hp} (h : Same H H') (n : ∀ a, a ∈ S → H a = none) : Same H (hide S H') := fun a o e => by
  rw [hide_out fun m => by rw [n a m] at e; cases e]
  exact h a o e
/-! ### lists of ints -/
def LV (H : Hp) (a : Addr) (n : Nat) (f : Nat → Int) : Prop := H a = some (.lst (vec n fun i => V.int (f i)))
theorem LV.mono {H H' : Hp} {a : Addr} {n : Nat} {f : Nat → Int} (s : Same H H') (h : LV H a n f) : LV H' a n f := s _ _ h
theorem LV.ints {H : Hp} {a : Addr} {n : Nat} {f : Nat → Int} (h : LV H a n f) : H a = some (.lst ((vec n f).map V.int)) := by
  rw [vec_map]
  exact h
/-- the wishes: a list of lists of places -/
def WisAt (H : Hp) (a : Addr) (n : Nat) (wf : Nat → List Nat) : Prop := ∃ bs : Nat → Addr, H a = some (.lst (vec n fun i => V.ref (bs i))) ∧ ∀ i, i < n → H (bs i) = some (.lst ((wf i).map fun k => V.int (k : Nat)))
theorem WisAt.mono {H H' : Hp} {a : Addr} {n : Nat} {wf : Nat → List Nat} (s : Same H H') (h : WisAt H a n wf) : WisAt H' a n wf := by
  obtain ⟨bs, h1, h2⟩ := h
  exact ⟨bs, s _ _ h1, fun i hi => s _ _ (h2 i hi)⟩
def wants (wf : Nat → List Nat) : Nat → Nat → Bool := fun i k => decide (k ∈ wf i)
theorem inV_nat (k : Nat) (l : List Nat) : inV (.int k) (l.map fun k => V.int (k : Nat)) = decide (k ∈ l) := by
  unfold inV
  rw [List.any_map]
  induction l with
  | nil => rfl
  | cons a r ih =>
    rw [List.any_cons, ih]
    have e : (fun (y : V) => eqV y (V.int (k : Nat))) ((fun (k : Nat) => V.int (k : Nat)) a) = decide (a = k) := by
      show ((a : Int) == (k : Int)) = _
      by_cases c : a = k
      · subst c
        simp
      · rw [decide_eq_false c]
        exact beq_eq_false_iff_ne.mpr (by omega)
    show (((fun (y : V) => eqV y (V.int (k : Nat))) ((fun (k : Nat) => V.int (k : Nat)) a)) || decide (k ∈ r)) = _
    rw [e]
    by_cases c : a = k
    · subst c
      simp
    · have c2 : ¬ k = a := fun q => c q.symm
      simp [c, c2]
theorem flat_nat (l : List Nat) : (l.map fun k => V.int (k : Nat)).all flatV = true := by
  rw [List.all_map]
  exact List.all_eq_true.mpr fun _ _ => rfl
theorem inV_str (z : Str) (l : List Str) : inV (.str z) (l.map V.str) = decide (z ∈ l) := by
  unfold inV
  rw [List.any_map]
  induction l with
  | nil => rfl
  | cons a r ih =>
    rw [List.any_cons, ih]
    have e : (fun (y : V) => eqV y (V.str z)) (V.str a) = decide (a = z) := by
      show (a == z) = _
      by_cases c : a = z
      · subst c
        simp
      · rw [decide_eq_false c]
        simpa using c
    show ((fun (y : V) => eqV y (V.str z)) (V.str a) || decide (z ∈ r)) = _
    rw [e]
    by_cases c : a = z
    · subst c
      simp
    · have c2 : ¬ z = a := fun q => c q.symm
      simp [c, c2]
theorem flat_str (l : List Str) : (l.map V.str).all flatV = true := by
  rw [List.all_map]
  exact List.all_eq_true.mpr fun _ _ => rfl
def optV : Option Int → V
  | none => .non
  | some i => .int i
def optN : Option Nat → V
  | none => .non
  | some i => .int (i : Nat)
/-! ### steps -/
def StepAt (n : Nat) (H : Hp) (t : Addr) (s : Step) : Prop := ∃ q, H t = some (.tup [.int (s.work : Nat), .int s.level, .ref q]) ∧ LV H q n s.paid
def StepsAt (H : Hp) (a : Addr) (n : Nat) (steps : List Step) : Prop := ∃ ts : List Addr, H a = some (.lst (ts.map V.ref)) ∧ Each (StepAt n H) ts steps
theorem StepAt.mono {n : Nat} {H H' : Hp} {t : Addr} {s : Step} (e : Same H H') (h : StepAt n H t s) : StepAt n H' t s := by
  obtain ⟨q, h1, h2⟩ := h
  exact ⟨q, e _ _ h1, h2.mono e⟩
theorem StepsAt.mono {H H' : Hp} {a : Addr} {n : Nat} {steps : List Step} (e : Same H H') (h : StepsAt H a n steps) : StepsAt H' a n steps := by
  obtain ⟨ts, h1, h2⟩ := h
  exact ⟨ts, e _ _ h1, h2.mono fun _ _ _ _ => StepAt.mono e⟩
/-! ### short answers -/
theorem atI_vec {n : Nat} {f : Nat → V} {k : Nat} (h : k < n) : atI (vec n f) (k : Int) = some (f k) := atI_nat (vec_get h)
end Ep
set_option Elab.async false
set_option linter.all false
set_option maxRecDepth 100000
set_option maxHeartbeats 4000000
/-! EpChoose: purse/levels.py, towns.py, offers.py, choosing.py. -/
namespace Ep
open PySem PySem.Spec PyProof.Rows L2
def spLevel : Sp := fun vs H Q _ => ∃ (a : Addr) (ns : List Int) (price : Int), vs = [.ref a, .int price] ∧ H a = some (.lst (ns.map V.int)) ∧ ns.length ≤ 6 ∧ ∀ H' r, Same H H' → LevOk ns price r → Q (optV r) H'
def spWanters : Sp := fun vs H Q _ => ∃ (a : Addr) (n : Nat) (wf : Nat → List Nat) (k : Nat), vs = [.ref a, .int k] ∧ WisAt H a n wf ∧ n ≤ 6 ∧
  ∀ p H', Same H H' → H p = none → H' p = some (.lst ((wanters n (wants wf) k).map fun i => V.int (i : Nat))) → Q (.ref p) H'
def spPrice : Sp := fun vs H Q _ => ∃ (a b : Addr) (n w : Nat) (cf : Nat → Int) (wf : Nat → List Nat) (k : Nat), vs = [.ref a, .ref b, .int k] ∧ LV H a w cf ∧ WisAt H b n wf ∧ k < w ∧ n ≤ 6 ∧ w ≤ 6 ∧ 0 ≤ cf k ∧ cf k ≤ 1000000000 ∧ Q (.int (cf k * (gr n w : Nat))) H
section
variable {P : Program} {w : World} {K : PySem.W.Frag} {mg : Str → Option Value} {base : Heap}
theorem sc_level : FnScope ["purses", "price", "lacking", "many", "bag"] ["purses", "price"] (defScope s_level_for) := ⟨rfl, rfl, rfl, by decide +kernel, rfl, by decide +kernel, by decide +kernel⟩
theorem ok_level (T : Tx K mg) : Def P w K mg base CX0 1 (He.fAd K d_level_for.at_) ["purses", "price"] spLevel := by
  obtain ⟨fd, F⟩ := T.f_level_for
  refine ⟨fd, F.ok sc_level (fun vs H Q E h => ?_) (fun cdv A outer s H vs Q E hr h => ?_), F.bindsN (fun _ _ _ _ _ _ us hl => match us, hl with | [_, _], _ => rfl), F.kp⟩
  · obtain ⟨_, _, _, rfl, _⟩ := h
    rfl
  · obtain ⟨a, ns, price, rfl, ha, hn, k⟩ := h
    refine ⟨_, PSs.nox (pss_cons (ps_set (i := 2) sc_level.nd rfl (.inl rfl) (pv 1))
      (pss_cons (ps_set (i := 3) sc_level.nd rfl (.inl rfl) (pe_callB call_len_seq (by rfl) T.z_len PySem.boot_len (pa_cons (pv 0) pa_nil)))
      (pss_cons (ps_for PassesOwn.never rfl (pi_list (pe_callB cr_sorted (by rfl) T.z_sorted (by decide +kernel) (pa_cons (pv 0) pa_nil))) (pg_name (i := 4) sc_level.nd rfl (.inl rfl))
        (pss_cons (ps_if (pt_cmpR op_ge (pe_op op_mul (pv 4) (pv 3)) (pv 2) (nomark _)) (pss_one (ps_ret (pe_op op_fdiv (pe_op op_sub (pe_op op_add (pv 2) (pv 3)) pe_int) (pv 3)))) pss_nil)
        (pss_cons (ps_set (i := 2) sc_level.nd rfl (.inl rfl) (pe_op op_sub (pv 2) (pv 4)))
        (pss_one (ps_set (i := 3) sc_level.nd rfl (.inl rfl) (pe_op op_sub (pv 3) pe_int))))))
      (pss_one (ps_ret pe_non))))), ?_⟩
    refine ⟨_, rfl, _, rfl, a, ns.map V.int, rfl, .inl (SqL.of ha), _, rfl, a, ns, rfl, SqL.of ha, by omega, fun ns' p perm srt hp => ⟨p, rfl, ⟨_, SqL.of upd_same⟩, ?_⟩⟩
    have hl : ns'.length = ns.length := perm.length_eq
    refine for_it (walk_list (K := K) (a := p) (xs := ns'.map V.int)) (fun i σ H' => H' = upd H p (.lst (ns'.map V.int)) ∧ i ≤ ns'.length ∧ ∃ l v, lev (ns'.drop i) l = lev ns' price ∧ σ = [some (.ref a), some (.int price), some (.int l), some (.int ((ns'.length : Int) - i)), v]) ⟨rfl, Nat.zero_le _, price, none, rfl, ?_⟩ ?_ ?_ ?_
    · show [some (V.ref a), some (V.int price), some (V.int price), some (V.int (((ns.map V.int).length : Nat) : Int)), none] = _
      rw [List.length_map, hl]
      have e : (ns.length : Int) - ((0 : Nat) : Int) = ns.length := by omega
      rw [e]
    · rintro i σ H' _ ⟨rfl, _⟩
      exact SqL.of upd_same
    · rintro i x σ H1 H2 hi ⟨rfl, _, l, v, e, rfl⟩ ⟨rfl, hx⟩
      rw [List.length_map] at hi
      have ex : x = V.int ns'[i] := by
        rw [List.getElem?_map, List.getElem?_eq_getElem hi] at hx
        exact (Option.some.inj hx).symm
      subst ex
      rw [List.drop_eq_getElem_cons hi] at e
      have em : ((ns'.drop (i + 1)).length : Int) + 1 = (ns'.length : Int) - (i : Int) := by
        rw [List.length_drop]
        omega
      refine ⟨_, rfl, _, rfl, _, _, rfl, rfl, .inr ⟨(by omega), (by omega)⟩, _, rfl, _, _, rfl, rfl, _, rfl, ?_⟩
      refine ite2 (fun c => ?_) (fun c => ?_)
      · have c2 : l ≤ ns'[i] * ((ns'.length : Int) - (i : Int)) := of_decide_eq_true c
        refine ⟨_, rfl, _, rfl, _, _, rfl, rfl, _, _, rfl, rfl, _, rfl, _, _, rfl, rfl, ⟨(by omega), (by omega)⟩, ?_⟩
        have e2 : lev ns' price = some ((l + ((ns'.length : Int) - (i : Int)) - 1) / ((ns'.length : Int) - (i : Int))) := by
          rw [← e]
          unfold lev
          rw [em, if_pos c2]
        exact k _ (some _) (snew hp) ⟨ns', perm, srt, e2.symm⟩
      · have c2 : ¬ l ≤ ns'[i] * ((ns'.length : Int) - (i : Int)) := fun q => c (decide_eq_true q)
        refine ⟨_, rfl, _, rfl, _, _, rfl, rfl, _, rfl, _, _, rfl, rfl, ?_⟩
        refine ⟨rfl, hi, l - ns'[i], some (.int ns'[i]), ?_, ?_⟩
        · rw [← e]
          conv => rhs; unfold lev
          rw [em, if_neg c2]
        · have e3 : (ns'.length : Int) - ((i + 1 : Nat) : Int) = (ns'.length : Int) - (i : Int) - 1 := by omega
          rw [e3]
          rfl
    · rintro σ H1 ⟨rfl, _, l, v, e, rfl⟩
      rw [List.length_map, List.drop_length] at e
      exact k _ none (snew hp) ⟨ns', perm, srt, e⟩
theorem sc_wanters : FnScope ["wishes", "work", "voter", "wanted"] ["wishes", "work"] (defScope s_wanters_of) := ⟨rfl, rfl, rfl, by decide +kernel, rfl, by decide +kernel, by decide +kernel⟩
theorem ok_wanters (T : Tx K mg) : Def P w K mg base CX0 1 (He.fAd K d_wanters_of.at_) ["wishes", "work"] spWanters := by
  obtain ⟨fd, F⟩ := T.f_wanters_of
  refine ⟨fd, F.ok sc_wanters (fun vs H Q E h => ?_) (fun cdv A outer s H vs Q E hr h => ?_), F.bindsN (fun _ _ _ _ _ _ us hl => match us, hl with | [_, _], _ => rfl), F.kp⟩
  · obtain ⟨_, _, _, _, rfl, _⟩ := h
    rfl
  · obtain ⟨a, n, wf, k0, rfl, ha, hn, k⟩ := h
    refine ⟨_, PSs.nox (pss_one (ps_ret (pe_lc (own := [("voter", 2), ("wanted", 3)]) (g := gTup K 2 (gCons (gName 2) (gCons (gName 3) gNil))) (tt := tTest (tOp (rIn K false) (tVar 1) (tVar 3))) (te := tVar 2) rfl sc_wanters.nd (pi_enum (by rfl) T.z_enumerate (pa_cons (pv 0) pa_nil)) (blkOk_by (N := ["wishes", "work", "voter", "wanted"]) (sc := defScope s_wanters_of) (by decide +kernel))
      (fun _ _ _ _ _ => pg_tup (by rfl) (pgs_cons (pg_name (i := 2) sc_wanters.nd rfl (Or.inl rfl)) (pgs_cons (pg_name (i := 3) sc_wanters.nd rfl (Or.inl rfl)) pgs_nil)))
      (fun _ _ _ _ _ => pts_one (pt_cmpR op_in_seq (pv 1) (pv 3) (by rfl))) (fun _ _ _ _ _ => pv 2)))), ?_⟩
    obtain ⟨bs, h1, h2⟩ := id ha
    refine ⟨_, rfl, a, _, rfl, SqL.of h1, fun D hD => ?_⟩
    refine lc_it (walk_enum (K := K) (a := a) (xs := vec n fun i => V.ref (bs i))) (fun i H' => i ≤ n ∧ Same H H' ∧ H' D = some (.lst (gv i (fun j => wants wf j k0) fun j => V.int (j : Nat)))) ⟨Nat.zero_le _, snew hD, upd_same⟩ ?_ ?_ ?_
    · rintro i H' _ ⟨_, s1, _⟩
      exact SqL.of (s1 _ _ h1)
    · rintro i x H1 H2 hi ⟨_, s1, hL⟩ ⟨t, u, y, rfl, ht, rfl, hu, hy⟩
      rw [vec_length] at hi
      cases hu
      obtain rfl : y = V.ref (bs i) := (vec_get_some hy).2
      have s2 : Same H1 (upd H1 t (.tup [.int (i : Nat), .ref (bs i)])) := snew ht
      refine ⟨t, _, rfl, SqT.of upd_same, rfl, _, _, rfl, _, _, rfl, rfl, rfl, _, rfl, _, rfl, bs i, _, rfl, .inl (SqL.of (s2 _ _ (s1 _ _ (h2 i hi)))), rfl, flat_nat _, _, rfl, ?_⟩
      rw [inV_nat]
      refine ite2 (fun c => ?_) (fun c => ?_)
      · refine ⟨_, rfl, _, s2 _ _ hL, sz_lt (by have := gv_len i (fun j => wants wf j k0) fun j => V.int (j : Nat); omega), hi, smut (s1.trans s2) hD, ?_⟩
        rw [gv_yes (f := fun j => wants wf j k0) (show wants wf i k0 = true from c)]
        exact upd_same
      · refine ⟨hi, s1.trans s2, ?_⟩
        rw [gv_no (f := fun j => wants wf j k0) (show wants wf i k0 = false from eq_false_of_ne_true c)]
        exact s2 _ _ hL
    · rintro H' ⟨_, s1, hL⟩
      rw [vec_length] at hL
      exact k D H' s1 hD (by rw [hL]; rfl)
theorem sc_price : FnScope ["costs", "wishes", "work"] ["costs", "wishes", "work"] (defScope s_price_of) := ⟨rfl, rfl, rfl, by decide +kernel, rfl, by decide +kernel, by decide +kernel⟩
theorem ok_price (T : Tx K mg) : Def P w K mg base CX0 4 (He.fAd K d_price_of.at_) ["costs", "wishes", "work"] spPrice := by
  obtain ⟨fd, F⟩ := T.f_price_of
  refine ⟨fd, F.ok sc_price (fun vs H Q E h => ?_) (fun cdv A outer s H vs Q E hr h => ?_), F.bindsN (fun _ _ _ _ _ _ us hl => match us, hl with | [_, _, _], _ => rfl), F.kp⟩
  · obtain ⟨_, _, _, _, _, _, _, rfl, _⟩ := h
    rfl
  · obtain ⟨a, b, n, m, cf, wf, k0, rfl, ha, hb, hk, hn, hw, c0, c1, k⟩ := h
    obtain ⟨bs, h1, h2⟩ := id hb
    refine ⟨_, PSs.nox (pss_one (ps_ret (pe_op op_mul (pe_ix ix_list (pv 0) (pv 2) (fun _ _ => rfl))
      (pe_f (ok_grains T) hr pass0 T.g_grains_of (pa_cons (pe_callB call_len_seq (by rfl) T.z_len PySem.boot_len (pa_cons (pv 1) pa_nil)) (pa_cons (pe_callB call_len_seq (by rfl) T.z_len PySem.boot_len (pa_cons (pv 0) pa_nil)) pa_nil)))))), ?_⟩
    refine ⟨_, rfl, _, rfl, a, _, _, _, rfl, rfl, SqL.of ha, atI_vec hk, _, rfl, b, _, rfl, .inl (SqL.of h1), _, rfl, a, _, rfl, .inl (SqL.of ha), n, m, ?_, hn, hw, _, _, rfl, rfl, .inl ⟨(by omega), (by omega)⟩, k⟩
    show [V.int ((vec n fun i => V.ref (bs i)).length : Nat), V.int ((vec m fun i => V.int (cf i)).length : Nat)] ++ [] = _
    rw [vec_length, vec_length]
    rfl
end
end Ep
set_option Elab.async false
set_option linter.all false
set_option maxRecDepth 100000
set_option maxHeartbeats 4000000
/-! EpOffer: purse/offers.py, choosing.py. -/
namespace Ep
open PySem PySem.Spec PyProof.Rows L2
/-- what the choosing is asked of: purses, costs, wishes -/
structure Ask (H : Hp) (ap ac aw : Addr) (n w : Nat) (pf cf : Nat → Int) (wf : Nat → List Nat) : Prop where
  p : LV H ap n pf
  c : LV H ac w cf
  s : WisAt H aw n wf
  n6 : n ≤ 6
  w6 : w ≤ 6
  cb : ∀ k, k < w → 0 ≤ cf k ∧ cf k ≤ 1000000000
theorem Ask.mono {H H' : Hp} {ap ac aw : Addr} {n w : Nat} {pf cf : Nat → Int} {wf : Nat → List Nat} (e : Same H H') (h : Ask H ap ac aw n w pf cf wf) : Ask H' ap ac aw n w pf cf wf :=
  ⟨h.p.mono e, h.c.mono e, h.s.mono e, h.n6, h.w6, h.cb⟩
abbrev priceF (n w : Nat) (cf : Nat → Int) : Nat → Int := fun k => cf k * (gr n w : Nat)
def spOffer : Sp := fun vs H Q _ => ∃ (ap ac aw : Addr) (n w : Nat) (pf cf : Nat → Int) (wf : Nat → List Nat) (k : Nat), vs = [.ref ap, .ref ac, .ref aw, .int k] ∧ Ask H ap ac aw n w pf cf wf ∧ k < w ∧
  ∀ H' r, Same H H' → LevOk ((wanters n (wants wf) k).map pf) (priceF n w cf k) r → Q (optV r) H'
/-- the offers' list: none for the works done -/
def OffOk (n w b : Nat) (pf cf : Nat → Int) (wf : Nat → List Nat) (dl : List Nat) (of : Nat → Option Int) : Prop := ∀ k, k < b → (k ∈ dl → of k = none) ∧ (k ∉ dl → LevOk ((wanters n (wants wf) k).map pf) (priceF n w cf k) (of k))
def spOffers : Sp := fun vs H Q _ => ∃ (ap ac aw ad : Addr) (n w : Nat) (pf cf : Nat → Int) (wf : Nat → List Nat) (dl : List Nat), vs = [.ref ap, .ref ac, .ref aw, .ref ad] ∧ Ask H ap ac aw n w pf cf wf ∧ H ad = some (.lst (dl.map fun k => V.int (k : Nat))) ∧
  ∀ p H' of, Same H H' → H p = none → H' p = some (.lst (vec w fun k => optV (of k))) → OffOk n w w pf cf wf dl of → Q (.ref p) H'
def NextOk (w : Nat) (of : Nat → Option Int) (r : Option Nat) : Prop := (r = none → ∀ k, k < w → of k = none) ∧ ∀ k, r = some k → k < w ∧ ∃ l, of k = some l
def spNext : Sp := fun vs H Q _ => ∃ (a : Addr) (w : Nat) (of : Nat → Option Int), vs = [.ref a] ∧ H a = some (.lst (vec w fun k => optV (of k))) ∧ ∀ H' r, Same H H' → NextOk w of r → Q (optN r) H'
def spPay : Sp := fun vs H Q _ => ∃ (ap aw : Addr) (n : Nat) (pf : Nat → Int) (wf : Nat → List Nat) (k : Nat) (x : Int), vs = [.ref ap, .ref aw, .int k, .int x] ∧ LV H ap n pf ∧ WisAt H aw n wf ∧ n ≤ 6 ∧
  ∀ p H', Same H H' → H p = none → LV H' p n (payF (wants wf) k x pf) → Q (.ref p) H'
def spLess : Sp := fun vs H Q _ => ∃ (ap aq : Addr) (n : Nat) (pf qf : Nat → Int), vs = [.ref ap, .ref aq] ∧ LV H ap n pf ∧ LV H aq n qf ∧ n ≤ 6 ∧ ∀ p H', Same H H' → H p = none → LV H' p n (fun i => pf i - qf i) → Q (.ref p) H'
section
variable {P : Program} {w : World} {K : PySem.W.Frag} {mg : Str → Option Value} {base : Heap}
theorem sc_offer : FnScope ["purses", "costs", "wishes", "work", "some", "voter"] ["purses", "costs", "wishes", "work"] (defScope s_offer_of) := ⟨rfl, rfl, rfl, by decide +kernel, rfl, by decide +kernel, by decide +kernel⟩
theorem ok_offer (T : Tx K mg) : Def P w K mg base CX0 5 (He.fAd K d_offer_of.at_) ["purses", "costs", "wishes", "work"] spOffer := by
  obtain ⟨fd, F⟩ := T.f_offer_of
  refine ⟨fd, F.ok sc_offer (fun vs H Q E h => ?_) (fun cdv A outer s H vs Q E hr h => ?_), F.bindsN (fun _ _ _ _ _ _ us hl => match us, hl with | [_, _, _, _], _ => rfl), F.kp⟩
  · obtain ⟨_, _, _, _, _, _, _, _, _, rfl, _⟩ := h
    rfl
  · obtain ⟨ap, ac, aw, n, m, pf, cf, wf, k0, rfl, A0, hk, k⟩ := h
    refine ⟨_, PSs.nox (pss_cons (ps_setLc (i := 4) (own := [("voter", 5)]) (g := gName 5) (tt := tYes) (te := tOp (rIxL K) (tVar 0) (tVar 5)) rfl sc_offer.nd rfl rfl (sw_true rfl rfl rfl (by decide +kernel))
        (pi_list (pe_f (ok_wanters T) hr pass0 T.g_wanters_of (pa_cons (pv 2) (pa_cons (pv 3) pa_nil)))) (blkOk_by (N := ["purses", "costs", "wishes", "work", "some", "voter"]) (sc := defScope s_offer_of) (by decide +kernel))
        (fun _ _ _ _ _ => pg_name (i := 5) sc_offer.nd rfl (Or.inl rfl)) (fun _ _ _ _ _ => pts_nil) (fun _ _ _ _ _ => pe_ix ix_list (pv 0) (pv 5) (fun _ _ => rfl)))
      (pss_one (ps_ret (pe_f (ok_level T) hr pass0 T.g_level_for (pa_cons (pv 4) (pa_cons (pe_f (ok_price T) hr pass0 T.g_price_of (pa_cons (pv 1) (pa_cons (pv 2) (pa_cons (pv 3) pa_nil)))) pa_nil)))))), ?_⟩
    refine ⟨_, rfl, _, rfl, aw, n, wf, k0, rfl, A0.s, A0.n6, fun q H1 s1 nq hq => ⟨q, rfl, ⟨_, SqL.of hq⟩, fun D hD => ?_⟩⟩
    have mw : ∀ {i j : Nat}, (wanters n (wants wf) k0)[i]? = some j → j < n := fun h => List.mem_range.mp (List.mem_filter.mp (List.mem_of_getElem? h)).1
    refine lc_it (walk_list (K := K) (a := q) (xs := (wanters n (wants wf) k0).map fun i => V.int (i : Nat))) (fun i H' => i ≤ (wanters n (wants wf) k0).length ∧ Same H1 H' ∧ H' D = some (.lst (((wanters n (wants wf) k0).take i).map fun j => V.int (pf j)))) ⟨Nat.zero_le _, snew hD, upd_same⟩ ?_ ?_ ?_
    · rintro i H' _ ⟨_, s2, _⟩
      exact SqL.of (s2 _ _ hq)
    · rintro i x H2 H3 hi ⟨_, s2, hL⟩ ⟨rfl, hx⟩
      rw [List.length_map] at hi
      have hx2 : ((wanters n (wants wf) k0).map fun i => V.int (i : Nat))[i]? = some x := hx
      rw [List.getElem?_map, List.getElem?_eq_getElem hi] at hx2
      obtain rfl : x = V.int ((wanters n (wants wf) k0)[i] : Nat) := (Option.some.inj hx2).symm
      refine ⟨rfl, _, rfl, _, rfl, ap, _, _, _, rfl, rfl, SqL.of (s2 _ _ (s1 _ _ A0.p)), atI_vec (mw (List.getElem?_eq_getElem hi)), _, hL, sz_lt ?_, hi, smut s2 hD, ?_⟩
      · rw [List.length_map, List.length_take]
        have := List.length_filter_le (fun i => wants wf i k0) (List.range n)
        rw [List.length_range] at this
        have h6 := A0.n6
        have : (wanters n (wants wf) k0).length ≤ n := this
        omega
      · rw [upd_same, List.take_add_one, List.getElem?_eq_getElem hi, List.map_append]
        rfl
    · rintro H2 ⟨_, s2, hL⟩
      rw [List.length_map, List.take_length] at hL
      have A2 := (A0.mono s1).mono s2
      refine ⟨_, rfl, _, rfl, _, rfl, _, rfl, ac, aw, n, m, cf, wf, k0, rfl, A2.c, A2.s, hk, A2.n6, A2.w6, (A2.cb k0 hk).1, (A2.cb k0 hk).2, ?_⟩
      refine ⟨D, (wanters n (wants wf) k0).map pf, _, rfl, by rw [hL, List.map_map]; rfl, ?_, fun H3 r s3 hr2 => k H3 r (s1.trans (s2.trans s3)) hr2⟩
      rw [List.length_map]
      have := List.length_filter_le (fun i => wants wf i k0) (List.range n)
      rw [List.length_range] at this
      exact Nat.le_trans this A0.n6
theorem sc_offers : FnScope ["purses", "costs", "wishes", "done", "offers", "work"] ["purses", "costs", "wishes", "done"] (defScope s_offers_of) := ⟨rfl, rfl, rfl, by decide +kernel, rfl, by decide +kernel, by decide +kernel⟩
theorem ok_offers (T : Tx K mg) : Def P w K mg base CX0 6 (He.fAd K d_offers_of.at_) ["purses", "costs", "wishes", "done"] spOffers := by
  obtain ⟨fd, F⟩ := T.f_offers_of
  refine ⟨fd, F.ok sc_offers (fun vs H Q E h => ?_) (fun cdv A outer s H vs Q E hr h => ?_), F.bindsN (fun _ _ _ _ _ _ us hl => match us, hl with | [_, _, _, _], _ => rfl), F.kp⟩
  · obtain ⟨_, _, _, _, _, _, _, _, _, _, rfl, _⟩ := h
    rfl
  · obtain ⟨ap, ac, aw, ad, n, m, pf, cf, wf, dl, rfl, A0, hd, k⟩ := h
    refine ⟨_, PSs.nox (pss_cons (ps_set (i := 4) sc_offers.nd rfl (.inl rfl) (pe_lst pa_nil))
      (pss_cons (ps_for PassesOwn.never rfl (pi_range1 rfl T.z_range (pa_cons (pe_callB call_len_seq (by rfl) T.z_len PySem.boot_len (pa_cons (pv 1) pa_nil)) pa_nil)) (pg_name (i := 5) sc_offers.nd rfl (.inl rfl))
        (pss_one (ps_if (pt_cmpR op_in_seq (pv 5) (pv 3) (by rfl))
          (pss_one (ps_expr (pe_bm PySem.F.plainAttrs_list PySem.F.slot_list_append PySem.F.type_list_append mt_append (pv 4) (pa_cons pe_non pa_nil))))
          (pss_one (ps_expr (pe_bm PySem.F.plainAttrs_list PySem.F.slot_list_append PySem.F.type_list_append mt_append (pv 4) (pa_cons (pe_f (ok_offer T) hr pass0 T.g_offer_of (pa_cons (pv 0) (pa_cons (pv 1) (pa_cons (pv 2) (pa_cons (pv 5) pa_nil))))) pa_nil)))))))
      (pss_one (ps_ret (pv 4))))), ?_⟩
    refine ⟨Nat.zero_le _, fun p hp => ⟨_, rfl, ac, _, rfl, .inl (SqL.of (snew hp _ _ A0.c)), (m : Int), ?_, (by have := A0.w6; omega), (by have := A0.w6; omega), ?_⟩⟩
    · show [V.int ((vec m fun i => V.int (cf i)).length : Nat)] = _
      rw [vec_length]
    have inv : ∀ (i : Nat) (of : Nat → Option Int) (r : Option Int), OffOk n m i pf cf wf dl of → (i ∈ dl → r = none) → (i ∉ dl → LevOk ((wanters n (wants wf) i).map pf) (priceF n m cf i) r) → OffOk n m (i + 1) pf cf wf dl (fun j => if j = i then r else of j) := fun i of r o h1 h2 j hj => by
      dsimp only
      by_cases e : j = i
      · subst e
        rw [if_pos rfl]
        exact ⟨h1, h2⟩
      · rw [if_neg e]
        exact o j (by omega)
    have lst : ∀ (i : Nat) (of : Nat → Option Int) (r : Option Int), (vec i fun j => optV (of j)) ++ [optV r] = vec (i + 1) fun j => optV (if j = i then r else of j) := fun i of r => by
      rw [vec_succ, if_pos rfl]
      exact congrArg (· ++ [optV r]) (vec_congr fun j hj => by rw [if_neg (by omega)])
    refine for_it (walk_range (lo := 0) (n := (m : Int).toNat)) (fun i σ H' => i ≤ m ∧ Same H H' ∧ ∃ (of : Nat → Option Int) (v : Option V), H' p = some (.lst (vec i fun k => optV (of k))) ∧ OffOk n m i pf cf wf dl of ∧ σ = [some (.ref ap), some (.ref ac), some (.ref aw), some (.ref ad), some (.ref p), v]) ?_ (fun _ _ _ _ _ => trivial) ?_ ?_
    · exact ⟨Nat.zero_le _, snew hp, fun _ => none, none, upd_same, fun k hk => absurd hk (Nat.not_lt_zero k), rfl⟩
    · rintro i x σ H1 H2 hi ⟨_, s1, of, v, hL, O, rfl⟩ ⟨rfl, ex⟩
      have hi2 : i < m := by omega
      obtain rfl : x = V.int (i : Nat) := by
        rw [ex]
        show V.int (0 + (i : Int)) = _
        rw [Int.zero_add]
      clear ex
      have hsz : (vec i fun j => optV (of j)).length < sizeLine := sz_lt (by rw [vec_length]; have := A0.w6; omega)
      refine ⟨_, rfl, _, rfl, ad, _, rfl, .inl (SqL.of (s1 _ _ hd)), rfl, flat_nat _, _, rfl, ?_⟩
      rw [inV_nat]
      refine ite2 (fun c => ?_) (fun c => ?_)
      · have c2 : i ∈ dl := of_decide_eq_true c
        refine ⟨_, rfl, .inl ⟨rfl, _, SqL.of hL⟩, p, _, _, rfl, rfl, hL, hsz, hi2, smut s1 hp, _, some (.int (i : Nat)), ?_, inv i of none O (fun _ => rfl) (fun q => absurd c2 q), rfl⟩
        rw [upd_same]
        exact congrArg (fun l => some (HO.lst l)) (lst i of none)
      · have c2 : i ∉ dl := fun q => c (decide_eq_true q)
        have A1 := A0.mono s1
        refine ⟨_, rfl, .inl ⟨rfl, _, SqL.of hL⟩, _, rfl, _, rfl, _, rfl, _, rfl, ap, ac, aw, n, m, pf, cf, wf, i, rfl, A1, hi2, fun H3 r s2 hr2 => ?_⟩
        refine ⟨p, _, _, rfl, rfl, s2 _ _ hL, hsz, hi2, smut (s1.trans s2) hp, _, some (.int (i : Nat)), ?_, inv i of r O (fun q => absurd q c2) (fun _ => hr2), rfl⟩
        rw [upd_same]
        exact congrArg (fun l => some (HO.lst l)) (lst i of r)
    · rintro σ H1 ⟨_, s1, of, v, hL, O, rfl⟩
      exact ⟨_, rfl, k p H1 of s1 hp hL O⟩
theorem sc_next : FnScope ["offers", "best", "work", "offer"] ["offers"] (defScope s_next_of) := ⟨rfl, rfl, rfl, by decide +kernel, rfl, by decide +kernel, by decide +kernel⟩
theorem ok_next (T : Tx K mg) : Def P w K mg base CX0 1 (He.fAd K d_next_of.at_) ["offers"] spNext := by
  obtain ⟨fd, F⟩ := T.f_next_of
  refine ⟨fd, F.ok sc_next (fun vs H Q E h => ?_) (fun cdv A outer s H vs Q E hr h => ?_), F.bindsN (fun _ _ _ _ _ _ us hl => match us, hl with | [_], _ => rfl), F.kp⟩
  · obtain ⟨_, _, _, rfl, _⟩ := h
    rfl
  · obtain ⟨a, m, of, rfl, ha, k⟩ := h
    refine ⟨_, PSs.nox (pss_cons (ps_set (i := 1) sc_next.nd rfl (.inl rfl) pe_non)
      (pss_cons (ps_for PassesOwn.never rfl (pi_enum (by rfl) T.z_enumerate (pa_cons (pv 0) pa_nil)) (pg_tup rfl (pgs_cons (pg_name (i := 2) sc_next.nd rfl (.inl rfl)) (pgs_cons (pg_name (i := 3) sc_next.nd rfl (.inl rfl)) pgs_nil)))
        (pss_one (ps_if (PW.pt (pw_and (pt_cmpR op_notN (pv 3) pe_non (nomark _)) (pw_and1 (PW.pt (pw_or (pt_cmpR op_isN (pv 1) pe_non (nomark _)) (pw_or1 (pt_cmpR op_lt (pv 3) (pe_ix ix_list (pv 0) (pv 1) (fun _ _ => rfl)) (nomark _))))))))
          (pss_one (ps_set (i := 1) sc_next.nd rfl (.inl rfl) (pv 2))) pss_nil)))
      (pss_one (ps_ret (pv 1))))), ?_⟩
    refine ⟨_, rfl, a, _, rfl, SqL.of ha, ?_⟩
    refine for_it (walk_enum (K := K) (a := a) (xs := vec m fun k => optV (of k))) (fun i σ H' => Same H H' ∧ ∃ (r : Option Nat) (v1 v2 : Option V), (r = none → ∀ k, k < i → of k = none) ∧ (∀ k, r = some k → k < m ∧ ∃ l, of k = some l) ∧ σ = [some (.ref a), some (optN r), v1, v2]) ?_ ?_ ?_ ?_
    · exact ⟨Same.refl H, none, none, none, fun _ k hk => absurd hk (Nat.not_lt_zero k), fun k e => (by cases e), rfl⟩
    · rintro i σ H' _ ⟨s1, _⟩
      exact SqL.of (s1 _ _ ha)
    · rintro i x σ H1 H2 hi ⟨s1, r, v1, v2, h1, h2, rfl⟩ ⟨t, u, y, rfl, ht, rfl, hu, hy⟩
      rw [vec_length] at hi
      cases hu
      obtain rfl : y = optV (of i) := (vec_get_some hy).2
      have s2 : Same H (upd H1 t (.tup [.int (i : Nat), optV (of i)])) := s1.trans (snew ht)
      refine ⟨t, _, rfl, SqT.of upd_same, rfl, _, _, rfl, _, _, rfl, rfl, _, rfl, rfl, _, rfl, ?_⟩
      have stay : ∀ (r : Option Nat), (r = none → of i = none ∧ ∀ k, k < i → of k = none) → (∀ k, r = some k → k < m ∧ ∃ l, of k = some l) → (fun i σ H' => Same H H' ∧ ∃ (r : Option Nat) (v1 v2 : Option V), (r = none → ∀ k, k < i → of k = none) ∧ (∀ k, r = some k → k < m ∧ ∃ l, of k = some l) ∧ σ = [some (.ref a), some (optN r), v1, v2]) (i + 1) [some (.ref a), some (optN r), some (.int (i : Nat)), some (optV (of i))] (upd H1 t (.tup [.int (i : Nat), optV (of i)])) := fun r q1 q2 =>
        ⟨s2, r, _, _, fun e k hk => by
          obtain ⟨e1, e2⟩ := q1 e
          by_cases c : k = i
          · rw [c]
            exact e1
          · exact e2 k (by omega), q2, rfl⟩
      cases eo : of i with
      | none =>
        rw [eo] at stay
        exact stay r (fun e => ⟨rfl, h1 e⟩) h2
      | some l =>
        rw [eo] at stay s2
        refine ⟨_, rfl, rfl, _, rfl, ?_⟩
        have set : (fun i σ H' => Same H H' ∧ ∃ (r : Option Nat) (v1 v2 : Option V), (r = none → ∀ k, k < i → of k = none) ∧ (∀ k, r = some k → k < m ∧ ∃ l, of k = some l) ∧ σ = [some (.ref a), some (optN r), v1, v2]) (i + 1) [some (.ref a), some (.int (i : Nat)), some (.int (i : Nat)), some (optV (some l))] (upd H1 t (.tup [.int (i : Nat), optV (some l)])) :=
          stay (some i) (fun e => by cases e) fun k e => by
            cases e
            exact ⟨hi, l, eo⟩
        cases r with
        | none => exact ⟨_, rfl, set⟩
        | some b =>
          obtain ⟨hb, lb, elb⟩ := h2 b rfl
          have gb : atI (vec m fun k => optV (of k)) (b : Int) = some (.int lb) := by
            rw [atI_vec hb, elb]
            rfl
          refine ⟨_, rfl, _, rfl, _, rfl, a, _, _, _, rfl, rfl, SqL.of (s2 _ _ ha), gb, _, _, rfl, rfl, _, rfl, ?_⟩
          by_cases c : l < lb
          · rw [decide_eq_true c]
            exact ⟨_, rfl, set⟩
          · rw [decide_eq_false c]
            exact stay (some b) (fun e => by cases e) h2
    · rintro σ H1 ⟨s1, r, v1, v2, h1, h2, rfl⟩
      rw [vec_length] at h1
      exact ⟨_, rfl, k H1 r s1 ⟨h1, h2⟩⟩
end
end Ep
set_option Elab.async false
set_option linter.all false
set_option maxRecDepth 100000
set_option maxHeartbeats 4000000
/-! EpChosen: purse/choosing.py. -/
namespace Ep
open PySem PySem.Spec PyProof.Rows L2
/-- the choosing, asked of grains: what is asked of the purses -/
structure AskG (n w : Nat) (pf cf : Nat → Int) (wf : Nat → List Nat) : Prop where
  pur : ∀ i, i < n → 0 ≤ pf i ∧ ((lcmTo n : Nat) : Int) ^ (w + 1) ∣ pf i
  cost : ∀ k, k < w → 0 < cf k
abbrev ChE (n w : Nat) (pf cf : Nat → Int) (wf : Nat → List Nat) (steps : List Step) (left : Nat → Int) : Prop := ChEnd n w (wants wf) (priceF n w cf) pf ((lcmTo n : Nat) : Int) steps left
def spChoose : Sp := fun vs H Q _ => ∃ (ap ac aw : Addr) (n w : Nat) (pf cf : Nat → Int) (wf : Nat → List Nat), vs = [.ref ap, .ref ac, .ref aw] ∧ Ask H ap ac aw n w pf cf wf ∧ AskG n w pf cf wf ∧
  ∀ p H' steps left, Same H H' → H p = none → StepsAt H' p n steps → ChE n w pf cf wf steps left → Q (.ref p) H'
def spLeft : Sp := fun vs H Q _ => ∃ (ap as : Addr) (n : Nat) (pf : Nat → Int) (steps : List Step), vs = [.ref ap, .ref as] ∧ LV H ap n pf ∧ StepsAt H as n steps ∧ n ≤ 6 ∧
  ∀ p H', Same H H' → H p = none → LV H' p n (fun i => pf i - (steps.map fun s => s.paid i).sum) → Q (.ref p) H'
section
variable {P : Program} {w : World} {K : PySem.W.Frag} {mg : Str → Option Value} {base : Heap}
theorem sc_pay : FnScope ["purses", "wishes", "work", "level", "paid", "purse", "wanted"] ["purses", "wishes", "work", "level"] (defScope s_payments) := ⟨rfl, rfl, rfl, by decide +kernel, rfl, by decide +kernel, by decide +kernel⟩
theorem ok_pay (T : Tx K mg) : Def P w K mg base CX0 1 (He.fAd K d_payments.at_) ["purses", "wishes", "work", "level"] spPay := by
  obtain ⟨fd, F⟩ := T.f_payments
  refine ⟨fd, F.ok sc_pay (fun vs H Q E h => ?_) (fun cdv A outer s H vs Q E hr h => ?_), F.bindsN (fun _ _ _ _ _ _ us hl => match us, hl with | [_, _, _, _], _ => rfl), F.kp⟩
  · obtain ⟨_, _, _, _, _, _, _, rfl, _⟩ := h
    rfl
  · obtain ⟨ap, aw, n, pf, wf, k0, x0, rfl, hp, hw, hn, k⟩ := h
    refine ⟨_, PSs.nox (pss_cons (ps_set (i := 4) sc_pay.nd rfl (.inl rfl) (pe_lst pa_nil))
      (pss_cons (ps_for PassesOwn.never rfl (pi_zip (by rfl) T.z_zip (pa_cons (pv 0) (pa_cons (pv 1) pa_nil))) (pg_tup rfl (pgs_cons (pg_name (i := 5) sc_pay.nd rfl (.inl rfl)) (pgs_cons (pg_name (i := 6) sc_pay.nd rfl (.inl rfl)) pgs_nil)))
        (pss_one (ps_if (pt_cmpR op_in_seq (pv 2) (pv 6) (by rfl))
          (pss_one (ps_expr (pe_bm PySem.F.plainAttrs_list PySem.F.slot_list_append PySem.F.type_list_append mt_append (pv 4) (pa_cons (pe_callB (call_min2 rfl) (by rfl) T.z_min (by decide +kernel) (pa_cons (pv 5) (pa_cons (pv 3) pa_nil))) pa_nil))))
          (pss_one (ps_expr (pe_bm PySem.F.plainAttrs_list PySem.F.slot_list_append PySem.F.type_list_append mt_append (pv 4) (pa_cons pe_int pa_nil)))))))
      (pss_one (ps_ret (pv 4))))), ?_⟩
    obtain ⟨bs, h1, h2⟩ := id hw
    refine ⟨Nat.zero_le _, fun p np => ⟨_, rfl, _, rfl, ap, aw, _, _, rfl, SqL.of (snew np _ _ hp), SqL.of (snew np _ _ h1), ?_⟩⟩
    refine for_it (walk_zip (K := K) (a := ap) (b := aw) (xs := vec n fun i => V.int (pf i)) (ys := vec n fun i => V.ref (bs i)) (n := n) (by rw [vec_length, vec_length, Nat.min_self])) (fun i σ H' => i ≤ n ∧ Same H H' ∧ H' p = some (.lst (vec i fun j => V.int (payF (wants wf) k0 x0 pf j))) ∧ ∃ v1 v2, σ = [some (.ref ap), some (.ref aw), some (.int (k0 : Nat)), some (.int x0), some (.ref p), v1, v2]) ?_ ?_ ?_ ?_
    · exact ⟨Nat.zero_le _, snew np, upd_same, none, none, rfl⟩
    · rintro i σ H' _ ⟨_, s1, _⟩
      exact ⟨SqL.of (s1 _ _ hp), SqL.of (s1 _ _ h1)⟩
    · rintro i x σ H1 H2 hi ⟨_, s1, hL, v1, v2, rfl⟩ ⟨t, u, y, rfl, ht, rfl, hu, hy⟩
      obtain rfl : u = V.int (pf i) := (vec_get_some hu).2
      obtain rfl : y = V.ref (bs i) := (vec_get_some hy).2
      have s2 : Same H1 (upd H1 t (.tup [.int (pf i), .ref (bs i)])) := snew ht
      have hsz : (vec i fun j => V.int (payF (wants wf) k0 x0 pf j)).length < sizeLine := sz_lt (by rw [vec_length]; omega)
      refine ⟨t, _, rfl, SqT.of upd_same, rfl, _, _, rfl, _, _, rfl, rfl, _, rfl, _, rfl, bs i, _, rfl, .inl (SqL.of (s2 _ _ (s1 _ _ (h2 i hi)))), rfl, flat_nat _, _, rfl, ?_⟩
      rw [inV_nat]
      refine ite2 (fun c => ?_) (fun c => ?_)
      · have c2 : wants wf i k0 = true := c
        refine ⟨_, rfl, .inl ⟨rfl, _, SqL.of (s2 _ _ hL)⟩, _, rfl, _, rfl, _, _, rfl, p, _, _, rfl, rfl, s2 _ _ hL, hsz, hi, smut (s1.trans s2) np, ?_, _, _, rfl⟩
        rw [upd_same, vec_succ]
        have e : payF (wants wf) k0 x0 pf i = mn (pf i) x0 := if_pos c2
        rw [e]
        rfl
      · have c2 : ¬ wants wf i k0 = true := c
        refine ⟨_, rfl, .inl ⟨rfl, _, SqL.of (s2 _ _ hL)⟩, p, _, _, rfl, rfl, s2 _ _ hL, hsz, hi, smut (s1.trans s2) np, ?_, _, _, rfl⟩
        rw [upd_same, vec_succ]
        have e : payF (wants wf) k0 x0 pf i = 0 := if_neg c2
        rw [e]
    · rintro σ H1 ⟨_, s1, hL, v1, v2, rfl⟩
      exact ⟨_, rfl, k p H1 s1 np hL⟩
theorem sc_less : FnScope ["purses", "paid", "purse", "part"] ["purses", "paid"] (defScope s_lessened) := ⟨rfl, rfl, rfl, by decide +kernel, rfl, by decide +kernel, by decide +kernel⟩
theorem ok_less (T : Tx K mg) : Def P w K mg base CX0 1 (He.fAd K d_lessened.at_) ["purses", "paid"] spLess := by
  obtain ⟨fd, F⟩ := T.f_lessened
  refine ⟨fd, F.ok sc_less (fun vs H Q E h => ?_) (fun cdv A outer s H vs Q E hr h => ?_), F.bindsN (fun _ _ _ _ _ _ us hl => match us, hl with | [_, _], _ => rfl), F.kp⟩
  · obtain ⟨_, _, _, _, _, rfl, _⟩ := h
    rfl
  · obtain ⟨ap, aq, n, pf, qf, rfl, hp, hq, hn, k⟩ := h
    refine ⟨_, PSs.nox (pss_one (ps_ret (pe_lc (own := [("purse", 2), ("part", 3)]) (g := gTup K 2 (gCons (gName 2) (gCons (gName 3) gNil))) (tt := tYes) (te := tOp (rI0 fun i j => .int (i - j)) (tVar 2) (tVar 3)) rfl sc_less.nd (pi_zip (by rfl) T.z_zip (pa_cons (pv 0) (pa_cons (pv 1) pa_nil))) (blkOk_by (N := ["purses", "paid", "purse", "part"]) (sc := defScope s_lessened) (by decide +kernel))
      (fun _ _ _ _ _ => pg_tup (by rfl) (pgs_cons (pg_name (i := 2) sc_less.nd rfl (Or.inl rfl)) (pgs_cons (pg_name (i := 3) sc_less.nd rfl (Or.inl rfl)) pgs_nil)))
      (fun _ _ _ _ _ => pts_nil) (fun _ _ _ _ _ => pe_op op_sub (pv 2) (pv 3))))), ?_⟩
    refine ⟨_, rfl, _, rfl, ap, aq, _, _, rfl, SqL.of hp, SqL.of hq, fun D hD => ?_⟩
    refine lc_it (walk_zip (K := K) (a := ap) (b := aq) (xs := vec n fun i => V.int (pf i)) (ys := vec n fun i => V.int (qf i)) (n := n) (by rw [vec_length, vec_length, Nat.min_self])) (fun i H' => i ≤ n ∧ Same H H' ∧ H' D = some (.lst (vec i fun j => V.int (pf j - qf j)))) ⟨Nat.zero_le _, snew hD, upd_same⟩ ?_ ?_ ?_
    · rintro i H' _ ⟨_, s1, _⟩
      exact ⟨SqL.of (s1 _ _ hp), SqL.of (s1 _ _ hq)⟩
    · rintro i x H1 H2 hi ⟨_, s1, hL⟩ ⟨t, u, y, rfl, ht, rfl, hu, hy⟩
      obtain rfl : u = V.int (pf i) := (vec_get_some hu).2
      obtain rfl : y = V.int (qf i) := (vec_get_some hy).2
      have s2 : Same H1 (upd H1 t (.tup [.int (pf i), .int (qf i)])) := snew ht
      refine ⟨t, _, rfl, SqT.of upd_same, rfl, _, _, rfl, _, _, rfl, rfl, rfl, _, rfl, _, rfl, _, _, rfl, rfl, _, s2 _ _ hL, sz_lt (by rw [vec_length]; omega), hi, smut (s1.trans s2) hD, ?_⟩
      rw [upd_same, vec_succ]
    · rintro H' ⟨_, s1, hL⟩
      exact k D H' s1 hD hL
theorem sc_left : FnScope ["purses", "steps", "left", "work", "level", "paid"] ["purses", "steps"] (defScope s_left_of) := ⟨rfl, rfl, rfl, by decide +kernel, rfl, by decide +kernel, by decide +kernel⟩
theorem ok_left (T : Tx K mg) : Def P w K mg base CX0 2 (He.fAd K d_left_of.at_) ["purses", "steps"] spLeft := by
  obtain ⟨fd, F⟩ := T.f_left_of
  refine ⟨fd, F.ok sc_left (fun vs H Q E h => ?_) (fun cdv A outer s H vs Q E hr h => ?_), F.bindsN (fun _ _ _ _ _ _ us hl => match us, hl with | [_, _], _ => rfl), F.kp⟩
  · obtain ⟨_, _, _, _, _, rfl, _⟩ := h
    rfl
  · obtain ⟨ap, as, n, pf, steps, rfl, hp, hs, hn, k⟩ := h
    obtain ⟨ts, h1, h2⟩ := id hs
    refine ⟨_, PSs.nox (pss_cons (ps_set (i := 2) sc_left.nd rfl (.inl rfl) (pe_callTy call_list_of (by rfl) T.z_list (by decide +kernel) (pa_cons (pv 0) pa_nil)))
      (pss_cons (ps_for PassesOwn.never rfl (pi_list (pv 1)) (pg_tup rfl (pgs_cons (pg_name (i := 3) sc_left.nd rfl (.inl rfl)) (pgs_cons (pg_name (i := 4) sc_left.nd rfl (.inl rfl)) (pgs_cons (pg_name (i := 5) sc_left.nd rfl (.inl rfl)) pgs_nil))))
        (pss_one (ps_set (i := 2) sc_left.nd rfl (.inl rfl) (pe_f (ok_less T) hr pass0 T.g_lessened (pa_cons (pv 2) (pa_cons (pv 5) pa_nil))))))
      (pss_one (ps_ret (pv 2))))), ?_⟩
    refine ⟨_, rfl, ap, _, rfl, .inl (SqL.of hp), fun l nl => ⟨_, rfl, as, rfl, ⟨_, SqL.of (snew nl _ _ h1)⟩, ?_⟩⟩
    refine for_it (walk_list (K := K) (a := as) (xs := ts.map V.ref)) (fun i σ H' => i ≤ ts.length ∧ Same H H' ∧ ∃ q v1 v2 v3, H q = none ∧ LV H' q n (fun j => pf j - ((steps.take i).map fun s => s.paid j).sum) ∧ σ = [some (.ref ap), some (.ref as), some (.ref q), v1, v2, v3]) ?_ ?_ ?_ ?_
    · refine ⟨Nat.zero_le _, snew nl, l, none, none, none, nl, ?_, rfl⟩
      refine Eq.trans upd_same ?_
      have e : (vec n fun i => V.int (pf i)) = vec n fun i => V.int (pf i - ((steps.take 0).map fun s => s.paid i).sum) := vec_congr fun i _ => by
        have z : ((steps.take 0).map fun s => s.paid i).sum = 0 := rfl
        rw [z, Int.sub_zero]
      rw [e]
    · rintro i σ H' _ ⟨_, s1, _⟩
      exact SqL.of (s1 _ _ h1)
    · rintro i x σ H1 H2 hi ⟨_, s1, q, v1, v2, v3, nq, hL, rfl⟩ ⟨rfl, hx⟩
      rw [List.length_map] at hi
      have hx2 : (ts.map V.ref)[i]? = some x := hx
      rw [List.getElem?_map, List.getElem?_eq_getElem hi] at hx2
      obtain rfl : x = V.ref ts[i] := (Option.some.inj hx2).symm
      obtain ⟨st, hst, c, hc, hcl⟩ := h2.left (List.getElem?_eq_getElem hi)
      refine ⟨_, _, rfl, SqT.of (s1 _ _ hc), rfl, _, _, rfl, _, _, rfl, _, _, rfl, rfl, _, rfl, _, rfl, q, c, n, _, _, rfl, hL, hcl.mono s1, hn, fun p H3 s2 np hL2 => ?_⟩
      refine ⟨hi, s1.trans s2, p, _, _, _, s1.free np, ?_, rfl⟩
      refine Eq.trans hL2 ?_
      have e : (vec n fun i_1 => V.int (pf i_1 - ((steps.take i).map fun s => s.paid i_1).sum - st.paid i_1)) = vec n fun j => V.int (pf j - ((steps.take (i + 1)).map fun s => s.paid j).sum) := vec_congr fun j _ => by
        rw [List.take_add_one, hst]
        show _ = V.int (pf j - ((steps.take i ++ [st]).map fun s => s.paid j).sum)
        rw [List.map_append, List.map_cons, List.map_nil, sum_snoc, Int.sub_sub]
      rw [e]
    · rintro σ H1 ⟨_, s1, q, v1, v2, v3, nq, hL, rfl⟩
      rw [List.length_map, h2.1, List.take_length] at hL
      exact ⟨_, rfl, k q H1 s1 nq hL⟩
theorem sc_choose : FnScope ["purses", "costs", "wishes", "left", "steps", "done", "offers", "work", "paid"] ["purses", "costs", "wishes"] (defScope s_choose) := ⟨rfl, rfl, rfl, by decide +kernel, rfl, by decide +kernel, by decide +kernel⟩
theorem ok_choose (T : Tx K mg) : Def P w K mg base CX0 7 (He.fAd K d_choose.at_) ["purses", "costs", "wishes"] spChoose := by
  obtain ⟨fd, F⟩ := T.f_choose
  refine ⟨fd, F.ok sc_choose (fun vs H Q E h => ?_) (fun cdv A outer s H vs Q E hr h => ?_), F.bindsN (fun _ _ _ _ _ _ us hl => match us, hl with | [_, _, _], _ => rfl), F.kp⟩
  · obtain ⟨_, _, _, _, _, _, _, _, rfl, _⟩ := h
    rfl
  · obtain ⟨ap, ac, aw, n, m, pf, cf, wf, rfl, A0, G, k⟩ := h
    refine ⟨_, PSs.nox (pss_cons (ps_set (i := 3) sc_choose.nd rfl (.inl rfl) (pe_callTy call_list_of (by rfl) T.z_list (by decide +kernel) (pa_cons (pv 0) pa_nil)))
      (pss_cons (ps_set (i := 4) sc_choose.nd rfl (.inl rfl) (pe_lst pa_nil))
      (pss_cons (ps_set (i := 5) sc_choose.nd rfl (.inl rfl) (pe_lst pa_nil))
      (pss_cons (ps_set (i := 6) sc_choose.nd rfl (.inl rfl) (pe_f (ok_offers T) hr pass0 T.g_offers_of (pa_cons (pv 3) (pa_cons (pv 1) (pa_cons (pv 2) (pa_cons (pv 5) pa_nil))))))
      (pss_cons (ps_set (i := 7) sc_choose.nd rfl (.inl rfl) (pe_f (ok_next T) hr pass0 T.g_next_of (pa_cons (pv 6) pa_nil)))
      (pss_cons (ps_while PassesOwn.never (pt_cmpR op_notN (pv 7) pe_non (nomark _))
        (pss_cons (ps_set (i := 8) sc_choose.nd rfl (.inl rfl) (pe_f (ok_pay T) hr pass0 T.g_payments (pa_cons (pv 3) (pa_cons (pv 2) (pa_cons (pv 7) (pa_cons (pe_ix ix_list (pv 6) (pv 7) (fun _ _ => rfl)) pa_nil))))))
        (pss_cons (ps_expr (pe_bm PySem.F.plainAttrs_list PySem.F.slot_list_append PySem.F.type_list_append mt_append (pv 4) (pa_cons (pe_tup (pa_cons (pv 7) (pa_cons (pe_ix ix_list (pv 6) (pv 7) (fun _ _ => rfl)) (pa_cons (pv 8) pa_nil)))) pa_nil)))
        (pss_cons (ps_expr (pe_bm PySem.F.plainAttrs_list PySem.F.slot_list_append PySem.F.type_list_append mt_append (pv 5) (pa_cons (pv 7) pa_nil)))
        (pss_cons (ps_set (i := 3) sc_choose.nd rfl (.inl rfl) (pe_f (ok_less T) hr pass0 T.g_lessened (pa_cons (pv 3) (pa_cons (pv 8) pa_nil))))
        (pss_cons (ps_set (i := 6) sc_choose.nd rfl (.inl rfl) (pe_f (ok_offers T) hr pass0 T.g_offers_of (pa_cons (pv 3) (pa_cons (pv 1) (pa_cons (pv 2) (pa_cons (pv 5) pa_nil))))))
        (pss_one (ps_set (i := 7) sc_choose.nd rfl (.inl rfl) (pe_f (ok_next T) hr pass0 T.g_next_of (pa_cons (pv 6) pa_nil))))))))))
      (pss_one (ps_ret (pv 4))))))))), ?_⟩
    have hL : (0 : Int) < ((lcmTo n : Nat) : Int) := by
      have := lcmTo_pos n
      omega
    have hG : ((gr n m : Nat) : Int) = ((lcmTo n : Nat) : Int) ^ (m + 1) := by
      unfold gr
      rw [Int.natCast_pow]
    have hGp : (0 : Int) < ((gr n m : Nat) : Int) := by
      have := gr_pos n m
      omega
    have hP : ∀ k, k < m → 0 < priceF n m cf k ∧ ((lcmTo n : Nat) : Int) ^ (m + 1) ∣ priceF n m cf k := fun k hk => by
      refine ⟨Int.mul_pos (G.cost k hk) hGp, ?_⟩
      show _ ∣ cf k * ((gr n m : Nat) : Int)
      rw [hG]
      exact Int.dvd_mul_left _ _
    have hd : ∀ j : Nat, 1 ≤ j → j ≤ n → (j : Int) ∣ ((lcmTo n : Nat) : Int) := fun j a b => Int.natCast_dvd_natCast.mpr (dvd_lcmTo a b)
    refine ⟨_, rfl, ap, _, rfl, .inl (SqL.of A0.p), fun l nl => ?_⟩
    refine ⟨Nat.zero_le _, fun ps nps => ⟨Nat.zero_le _, fun pd npd => ?_⟩⟩
    have s1 : Same H (upd H l (.lst (vec n fun i => V.int (pf i)))) := snew nl
    have s2 := snew (o := .lst []) nps
    have s3 := snew (o := .lst []) npd
    have s13 := (s1.trans s2).trans s3
    have hps : H ps = none := s1.free nps
    have hpd : H pd = none := (s1.trans s2).free npd
    have npp : ps ≠ pd := ne_of_none upd_same npd
    have nlps : l ≠ ps := ne_of_none upd_same nps
    have nlpd : l ≠ pd := ne_of_none (s2 _ _ upd_same) npd
    -- the heap without the two lists that change
    have hid : ∀ a, a ∈ ([ps, pd] : List Addr) → H a = none := fun a ha => by
      rcases List.mem_cons.mp ha with e | e
      · rw [e]
        exact hps
      · rw [List.mem_singleton.mp e]
        exact hpd
    have A1 : Ask (upd (upd (upd H l (.lst (vec n fun i => V.int (pf i)))) ps (.lst [])) pd (.lst [])) l ac aw n m pf cf wf :=
      ⟨s3 _ _ (s2 _ _ upd_same), A0.c.mono s13, A0.s.mono s13, A0.n6, A0.w6, A0.cb⟩
    refine ⟨_, rfl, _, rfl, _, rfl, _, rfl, l, ac, aw, pd, n, m, pf, cf, wf, [], rfl, A1, upd_same, fun po H1 of t1 npo hpo O => ?_⟩
    refine ⟨_, rfl, po, m, of, rfl, hpo, fun H2 r t2 N => ?_⟩
    have t12 := t1.trans t2
    have npos : po ∉ ([ps, pd] : List Addr) := fun q => by
      rcases List.mem_cons.mp q with e | e
      · rw [e, s3 _ _ upd_same] at npo
        cases npo
      · rw [List.mem_singleton.mp e, upd_same] at npo
        cases npo
    have nlS : l ∉ ([ps, pd] : List Addr) := fun q => by
      rcases List.mem_cons.mp q with e | e
      · exact nlps e
      · exact nlpd (List.mem_singleton.mp e)
    refine ⟨fun b σ H' => ∃ (steps : List Step) (left : Nat → Int) (pl po : Addr) (of : Nat → Option Int) (r : Option Nat) (v : Option V) (ts : List Addr), b = m - steps.length ∧ Same H (hide [ps, pd] H') ∧
      LV (hide [ps, pd] H') pl n left ∧ hide [ps, pd] H' po = some (.lst (vec m fun k => optV (of k))) ∧ H' ps = some (.lst (ts.map V.ref)) ∧ Each (StepAt n (hide [ps, pd] H')) ts steps ∧ H' pd = some (.lst ((steps.map (·.work)).map fun k => V.int (k : Nat))) ∧
      ChInv n m (wants wf) (priceF n m cf) pf ((lcmTo n : Nat) : Int) steps left ∧ OffOk n m m left cf wf (steps.map (·.work)) of ∧ NextOk m of r ∧
      σ = [some (.ref ap), some (.ref ac), some (.ref aw), some (.ref pl), some (.ref ps), some (.ref pd), some (.ref po), some (optN r), v], ⟨m - 0, [], pf, l, po, of, r, none, [], rfl, ?_, ?_, ?_, ?_, Each.nil, ?_, ?_, O, N, rfl⟩, ?_⟩
    · exact hide_into (s13.trans t12) hid
    · show hide _ _ _ = _
      rw [hide_out nlS]
      exact t12 _ _ (s3 _ _ (s2 _ _ upd_same))
    · rw [hide_out npos]
      exact t2 _ _ hpo
    · exact t12 _ _ (s3 _ _ upd_same)
    · exact t12 _ _ upd_same
    · exact ChInv.start fun i hi => ⟨(G.pur i hi).1, (G.pur i hi).2⟩
    · rintro b σ H3 ⟨steps, left, pl, po, of, r, v, ts, rfl, u0, uL, uO, uS, uE, uD, I, O, N, rfl⟩
      refine ⟨_, rfl, rfl, _, rfl, ?_⟩
      cases r with
      | none =>
        have fin : ChE n m pf cf wf steps left := I.end_ (fun k hk => (hP k hk).1) fun k hk hn => by
          have q := (O k hk).2 hn
          rw [N.1 rfl k hk] at q
          exact q
        refine ⟨_, rfl, k ps H3 steps left (u0.trans (hide_le _ _)) hps ⟨ts, uS, uE.mono fun _ _ _ _ => StepAt.mono (hide_le _ _)⟩ fin⟩
      | some kk =>
        obtain ⟨hk, x, ex⟩ := N.2 kk rfl
        have hn : kk ∉ steps.map (·.work) := fun q => by
          rw [(O kk hk).1 q] at ex
          cases ex
        have lx := (O kk hk).2 hn
        rw [ex] at lx
        obtain ⟨x0, I2⟩ := I.step hL hd hP hk hn lx
        have hlen : steps.length + 1 ≤ m := by
          have := I2.len
          rw [List.length_append, List.length_singleton] at this
          exact this
        have le := hide_le [ps, pd] H3
        have lO : H3 po = some (.lst (vec m fun k => optV (of k))) := le _ _ uO
        have ix : atI (vec m fun k => optV (of k)) (kk : Int) = some (.int x) := by
          rw [atI_vec hk, ex]
          rfl
        refine ⟨fun σ' H' => ∃ m', m' < m - steps.length ∧ (∃ (steps : List Step) (left : Nat → Int) (pl po : Addr) (of : Nat → Option Int) (r : Option Nat) (v : Option V) (ts : List Addr), m' = m - steps.length ∧ Same H (hide [ps, pd] H') ∧
      LV (hide [ps, pd] H') pl n left ∧ hide [ps, pd] H' po = some (.lst (vec m fun k => optV (of k))) ∧ H' ps = some (.lst (ts.map V.ref)) ∧ Each (StepAt n (hide [ps, pd] H')) ts steps ∧ H' pd = some (.lst ((steps.map (·.work)).map fun k => V.int (k : Nat))) ∧
      ChInv n m (wants wf) (priceF n m cf) pf ((lcmTo n : Nat) : Int) steps left ∧ OffOk n m m left cf wf (steps.map (·.work)) of ∧ NextOk m of r ∧
      σ' = [some (.ref ap), some (.ref ac), some (.ref aw), some (.ref pl), some (.ref ps), some (.ref pd), some (.ref po), some (optN r), v]), fun σ' H' q => q, ?_⟩
        -- paid = payments(left, wishes, work, offers[work])
        refine ⟨_, rfl, _, rfl, _, rfl, _, rfl, _, rfl, po, _, _, _, rfl, rfl, SqL.of lO, ix, pl, aw, n, left, wf, kk, x, rfl, uL.mono le, (A0.s.mono u0).mono le, A0.n6, fun q H4 e4 nq hq => ?_⟩
        have nqS : q ∉ ([ps, pd] : List Addr) := fun z => by
          rcases List.mem_cons.mp z with e | e
          · rw [e, uS] at nq
            cases nq
          · rw [List.mem_singleton.mp e, uD] at nq
            cases nq
        -- steps.append((work, offers[work], paid))
        refine ⟨_, rfl, .inl ⟨rfl, _, SqL.of (e4 _ _ uS)⟩, _, rfl, _, rfl, _, rfl, po, _, _, _, rfl, rfl, SqL.of (e4 _ _ lO), ix, _, rfl, (by show 3 ≤ sizeLine; decide), fun t nt => ?_⟩
        have e5 := snew (o := .tup [.int (kk : Nat), .int x, .ref q]) nt
        have ntS : t ∉ ([ps, pd] : List Addr) := fun z => by
          rcases List.mem_cons.mp z with e | e
          · rw [e, e4 _ _ uS] at nt
            cases nt
          · rw [List.mem_singleton.mp e, e4 _ _ uD] at nt
            cases nt
        refine ⟨ps, _, _, rfl, rfl, e5 _ _ (e4 _ _ uS), sz_lt (by rw [List.length_map, uE.1]; have := A0.w6; omega), ?_⟩
        -- done.append(work)
        have hD5 : upd (upd H4 t (.tup [.int (kk : Nat), .int x, .ref q])) ps (.lst (ts.map V.ref ++ [.ref t])) pd = some (.lst ((steps.map (·.work)).map fun k => V.int (k : Nat))) := by
          rw [upd_ne npp.symm]
          exact e5 _ _ (e4 _ _ uD)
        refine ⟨_, rfl, .inl ⟨rfl, _, SqL.of hD5⟩, _, rfl, pd, _, _, rfl, rfl, hD5, sz_lt (by rw [List.length_map, List.length_map]; have := A0.w6; omega), ?_⟩
        have eqh : hide [ps, pd] (upd (upd (upd H4 t (.tup [.int (kk : Nat), .int x, .ref q])) ps (.lst (ts.map V.ref ++ [.ref t]))) pd (.lst ((steps.map (·.work)).map (fun k => V.int (k : Nat)) ++ [.int (kk : Nat)]))) = hide [ps, pd] (upd H4 t (.tup [.int (kk : Nat), .int x, .ref q])) := by
          rw [hide_upd (List.mem_cons_of_mem _ (List.mem_singleton.mpr rfl)), hide_upd (List.mem_cons_self ..)]
        obtain ⟨H6, eH6⟩ : ∃ H6, H6 = upd (upd (upd H4 t (.tup [.int (kk : Nat), .int x, .ref q])) ps (.lst (ts.map V.ref ++ [.ref t]))) pd (.lst ((steps.map (·.work)).map (fun k => V.int (k : Nat)) ++ [.int (kk : Nat)])) := ⟨_, rfl⟩
        rw [← eH6] at eqh
        have g6 : Same (hide [ps, pd] H3) (hide [ps, pd] H6) := by
          rw [eqh]
          exact hide_same (e4.trans e5)
        have le6 := hide_le [ps, pd] H6
        have d6 : H6 pd = some (.lst ((steps.map (·.work) ++ [kk]).map fun k => V.int (k : Nat))) := by
          rw [eH6, upd_same, List.map_append (l₁ := steps.map (·.work))]
          rfl
        have s6 : H6 ps = some (.lst ((ts ++ [t]).map V.ref)) := by
          rw [eH6, upd_ne npp, upd_same, List.map_append]
          rfl
        have q6 : LV (hide [ps, pd] H6) q n (payF (wants wf) kk x left) := by
          show hide _ _ _ = _
          rw [eqh, hide_out nqS]
          exact e5 _ _ hq
        have t6 : hide [ps, pd] H6 t = some (.tup [.int (kk : Nat), .int x, .ref q]) := by
          rw [eqh, hide_out ntS]
          exact upd_same
        clear eqh
        subst eH6
        -- left = lessened(left, paid)
        refine ⟨_, rfl, _, rfl, pl, q, n, left, _, rfl, (uL.mono g6).mono le6, q6.mono le6, A0.n6, fun pl2 H7 e7 npl hpl => ?_⟩
        have npl2 : pl2 ∉ ([ps, pd] : List Addr) := fun z => by
          rcases List.mem_cons.mp z with e | e
          · exact (ne_of_none s6 npl).symm e
          · exact (ne_of_none d6 npl).symm (List.mem_singleton.mp e)
        have A7 : Ask H7 pl2 ac aw n m (fun i => left i - payF (wants wf) kk x left i) cf wf :=
          ⟨hpl, ((A0.c.mono (u0.trans g6)).mono le6).mono e7, ((A0.s.mono (u0.trans g6)).mono le6).mono e7, A0.n6, A0.w6, A0.cb⟩
        -- offers = ..; work = ..
        refine ⟨_, rfl, _, rfl, _, rfl, _, rfl, pl2, ac, aw, pd, n, m, _, cf, wf, steps.map (·.work) ++ [kk], rfl, A7, e7 _ _ d6, fun po2 H8 of2 e8 npo2 hpo2 O2 => ?_⟩
        have npo2S : po2 ∉ ([ps, pd] : List Addr) := fun z => by
          rcases List.mem_cons.mp z with e | e
          · exact (ne_of_none (e7 _ _ s6) npo2).symm e
          · exact (ne_of_none (e7 _ _ d6) npo2).symm (List.mem_singleton.mp e)
        refine ⟨_, rfl, po2, m, of2, rfl, hpo2, fun H9 r2 e9 N2 => ?_⟩
        have g9 : Same (hide [ps, pd] _) (hide [ps, pd] H9) := hide_same ((e7.trans e8).trans e9)
        refine ⟨m - (steps.length + 1), by omega, steps ++ [⟨kk, x, payF (wants wf) kk x left⟩], _, pl2, po2, of2, r2, _, ts ++ [t], ?_, ?_, ?_, ?_, ?_, ?_, ?_, I2, ?_, N2, rfl⟩
        · rw [List.length_append, List.length_singleton]
        · exact (u0.trans g6).trans g9
        · show hide _ _ _ = _
          rw [hide_out npl2]
          exact e9 _ _ (e8 _ _ hpl)
        · rw [hide_out npo2S]
          exact e9 _ _ hpo2
        · exact e9 _ _ (e8 _ _ (e7 _ _ s6))
        · refine Each.snoc (uE.mono fun _ _ _ _ => StepAt.mono (g6.trans g9)) ?_
          exact StepAt.mono g9 ⟨q, t6, q6⟩
        · rw [List.map_append]
          exact e9 _ _ (e8 _ _ (e7 _ _ d6))
        · rw [List.map_append]
          exact O2
end
end Ep
set_option Elab.async false
set_option linter.all false
set_option maxRecDepth 100000
set_option maxHeartbeats 4000000
/-! EpState: a chest as plain data, its deeds; dicts that are lists by a key. -/
namespace Ep
open PySem PySem.Spec PyProof.Rows L2
/-! ### a chest -/
structure Plan where
  name : Str
  cost : Int
  wish : List Str
structure Ch where
  people : List (Str × Int)
  plans : List Plan
  well : Int
  gifts : Int
  outlay : Int
def Ch.names (s : Ch) : List Str := s.people.map (·.1)
def Ch.works (s : Ch) : List Str := s.plans.map (·.name)
def Ch.purses (s : Ch) : Int := (s.people.map (·.2)).sum
def NameOk (z : Str) : Prop := 1 ≤ z.cps.toList.length ∧ z.cps.toList.length ≤ 8 ∧ ∀ c, c ∈ z.cps.toList → 97 ≤ c ∧ c ≤ 122
structure Ch.Ok (s : Ch) : Prop where
  p6 : s.people.length ≤ 6
  w6 : s.plans.length ≤ 6
  pnd : s.names.Nodup
  wnd : s.works.Nodup
  pok : ∀ n, n ∈ s.names → NameOk n
  wok : ∀ n, n ∈ s.works → NameOk n
  pos : ∀ q, q ∈ s.people → 0 ≤ q.2
  cost : ∀ q, q ∈ s.plans → 1 ≤ q.cost ∧ q.cost ≤ 1000000000
  wish : ∀ q, q ∈ s.plans → q.wish.Nodup ∧ ∀ n, n ∈ q.wish → n ∈ s.names
  well : 0 ≤ s.well
  out : 0 ≤ s.outlay
  sum : s.gifts = s.outlay + s.well + s.purses
/-! ### the deeds -/
def Ch.nil : Ch := ⟨[], [], 0, 0, 0⟩
def Ch.enrol (s : Ch) (n : Str) : Ch := { s with people := s.people ++ [(n, 0)] }
def Ch.purse (s : Ch) (n : Str) : Int := ((s.people.find? fun q => decide (q.1 = n)).map (·.2)).getD 0
def Plan.upd (q : Plan) (f : List Str → List Str) : Plan := ⟨q.name, q.cost, f q.wish⟩
def Ch.leave (s : Ch) (n : Str) : Ch := { s with people := s.people.filter (fun q => decide (q.1 ≠ n)), plans := s.plans.map (fun q => q.upd fun l => l.filter fun m => decide (m ≠ n)), well := s.well + s.purse n }
def Ch.give (s : Ch) (c : Int) : Ch := if s.people = [] then { s with gifts := s.gifts + c, well := s.well + c } else
  { s with people := s.people.map (fun q => (q.1, q.2 + (s.well + c) / (s.people.length : Int))), gifts := s.gifts + c, well := (s.well + c) % (s.people.length : Int) }
def Ch.propose (s : Ch) (w : Str) (c : Int) : Ch := { s with plans := s.plans ++ [⟨w, c, []⟩] }
def Ch.withdraw (s : Ch) (w : Str) : Ch := { s with plans := s.plans.filter fun q => decide (q.name ≠ w) }
def addN (l : List Str) (n : Str) : List Str := if n ∈ l then l else l ++ [n]
def dropN (l : List Str) (n : Str) : List Str := l.filter fun m => decide (m ≠ n)
def onPlan (w : Str) (f : List Str → List Str) (q : Plan) : Plan := if q.name = w then q.upd f else q
def Ch.want (s : Ch) (n w : Str) : Ch := { s with plans := s.plans.map (onPlan w fun l => addN l n) }
def Ch.unwant (s : Ch) (n w : Str) : Ch := { s with plans := s.plans.map (onPlan w fun l => dropN l n) }
theorem onPlan_name (w : Str) (f : List Str → List Str) (q : Plan) : (onPlan w f q).name = q.name := by unfold onPlan; split <;> rfl
theorem onPlan_cost (w : Str) (f : List Str → List Str) (q : Plan) : (onPlan w f q).cost = q.cost := by unfold onPlan; split <;> rfl
theorem names_onPlan (w : Str) (f : List Str → List Str) (l : List Plan) : (l.map (onPlan w f)).map (·.name) = l.map (·.name) := by
  rw [List.map_map]
  exact List.map_congr_left fun q _ => onPlan_name w f q
theorem names_upd (f : List Str → List Str) (l : List Plan) : (l.map fun q => q.upd f).map (·.name) = l.map (·.name) := by
  rw [List.map_map]; rfl
/-! ### filters and places -/
theorem nd_filter {α : Type} {l : List α} (p : α → Bool) (h : l.Nodup) : (l.filter p).Nodup := List.Nodup.sublist List.filter_sublist h
theorem map_filter_key {α : Type} (kf : α → Str) (z : Str) : ∀ l : List α, (l.filter fun q => decide (kf q ≠ z)).map kf = (l.map kf).filter fun m => decide (m ≠ z)
  | [] => rfl
  | a :: r => by
    rw [List.filter_cons, List.map_cons, List.filter_cons]
    by_cases h : kf a = z
    · rw [if_neg (by simp [h]), if_neg (by simp [h])]
      exact map_filter_key kf z r
    · rw [if_pos (by simp [h]), if_pos (by simp [h]), List.map_cons, map_filter_key kf z r]
theorem filter_all {α : Type} {p : α → Bool} {l : List α} (h : ∀ a, a ∈ l → p a = true) : l.filter p = l := List.filter_eq_self.mpr h
theorem erase_key {α : Type} (kf : α → Str) (z : Str) : ∀ {l : List α} {j : Nat} {q : α}, (l.map kf).Nodup → l[j]? = some q → kf q = z → l.eraseIdx j = l.filter fun q => decide (kf q ≠ z)
  | [], j, q, _, h, _ => by simp at h
  | a :: r, 0, q, hn, h, e => by
    have ea : a = q := Option.some.inj h
    subst ea
    obtain ⟨h1, h2⟩ := List.nodup_cons.mp hn
    rw [List.eraseIdx_cons_zero, List.filter_cons, if_neg (by simp [e])]
    exact (filter_all fun b hb => decide_eq_true (show kf b ≠ z from fun q => h1 (by rw [e, ← q]; exact List.mem_map.mpr ⟨b, hb, rfl⟩))).symm
  | a :: r, j + 1, q, hn, h, e => by
    obtain ⟨h1, h2⟩ := List.nodup_cons.mp hn
    have hq : r[j]? = some q := h
    have na : kf a ≠ z := fun c => h1 (by rw [c, ← e]; exact List.mem_map.mpr ⟨q, List.mem_of_getElem? hq, rfl⟩)
    rw [List.eraseIdx_cons_succ, List.filter_cons, if_pos (by simp [na]), erase_key kf z h2 hq e]
theorem find_key {α : Type} (kf : α → Str) : ∀ {l : List α} {q : α}, (l.map kf).Nodup → q ∈ l → l.find? (fun r => decide (kf r = kf q)) = some q
  | [], q, _, h => by simp at h
  | a :: r, q, hn, h => by
    obtain ⟨h1, h2⟩ := List.nodup_cons.mp hn
    rcases List.mem_cons.mp h with e | e
    · subst e
      rw [List.find?_cons, decide_eq_true rfl]
    · have na : kf a ≠ kf q := fun c => h1 (by rw [c]; exact List.mem_map.mpr ⟨q, e, rfl⟩)
      rw [List.find?_cons, decide_eq_false na]
      exact find_key kf h2 e
theorem find_none {α : Type} (kf : α → Str) {l : List α} {z : Str} (h : z ∉ l.map kf) : l.find? (fun r => decide (kf r = z)) = none := by
  rw [List.find?_eq_none]
  intro a ha q
  exact h (List.mem_map.mpr ⟨a, ha, of_decide_eq_true q⟩)
theorem exists_key {α : Type} (kf : α → Str) {l : List α} {z : Str} (h : z ∈ l.map kf) : ∃ q, q ∈ l ∧ kf q = z := by
  obtain ⟨q, h1, h2⟩ := List.mem_map.mp h
  exact ⟨q, h1, h2⟩
/-- the place of a name: none ahead is like it -/
theorem place_of {l : List Str} {z : Str} (h : z ∈ l) : ∃ j : Nat, l[j]? = some z ∧ ∀ m, m < j → ∀ y, l[m]? = some y → y ≠ z := by
  induction l with
  | nil => simp at h
  | cons a r ih =>
    by_cases c : a = z
    · exact ⟨0, by rw [c]; rfl, fun m hm => absurd hm (Nat.not_lt_zero m)⟩
    · have hr : z ∈ r := by
        rcases List.mem_cons.mp h with e | e
        · exact absurd e.symm c
        · exact e
      obtain ⟨j, h1, h2⟩ := ih hr
      refine ⟨j + 1, h1, fun m hm y hy => ?_⟩
      cases m with
      | zero =>
        have : a = y := Option.some.inj hy
        rw [← this]
        exact c
      | succ m => exact h2 m (by omega) y hy
/-! ### a dict that is a list by a key -/
def dl {α : Type} (kf : α → Str) (vf : α → V) (l : List α) : List (Key × V) := l.map fun q => (Sum.inr (kf q), vf q)
section
variable {α : Type} {kf : α → Str} {vf : α → V}
theorem inr_dec (a z : Str) : decide ((Sum.inr a : Key) = Sum.inr z) = decide (a = z) := key_rr a z
theorem valV_dl (l : List α) (z : Str) : valV (dl kf vf l) (Sum.inr z : Key) = (l.find? fun q => decide (kf q = z)).map vf := by
  induction l with
  | nil => rfl
  | cons a r ih =>
    by_cases h : kf a = z
    · rw [show dl kf vf (a :: r) = (Sum.inr (kf a), vf a) :: dl kf vf r from rfl, valV_pos (by rw [h]), List.find?_cons, decide_eq_true h]; rfl
    · rw [show dl kf vf (a :: r) = (Sum.inr (kf a), vf a) :: dl kf vf r from rfl, valV_neg (fun q => h (Sum.inr.inj q)), List.find?_cons, decide_eq_false h, ih]
theorem valV_dl_mem {l : List α} {q : α} (hn : (l.map kf).Nodup) (hq : q ∈ l) : valV (dl kf vf l) (Sum.inr (kf q) : Key) = some (vf q) := by
  rw [valV_dl, find_key kf hn hq]; rfl
theorem valV_dl_none {l : List α} {z : Str} (h : z ∉ l.map kf) : valV (dl kf vf l) (Sum.inr z : Key) = none := by
  rw [valV_dl, find_none kf h]; rfl
theorem isSome_dl (l : List α) (z : Str) : (valV (dl kf vf l) (Sum.inr z : Key)).isSome = decide (z ∈ l.map kf) := by
  by_cases h : z ∈ l.map kf
  · rw [decide_eq_true h, valV_dl]
    obtain ⟨q, h1, h2⟩ := exists_key kf h
    cases e : l.find? fun q => decide (kf q = z) with
    | none =>
      have := List.find?_eq_none.mp e q h1
      exact absurd (decide_eq_true h2) this
    | some b => rfl
  · rw [decide_eq_false h, valV_dl_none h]; rfl
theorem dropK_dl (l : List α) (z : Str) : dropK (dl kf vf l) (Sum.inr z : Key) = dl kf vf (l.filter fun q => decide (kf q ≠ z)) := by
  induction l with
  | nil => rfl
  | cons a r ih =>
    rw [List.filter_cons]
    by_cases h : kf a = z
    · rw [show dl kf vf (a :: r) = (Sum.inr (kf a), vf a) :: dl kf vf r from rfl, dropK_pos (by rw [h]), ih, if_neg (by simp [h])]
    · rw [show dl kf vf (a :: r) = (Sum.inr (kf a), vf a) :: dl kf vf r from rfl, dropK_neg (fun q => h (Sum.inr.inj q)), ih, if_pos (by simp [h])]; rfl
theorem putK_dl_new {l : List α} {z : Str} (v : V) (h : z ∉ l.map kf) : putK (dl kf vf l) (Sum.inr z : Key) v = dl kf vf l ++ [(Sum.inr z, v)] := putK_new v (valV_dl_none h)
theorem putK_dl_old {l : List α} {z : Str} (v : V) (h : z ∈ l.map kf) : putK (dl kf vf l) (Sum.inr z : Key) v = dl kf (fun q => if kf q = z then v else vf q) l := by
  unfold putK
  rw [if_pos (by rw [valV_any, isSome_dl, decide_eq_true h])]
  unfold dl
  rw [List.map_map]
  refine List.map_congr_left fun q _ => ?_
  show (if (Sum.inr (kf q) : Key) = Sum.inr z then ((Sum.inr (kf q) : Key), v) else ((Sum.inr (kf q) : Key), vf q)) = ((Sum.inr (kf q) : Key), if kf q = z then v else vf q)
  by_cases c : kf q = z
  · rw [if_pos (by rw [c]), if_pos c]
  · rw [if_neg (fun q2 => c (Sum.inr.inj q2)), if_neg c]
theorem dl_length (l : List α) : (dl kf vf l).length = l.length := List.length_map ..
theorem dl_append (l m : List α) : dl kf vf (l ++ m) = dl kf vf l ++ dl kf vf m := List.map_append
theorem dl_congr {vg : α → V} {l : List α} (h : ∀ q, q ∈ l → vf q = vg q) : dl kf vf l = dl kf vg l := List.map_congr_left fun q hq => by rw [h q hq]
end
end Ep
set_option Elab.async false
set_option linter.all false
set_option maxRecDepth 100000
set_option maxHeartbeats 4000000
/-! EpChestA: a chest in the heap; its questions. -/
namespace Ep
open PySem PySem.Spec PyProof.Rows L2
structure CA where
  pe : Addr
  he : Addr
  pl : Addr
  pr : Addr
  wi : Addr
  ws : List (Plan × Addr)
def flC (A : CA) (well gifts outlay : Int) : List (Str × V) :=
  [("people", .ref A.pe), ("held", .ref A.he), ("plans", .ref A.pl), ("prices", .ref A.pr), ("wished", .ref A.wi), ("well", .int well), ("gifts", .int gifts), ("outlay", .int outlay)]
section
variable {A : CA} {a b c : Int}
theorem fl_people : (flC A a b c).lookup ("people" : Str) = some (.ref A.pe) := by rfl
theorem fl_held : (flC A a b c).lookup ("held" : Str) = some (.ref A.he) := by rfl
theorem fl_plans : (flC A a b c).lookup ("plans" : Str) = some (.ref A.pl) := by rfl
theorem fl_prices : (flC A a b c).lookup ("prices" : Str) = some (.ref A.pr) := by rfl
theorem fl_wished : (flC A a b c).lookup ("wished" : Str) = some (.ref A.wi) := by rfl
theorem fl_well : (flC A a b c).lookup ("well" : Str) = some (.int a) := by rfl
theorem fl_gifts : (flC A a b c).lookup ("gifts" : Str) = some (.int b) := by rfl
theorem fl_outlay : (flC A a b c).lookup ("outlay" : Str) = some (.int c) := by rfl
theorem pf_well (z : Int) : putF "well" (.int z) (flC A a b c) = flC A z b c := by rfl
theorem pf_gifts (z : Int) : putF "gifts" (.int z) (flC A a b c) = flC A a z c := by rfl
theorem pf_outlay (z : Int) : putF "outlay" (.int z) (flC A a b c) = flC A a b z := by rfl
theorem fl_few : (flC A a b c).length < 1000 := by show 8 < 1000; decide
end
abbrev Ch.fl (s : Ch) (A : CA) : List (Str × V) := flC A s.well s.gifts s.outlay
def kvSet (l : List Str) : List (Key × V) := dl (fun n => n) (fun _ => V.bl true) l
/-- what can be read of the chest at p -/
structure ChestR (K : PySem.W.Frag) (H : Hp) (p : Addr) (s : Ch) (A : CA) : Prop where
  obj : ∃ dx, H p = some (.ins (cC K) dx (s.fl A))
  pe : H A.pe = some (.lst (s.names.map V.str))
  he : H A.he = some (.dK (dl (fun q => q.1) (fun q => V.int q.2) s.people))
  pl : H A.pl = some (.lst (s.works.map V.str))
  pr : H A.pr = some (.dK (dl (fun q => q.name) (fun q => V.int q.cost) s.plans))
  wi : H A.wi = some (.dK (dl (fun q => q.1.name) (fun q => V.ref q.2) A.ws))
  ws : A.ws.map (·.1) = s.plans
  wish : ∀ q, q ∈ A.ws → H q.2 = some (.dK (kvSet q.1.wish))
theorem ChestR.mono {K : PySem.W.Frag} {H H' : Hp} {p : Addr} {s : Ch} {A : CA} (e : Same H H') (h : ChestR K H p s A) : ChestR K H' p s A :=
  ⟨let ⟨dx, q⟩ := h.obj; ⟨dx, e _ _ q⟩, e _ _ h.pe, e _ _ h.he, e _ _ h.pl, e _ _ h.pr, e _ _ h.wi, h.ws, fun q hq => e _ _ (h.wish q hq)⟩
/-- the chest at p stands beside what H0 tells -/
structure ChestAt (K : PySem.W.Frag) (H0 H : Hp) (p : Addr) (s : Ch) (A : CA) : Prop extends ChestR K H p s A where
  base : Same H0 H
  new : ∀ a, a ∈ p :: A.pe :: A.he :: A.pl :: A.pr :: A.wi :: A.ws.map (·.2) → H0 a = none
  nl : A.pe ≠ A.pl
  nd : (A.he :: A.pr :: A.wi :: A.ws.map (·.2)).Nodup
theorem ChestAt.mono {K : PySem.W.Frag} {H0 H H' : Hp} {p : Addr} {s : Ch} {A : CA} (e : Same H H') (h : ChestAt K H0 H p s A) : ChestAt K H0 H' p s A :=
  ⟨h.toChestR.mono e, h.base.trans e, h.new, h.nl, h.nd⟩
section
variable {K : PySem.W.Frag} {H H0 : Hp} {p : Addr} {s : Ch} {A : CA}
theorem ChestR.works_ws (h : ChestR K H p s A) : A.ws.map (fun q => q.1.name) = s.works := by
  unfold Ch.works
  rw [← h.ws, List.map_map]; rfl
/-- a plan's wish list in the heap -/
theorem ChestR.wishOf (h : ChestR K H p s A) (hn : s.works.Nodup) {q : Plan} (hq : q ∈ s.plans) : ∃ d, (q, d) ∈ A.ws ∧ valV (dl (fun q => q.1.name) (fun q => V.ref q.2) A.ws) (Sum.inr q.name : Key) = some (V.ref d) ∧ H d = some (.dK (kvSet q.wish)) := by
  rw [← h.ws] at hq
  obtain ⟨⟨q2, d⟩, h1, rfl⟩ := List.mem_map.mp hq
  refine ⟨d, h1, ?_, h.wish _ h1⟩
  have hn2 : (A.ws.map fun q => q.1.name).Nodup := by rw [h.works_ws]; exact hn
  exact valV_dl_mem (kf := fun q : Plan × Addr => q.1.name) (vf := fun q => V.ref q.2) hn2 h1
theorem ChestR.costOf (h : ChestR K H p s A) (hn : s.works.Nodup) {q : Plan} (hq : q ∈ s.plans) : valV (dl (fun q => q.name) (fun q => V.int q.cost) s.plans) (Sum.inr q.name : Key) = some (V.int q.cost) :=
  valV_dl_mem (kf := fun q : Plan => q.name) (vf := fun q => V.int q.cost) hn hq
theorem ChestR.heldOf (h : ChestR K H p s A) (hn : s.names.Nodup) {q : Str × Int} (hq : q ∈ s.people) : valV (dl (fun q => q.1) (fun q => V.int q.2) s.people) (Sum.inr q.1 : Key) = some (V.int q.2) :=
  valV_dl_mem (kf := fun q : Str × Int => q.1) (vf := fun q => V.int q.2) hn hq
end
/-! ### promises of the questions -/
/-- the wanters told: in the order of the voters -/
def Ch.wanting (s : Ch) (q : Plan) : List Str := s.names.filter fun n => decide (n ∈ q.wish)
def spVoters (K : PySem.W.Frag) : Sp := fun vs H Q _ => ∃ (p : Addr) (s : Ch) (A : CA), vs = [.ref p] ∧ ChestR K H p s A ∧ s.Ok ∧
  ∀ l H' (ts : List Addr), Same H H' → H l = none → H' l = some (.lst (ts.map V.ref)) → Each (fun t q => H' t = some (.tup [.str q.1, .int q.2])) ts s.people → Q (.ref l) H'
def spWanting (K : PySem.W.Frag) : Sp := fun vs H Q _ => ∃ (p : Addr) (s : Ch) (A : CA) (q : Plan), vs = [.ref p, .str q.name] ∧ ChestR K H p s A ∧ s.Ok ∧ q ∈ s.plans ∧
  ∀ l H', Same H H' → H l = none → H' l = some (.lst ((s.wanting q).map V.str)) → Q (.ref l) H'
/-- a work told: its name, its cost, a list of names -/
def WorkAt (H : Hp) (t : Addr) (q : Str × Int × List Str) : Prop := ∃ l, H t = some (.tup [.str q.1, .int q.2.1, .ref l]) ∧ H l = some (.lst (q.2.2.map V.str))
theorem WorkAt.mono {H H' : Hp} {t : Addr} {q : Str × Int × List Str} (e : Same H H') (h : WorkAt H t q) : WorkAt H' t q := by
  obtain ⟨l, h1, h2⟩ := h
  exact ⟨l, e _ _ h1, e _ _ h2⟩
def Ch.told (s : Ch) : List (Str × Int × List Str) := s.plans.map fun q => (q.name, q.cost, s.wanting q)
def spWorks (K : PySem.W.Frag) : Sp := fun vs H Q _ => ∃ (p : Addr) (s : Ch) (A : CA), vs = [.ref p] ∧ ChestR K H p s A ∧ s.Ok ∧
  ∀ l H' (ts : List Addr), Same H H' → H l = none → H' l = some (.lst (ts.map V.ref)) → Each (WorkAt H') ts s.told → Q (.ref l) H'
def spField (K : PySem.W.Frag) (f : Ch → Int) : Sp := fun vs H Q _ => ∃ (p : Addr) (s : Ch) (A : CA), vs = [.ref p] ∧ ChestR K H p s A ∧ Q (.int (f s)) H
def spLookVoter (K : PySem.W.Frag) : Sp := fun vs H Q E => ∃ (p : Addr) (s : Ch) (A : CA) (v : Str), vs = [.ref p, .str v] ∧ ChestR K H p s A ∧ (v ∈ s.names → Q .non H) ∧ (v ∉ s.names → E (.ref (He.ga K "NoVoter")) none H)
def spLookWork (K : PySem.W.Frag) : Sp := fun vs H Q E => ∃ (p : Addr) (s : Ch) (A : CA) (v : Str), vs = [.ref p, .str v] ∧ ChestR K H p s A ∧ (v ∈ s.works → Q .non H) ∧ (v ∉ s.works → E (.ref (He.ga K "NoWork")) none H)
section
variable {P : Program} {w : World} {K : PySem.W.Frag} {mg : Str → Option Value} {base : Heap}
theorem sc_voters : FnScope ["self", "name"] ["self"] (defScope s_Chest_voters) := ⟨rfl, rfl, rfl, by decide +kernel, rfl, by decide +kernel, by decide +kernel⟩
theorem ok_voters (T : Tx K mg) : Def P w K mg base CX0 1 (He.fAd K d_Chest_voters.at_) ["self"] (spVoters K) := by
  obtain ⟨fd, F⟩ := T.f_Chest_voters
  refine ⟨fd, F.ok sc_voters (fun vs H Q E h => ?_) (fun cdv A outer s H vs Q E hr h => ?_), F.bindsN (fun _ _ _ _ _ _ us hl => match us, hl with | [_], _ => rfl), F.kp⟩
  · obtain ⟨_, _, _, rfl, _⟩ := h
    rfl
  · obtain ⟨p, s, A, rfl, R, O, k⟩ := h
    have hu := hu_of hr
    refine ⟨_, PSs.nox (pss_one (ps_ret (pe_lc (own := [("name", 1)]) (g := gName 1) (tt := tYes) (te := tTup (tCons (tVar 1) (tCons (tDGet (tFld K (tVar 0) "held") (tVar 1)) tNil))) rfl sc_voters.nd (pi_list (pe_fld (pv 0) rfl)) (blkOk_by (N := ["self", "name"]) (sc := defScope s_Chest_voters) (by decide +kernel))
      (fun _ _ _ _ _ => pg_name (i := 1) sc_voters.nd rfl (Or.inl rfl)) (fun _ _ _ _ _ => pts_nil) (fun _ _ _ _ _ => pe_tup (pa_cons (pv 1) (pa_cons (pe_dget hu (pe_fld (pv 0) rfl) (pv 1) (fun _ _ => rfl)) pa_nil)))))), ?_⟩
    obtain ⟨dx, h1⟩ := R.obj
    refine ⟨_, rfl, p, _, dx, _, _, rfl, h1, T.cl_Chest, T.n_people, fl_people, _, rfl, ⟨_, SqL.of R.pe⟩, fun D hD => ?_⟩
    refine lc_it (walk_list (K := K) (a := A.pe) (xs := s.names.map V.str)) (fun i H' => i ≤ s.people.length ∧ Same H H' ∧ ∃ ts : List Addr, H' D = some (.lst (ts.map V.ref)) ∧ Each (fun t q => H' t = some (.tup [.str q.1, .int q.2])) ts (s.people.take i)) ⟨Nat.zero_le _, snew hD, [], upd_same, Each.nil⟩ ?_ ?_ ?_
    · rintro i H' _ ⟨_, s1, _⟩
      exact SqL.of (s1 _ _ R.pe)
    · rintro i x H1 H2 hi ⟨_, s1, ts, hL, hE⟩ ⟨rfl, hx⟩
      have hi2 : i < s.people.length := by
        have : (s.names.map V.str).length = s.people.length := by unfold Ch.names; rw [List.length_map, List.length_map]
        omega
      have hx2 : (s.names.map V.str)[i]? = some x := hx
      unfold Ch.names at hx2
      rw [List.getElem?_map, List.getElem?_map, List.getElem?_eq_getElem hi2] at hx2
      obtain rfl : x = V.str s.people[i].1 := (Option.some.inj hx2).symm
      have R1 := R.mono s1
      have hm : s.people[i] ∈ s.people := List.getElem_mem hi2
      have hv := R1.heldOf O.pnd hm
      have hg : DGet H2 A.he (.str s.people[i].1) (some (V.int s.people[i].2)) := by
        rw [← hv]
        exact DGet.k (k := Sum.inr s.people[i].1) R1.he
      refine ⟨rfl, _, rfl, _, rfl, p, _, dx, _, _, rfl, s1 _ _ h1, T.cl_Chest, T.n_held, fl_held, _, rfl, A.he, _, rfl, hg, (by show 2 ≤ sizeLine; decide), fun t nt => ?_⟩
      have e2 := snew (o := .tup [.str s.people[i].1, .int s.people[i].2]) nt
      refine ⟨_, e2 _ _ hL, sz_lt (by rw [List.length_map, hE.1, List.length_take]; have := O.p6; omega), hi2, smut (s1.trans e2) hD, ts ++ [t], ?_, ?_⟩
      · rw [upd_same, List.map_append]; rfl
      · rw [List.take_add_one, List.getElem?_eq_getElem hi2]
        have nD : ∀ (b : Addr) (o : HO), H2 b = some o → (∃ xs, o = .tup xs) → b ≠ D := fun b o hb ho q => by
          obtain ⟨xs, rfl⟩ := ho
          rw [q, hL] at hb
          cases hb
        have ntD : t ≠ D := fun q => by
          rw [q, hL] at nt
          cases nt
        refine Each.snoc (hE.mono fun t2 q _ _ ht => ?_) ?_
        · rw [upd_ne (nD _ _ ht ⟨_, rfl⟩)]
          exact e2 _ _ ht
        · rw [upd_ne ntD]
          exact upd_same
    · rintro H1 ⟨_, s1, ts, hL, hE⟩
      have e : (s.names.map V.str).length = s.people.length := by unfold Ch.names; rw [List.length_map, List.length_map]
      rw [e, List.take_length] at hE
      exact k D H1 ts s1 hD hL hE
theorem sc_wanting : FnScope ["self", "work", "name"] ["self", "work"] (defScope s_Chest_wanting) := ⟨rfl, rfl, rfl, by decide +kernel, rfl, by decide +kernel, by decide +kernel⟩
theorem ok_wanting (T : Tx K mg) : Def P w K mg base CX0 1 (He.fAd K d_Chest_wanting.at_) ["self", "work"] (spWanting K) := by
  obtain ⟨fd, F⟩ := T.f_Chest_wanting
  refine ⟨fd, F.ok sc_wanting (fun vs H Q E h => ?_) (fun cdv A outer s H vs Q E hr h => ?_), F.bindsN (fun _ _ _ _ _ _ us hl => match us, hl with | [_, _], _ => rfl), F.kp⟩
  · obtain ⟨_, _, _, _, rfl, _⟩ := h
    rfl
  · obtain ⟨p, s, A, q, rfl, R, O, hq, k⟩ := h
    have hu := hu_of hr
    refine ⟨_, PSs.nox (pss_one (ps_ret (pe_lc (own := [("name", 2)]) (g := gName 2) (te := tVar 2) rfl sc_wanting.nd (pi_list (pe_fld (pv 0) rfl)) (blkOk_by (N := ["self", "work", "name"]) (sc := defScope s_Chest_wanting) (by decide +kernel))
      (fun _ _ _ _ _ => pg_name (i := 2) sc_wanting.nd rfl (Or.inl rfl)) (tt := tB (tDIn (tVar 2) (tDGet (tFld K (tVar 0) "wished") (tVar 1)))) (fun _ _ _ _ _ => pts_one (pt_cmp (pc_din hu (pv 2) (pe_dget hu (pe_fld (pv 0) rfl) (pv 1) (fun _ _ => rfl))))) (fun _ _ _ _ _ => pv 2)))), ?_⟩
    obtain ⟨dx, h1⟩ := R.obj
    obtain ⟨d, hd1, hd2, hd3⟩ := R.wishOf O.wnd hq
    refine ⟨_, rfl, p, _, dx, _, _, rfl, h1, T.cl_Chest, T.n_people, fl_people, _, rfl, ⟨_, SqL.of R.pe⟩, fun D hD => ?_⟩
    refine lc_it (walk_list (K := K) (a := A.pe) (xs := s.names.map V.str)) (fun i H' => i ≤ s.names.length ∧ Same H H' ∧ H' D = some (.lst (((s.names.take i).filter fun n => decide (n ∈ q.wish)).map V.str))) ⟨Nat.zero_le _, snew hD, upd_same⟩ ?_ ?_ ?_
    · rintro i H' _ ⟨_, s1, _⟩
      exact SqL.of (s1 _ _ R.pe)
    · rintro i x H1 H2 hi ⟨_, s1, hL⟩ ⟨rfl, hx⟩
      rw [List.length_map] at hi
      have hx2 : (s.names.map V.str)[i]? = some x := hx
      rw [List.getElem?_map, List.getElem?_eq_getElem hi] at hx2
      obtain rfl : x = V.str s.names[i] := (Option.some.inj hx2).symm
      have R1 := R.mono s1
      have hg : DGet H2 A.wi (.str q.name) (some (V.ref d)) := by
        rw [← hd2]
        exact DGet.k (k := Sum.inr q.name) R1.wi
      refine ⟨rfl, _, rfl, _, rfl, p, _, dx, _, _, rfl, s1 _ _ h1, T.cl_Chest, T.n_wished, fl_wished, _, rfl, A.wi, _, rfl, hg, d, _, rfl, DGet.k (k := Sum.inr s.names[i]) (s1 _ _ hd3), _, rfl, ?_⟩
      have et : s.names.take (i + 1) = s.names.take i ++ [s.names[i]] := by rw [List.take_add_one, List.getElem?_eq_getElem hi]; rfl
      unfold kvSet
      rw [isSome_dl, List.map_id']
      refine ite2 (fun c => ?_) (fun c => ?_)
      · refine ⟨_, rfl, _, hL, sz_lt ?_, hi, smut s1 hD, ?_⟩
        · rw [List.length_map]
          have z := List.length_filter_le (fun n => decide (n ∈ q.wish)) (s.names.take i)
          rw [List.length_take] at z
          have := O.p6
          have e : s.names.length = s.people.length := List.length_map ..
          omega
        · rw [upd_same, et, List.filter_append, List.map_append, List.filter_cons, if_pos c]; rfl
      · refine ⟨hi, s1, ?_⟩
        rw [et, List.filter_append, List.filter_cons, if_neg c]
        show _ = some (HO.lst (List.map V.str (_ ++ [])))
        rw [List.append_nil]
        exact hL
    · rintro H1 ⟨_, s1, hL⟩
      rw [List.length_map, List.take_length] at hL
      exact k D H1 s1 hD hL
theorem sc_pot : FnScope ["self"] ["self"] (defScope s_Chest_pot) := ⟨rfl, rfl, rfl, by decide +kernel, rfl, by decide +kernel, by decide +kernel⟩
theorem ok_pot (T : Tx K mg) : Def P w K mg base CX0 1 (He.fAd K d_Chest_pot.at_) ["self"] (spField K Ch.well) := by
  obtain ⟨fd, F⟩ := T.f_Chest_pot
  refine ⟨fd, F.ok sc_pot (fun vs H Q E h => ?_) (fun cdv A outer s H vs Q E hr h => ?_), F.bindsN (fun _ _ _ _ _ _ us hl => match us, hl with | [_], _ => rfl), F.kp⟩
  · obtain ⟨_, _, _, rfl, _⟩ := h
    rfl
  · obtain ⟨p, s, A, rfl, R, k⟩ := h
    obtain ⟨dx, h1⟩ := R.obj
    refine ⟨_, PSs.nox (pss_one (ps_ret (pe_fld (pv 0) rfl))), ?_⟩
    exact ⟨_, rfl, p, _, dx, _, _, rfl, h1, T.cl_Chest, T.n_well, fl_well, k⟩
theorem sc_given : FnScope ["self"] ["self"] (defScope s_Chest_given) := ⟨rfl, rfl, rfl, by decide +kernel, rfl, by decide +kernel, by decide +kernel⟩
theorem ok_given (T : Tx K mg) : Def P w K mg base CX0 1 (He.fAd K d_Chest_given.at_) ["self"] (spField K Ch.gifts) := by
  obtain ⟨fd, F⟩ := T.f_Chest_given
  refine ⟨fd, F.ok sc_given (fun vs H Q E h => ?_) (fun cdv A outer s H vs Q E hr h => ?_), F.bindsN (fun _ _ _ _ _ _ us hl => match us, hl with | [_], _ => rfl), F.kp⟩
  · obtain ⟨_, _, _, rfl, _⟩ := h
    rfl
  · obtain ⟨p, s, A, rfl, R, k⟩ := h
    obtain ⟨dx, h1⟩ := R.obj
    refine ⟨_, PSs.nox (pss_one (ps_ret (pe_fld (pv 0) rfl))), ?_⟩
    exact ⟨_, rfl, p, _, dx, _, _, rfl, h1, T.cl_Chest, T.n_gifts, fl_gifts, k⟩
theorem sc_spent : FnScope ["self"] ["self"] (defScope s_Chest_spent) := ⟨rfl, rfl, rfl, by decide +kernel, rfl, by decide +kernel, by decide +kernel⟩
theorem ok_spent (T : Tx K mg) : Def P w K mg base CX0 1 (He.fAd K d_Chest_spent.at_) ["self"] (spField K Ch.outlay) := by
  obtain ⟨fd, F⟩ := T.f_Chest_spent
  refine ⟨fd, F.ok sc_spent (fun vs H Q E h => ?_) (fun cdv A outer s H vs Q E hr h => ?_), F.bindsN (fun _ _ _ _ _ _ us hl => match us, hl with | [_], _ => rfl), F.kp⟩
  · obtain ⟨_, _, _, rfl, _⟩ := h
    rfl
  · obtain ⟨p, s, A, rfl, R, k⟩ := h
    obtain ⟨dx, h1⟩ := R.obj
    refine ⟨_, PSs.nox (pss_one (ps_ret (pe_fld (pv 0) rfl))), ?_⟩
    exact ⟨_, rfl, p, _, dx, _, _, rfl, h1, T.cl_Chest, T.n_outlay, fl_outlay, k⟩
theorem sc_lookv : FnScope ["self", "voter"] ["self", "voter"] (defScope s_Chest_look_voter) := ⟨rfl, rfl, rfl, by decide +kernel, rfl, by decide +kernel, by decide +kernel⟩
theorem ok_lookv (T : Tx K mg) : Def P w K mg base (L2.CX P w) 1 (He.fAd K d_Chest_look_voter.at_) ["self", "voter"] (spLookVoter K) := by
  obtain ⟨fd, F⟩ := T.f_Chest_look_voter
  refine ⟨fd, F.ok sc_lookv (fun vs H Q E h => ?_) (fun cdv A outer s H vs Q E hr h => ?_), F.bindsN (fun _ _ _ _ _ _ us hl => match us, hl with | [_, _], _ => rfl), F.kp⟩
  · obtain ⟨_, _, _, _, rfl, _⟩ := h
    rfl
  · obtain ⟨p, s, A, v, rfl, R, k1, k2⟩ := h
    obtain ⟨dx, h1⟩ := R.obj
    obtain ⟨x1, x2, x3, x4⟩ := T.x_NoVoter
    refine ⟨_, pss_one (ps_if (pt_cmpR op_notIn_seq (pv 1) (pe_fld (pv 0) rfl) (by rfl)) (pss_one (ps_raise rfl (takes_of rfl rfl rfl rfl) (pmk_own PySem.F.excBase_ValueError x1 T.g_NoVoter x2 (raises_own x3 x4) rfl))) pss_nil), ?_⟩
    refine ⟨_, rfl, _, rfl, p, _, dx, _, _, rfl, h1, T.cl_Chest, T.n_people, fl_people, A.pe, _, rfl, .inl (SqL.of R.pe), rfl, flat_str _, _, rfl, ?_⟩
    rw [inV_str]
    refine ite2 (fun c => ?_) (fun c => ?_)
    · have c2 : (!decide (v ∈ s.names)) = true := c
      exact k2 (by simpa using c2)
    · have c2 : ¬ (!decide (v ∈ s.names)) = true := c
      exact k1 (by simpa using c2)
theorem sc_lookw : FnScope ["self", "work"] ["self", "work"] (defScope s_Chest_look_work) := ⟨rfl, rfl, rfl, by decide +kernel, rfl, by decide +kernel, by decide +kernel⟩
theorem ok_lookw (T : Tx K mg) : Def P w K mg base (L2.CX P w) 1 (He.fAd K d_Chest_look_work.at_) ["self", "work"] (spLookWork K) := by
  obtain ⟨fd, F⟩ := T.f_Chest_look_work
  refine ⟨fd, F.ok sc_lookw (fun vs H Q E h => ?_) (fun cdv A outer s H vs Q E hr h => ?_), F.bindsN (fun _ _ _ _ _ _ us hl => match us, hl with | [_, _], _ => rfl), F.kp⟩
  · obtain ⟨_, _, _, _, rfl, _⟩ := h
    rfl
  · obtain ⟨p, s, A, v, rfl, R, k1, k2⟩ := h
    obtain ⟨dx, h1⟩ := R.obj
    obtain ⟨x1, x2, x3, x4⟩ := T.x_NoWork
    refine ⟨_, pss_one (ps_if (pt_cmpR op_notIn_seq (pv 1) (pe_fld (pv 0) rfl) (by rfl)) (pss_one (ps_raise rfl (takes_of rfl rfl rfl rfl) (pmk_own PySem.F.excBase_ValueError x1 T.g_NoWork x2 (raises_own x3 x4) rfl))) pss_nil), ?_⟩
    refine ⟨_, rfl, _, rfl, p, _, dx, _, _, rfl, h1, T.cl_Chest, T.n_plans, fl_plans, A.pl, _, rfl, .inl (SqL.of R.pl), rfl, flat_str _, _, rfl, ?_⟩
    rw [inV_str]
    refine ite2 (fun c => ?_) (fun c => ?_)
    · have c2 : (!decide (v ∈ s.works)) = true := c
      exact k2 (by simpa using c2)
    · have c2 : ¬ (!decide (v ∈ s.works)) = true := c
      exact k1 (by simpa using c2)
end
end Ep
set_option Elab.async false
set_option linter.all false
set_option maxRecDepth 100000
set_option maxHeartbeats 4000000
/-! EpChestB: a chest's deeds, the first ones. -/
namespace Ep
open PySem PySem.Spec PyProof.Rows L2
/-! ### texts as data -/
theorem dpAll_str {K : PySem.W.Frag} {H : Hp} : ∀ l : List Str, DpAll K H (l.map V.str) (l.map PyData.str)
  | [] => .nil
  | z :: r => .cons (.str z) (dpAll_str r)
theorem strOk_name {z : Str} (h : NameOk z) : PyData.strOk z = true := by
  unfold PyData.strOk
  rw [← Array.all_toList]
  exact List.all_eq_true.mpr fun c hc => decide_eq_true (by have := h.2.2 c hc; omega)
theorem shaped_str {z : Str} (h : NameOk z) : SeqAt.shaped (.str z) = true := by
  show (PyData.canLay0 (.str z) && decide (PyData.depth (.str z) ≤ 64)) = true
  rw [Bool.and_eq_true]
  exact ⟨strOk_name h, decide_eq_true (by simp [PyData.depth])⟩
theorem canLay_strs : ∀ {l : List Str}, (∀ z, z ∈ l → PyData.strOk z = true) → PyData.canLayAll0 (l.map PyData.str) = true
  | [], _ => by simp [PyData.canLayAll0]
  | z :: r, h => by
    have h1 := h z (List.mem_cons_self ..)
    have h2 := canLay_strs (l := r) fun y hy => h y (List.mem_cons_of_mem _ hy)
    simp [PyData.canLayAll0, PyData.canLay0, h1, h2]
theorem depth_strs : ∀ l : List Str, PyData.depthAll (l.map PyData.str) = 0
  | [] => by simp [PyData.depthAll]
  | z :: r => by
    have h2 := depth_strs r
    simp [PyData.depthAll, PyData.depth, h2]
theorem shaped_strs {l : List Str} (h : ∀ z, z ∈ l → PyData.strOk z = true) : SeqAt.shaped (.list (l.map PyData.str)) = true := by
  show (PyData.canLay0 (.list (l.map PyData.str)) && decide (PyData.depth (.list (l.map PyData.str)) ≤ 64)) = true
  rw [Bool.and_eq_true]
  refine ⟨by simp only [PyData.canLay0]; exact canLay_strs h, decide_eq_true ?_⟩
  simp only [PyData.depth, depth_strs]
  omega
theorem erase_map {α β : Type} (f : α → β) : ∀ (l : List α) (j : Nat), (l.map f).eraseIdx j = (l.eraseIdx j).map f
  | [], j => by simp
  | a :: r, 0 => by simp
  | a :: r, j + 1 => by
    have ih := erase_map f r j
    simp [ih]
/-- zs.remove(z): z is there, none twice -/
theorem rem_str {K : PySem.W.Frag} {H : Hp} {Q : VK} {l : Addr} {zs : List Str} {z : Str} (h : H l = some (.lst (zs.map V.str))) (ok : ∀ y, y ∈ zs → NameOk y) (nd : zs.Nodup) (hz : z ∈ zs)
    (q : Q .non (upd H l (.lst ((zs.filter fun m => decide (m ≠ z)).map V.str)))) : rRemD K (.ref l) [.str z] H Q := by
  obtain ⟨j, h1, h2⟩ := place_of hz
  refine ⟨l, _, .str z, .str z, zs.map PyData.str, j, .str z, rfl, rfl, h, .lst (SqL.of h) (dpAll_str zs), .str z, shaped_strs fun y hy => strOk_name (ok y hy), shaped_str (ok z hz), by rw [List.getElem?_map, h1]; rfl, ?_, ?_, ?_⟩
  · show (z == z) = true
    exact beq_self_eq_true z
  · intro m z' hm hz'
    rw [List.getElem?_map] at hz'
    cases e : zs[m]? with
    | none =>
      rw [e] at hz'
      cases hz'
    | some y =>
      rw [e] at hz'
      have ey : PyData.str y = z' := Option.some.inj hz'
      subst ey
      show (y == z) = false
      exact beq_eq_false_iff_ne.mpr (h2 m hm y e)
  · have e : (zs.map V.str).eraseIdx j = (zs.filter fun m => decide (m ≠ z)).map V.str := by
      rw [← erase_key (fun m => m) z (by rw [List.map_id']; exact nd) h1 rfl, erase_map]
    rw [e]
    exact q
/-! ### the chest's places lie apart -/
structure CNe (p : Addr) (A : CA) : Prop where
  p_pe : p ≠ A.pe
  p_he : p ≠ A.he
  p_pl : p ≠ A.pl
  p_pr : p ≠ A.pr
  p_wi : p ≠ A.wi
  pe_he : A.pe ≠ A.he
  pe_pl : A.pe ≠ A.pl
  pe_pr : A.pe ≠ A.pr
  pe_wi : A.pe ≠ A.wi
  he_pl : A.he ≠ A.pl
  he_pr : A.he ≠ A.pr
  he_wi : A.he ≠ A.wi
  pl_pr : A.pl ≠ A.pr
  pl_wi : A.pl ≠ A.wi
  pr_wi : A.pr ≠ A.wi
  d_p : ∀ q, q ∈ A.ws → q.2 ≠ p
  d_pe : ∀ q, q ∈ A.ws → q.2 ≠ A.pe
  d_he : ∀ q, q ∈ A.ws → q.2 ≠ A.he
  d_pl : ∀ q, q ∈ A.ws → q.2 ≠ A.pl
  d_pr : ∀ q, q ∈ A.ws → q.2 ≠ A.pr
  d_wi : ∀ q, q ∈ A.ws → q.2 ≠ A.wi
theorem ChestAt.ne {K : PySem.W.Frag} {H0 H : Hp} {p : Addr} {s : Ch} {A : CA} (h : ChestAt K H0 H p s A) : CNe p A := by
  obtain ⟨dx, h1⟩ := h.obj
  have nd := h.nd
  have n1 := (List.nodup_cons.mp nd).1
  have nd2 := (List.nodup_cons.mp nd).2
  have n2 := (List.nodup_cons.mp nd2).1
  have nd3 := (List.nodup_cons.mp nd2).2
  have n3 := (List.nodup_cons.mp nd3).1
  have mw : ∀ q, q ∈ A.ws → q.2 ∈ A.ws.map (·.2) := fun q hq => List.mem_map.mpr ⟨q, hq, rfl⟩
  have kl : ∀ {a b : Addr} {xs : List V} {ks : List (Key × V)}, H a = some (.lst xs) → H b = some (.dK ks) → a ≠ b := fun ha hb => ne_of ha hb (by intro z; cases z)
  have pi : ∀ {a : Addr} {ks : List (Key × V)}, H a = some (.dK ks) → p ≠ a := fun ha => ne_of h1 ha (by intro z; cases z)
  have pj : ∀ {a : Addr} {xs : List V}, H a = some (.lst xs) → p ≠ a := fun ha => ne_of h1 ha (by intro z; cases z)
  exact { p_pe := pj h.pe, p_he := pi h.he, p_pl := pj h.pl, p_pr := pi h.pr, p_wi := pi h.wi, pe_he := kl h.pe h.he, pe_pl := h.nl, pe_pr := kl h.pe h.pr, pe_wi := kl h.pe h.wi,
          he_pl := (kl h.pl h.he).symm, he_pr := fun e => n1 (by rw [e]; exact List.mem_cons_self ..), he_wi := fun e => n1 (by rw [e]; exact List.mem_cons_of_mem _ (List.mem_cons_self ..)),
          pl_pr := kl h.pl h.pr, pl_wi := kl h.pl h.wi, pr_wi := fun e => n2 (by rw [e]; exact List.mem_cons_self ..),
          d_p := fun q hq => (pi (h.wish q hq)).symm, d_pe := fun q hq => (kl h.pe (h.wish q hq)).symm, d_he := fun q hq e => n1 (by rw [← e]; exact List.mem_cons_of_mem _ (List.mem_cons_of_mem _ (mw q hq))),
          d_pl := fun q hq => (kl h.pl (h.wish q hq)).symm, d_pr := fun q hq e => n2 (by rw [← e]; exact List.mem_cons_of_mem _ (mw q hq)), d_wi := fun q hq e => n3 (by rw [← e]; exact mw q hq) }
/-- the base, when places of the chest change -/
theorem ChestAt.mut {K : PySem.W.Frag} {H0 H H' : Hp} {p : Addr} {s : Ch} {A : CA} (h : ChestAt K H0 H p s A) (e : Same H0 H') {a : Addr} {o : HO} (m : a ∈ p :: A.pe :: A.he :: A.pl :: A.pr :: A.wi :: A.ws.map (·.2)) : Same H0 (upd H' a o) := smut e (h.new a m)
theorem in0 {p a b c d e : Addr} {l : List Addr} : p ∈ p :: a :: b :: c :: d :: e :: l := by simp
theorem in1 {p a b c d e : Addr} {l : List Addr} : a ∈ p :: a :: b :: c :: d :: e :: l := by simp
theorem in2 {p a b c d e : Addr} {l : List Addr} : b ∈ p :: a :: b :: c :: d :: e :: l := by simp
theorem in3 {p a b c d e : Addr} {l : List Addr} : c ∈ p :: a :: b :: c :: d :: e :: l := by simp
theorem in4 {p a b c d e : Addr} {l : List Addr} : d ∈ p :: a :: b :: c :: d :: e :: l := by simp
theorem in5 {p a b c d e : Addr} {l : List Addr} : e ∈ p :: a :: b :: c :: d :: e :: l := by simp
theorem in6 {p a b c d e x : Addr} {l : List Addr} (h : x ∈ l) : x ∈ p :: a :: b :: c :: d :: e :: l := by simp [h]
theorem uk {H : Hp} {a b : Addr} {x o : HO} (h : H b = some o) (n : b ≠ a) : upd H a x b = some o := by rw [upd_ne n]; exact h
theorem chain13 {H : Hp} {p x1 x2 x3 x4 x5 b : Addr} {o o1 o2 o3 o4 o5 p1 p2 p3 p4 p5 p6 p7 p8 : HO} (n1 : H x1 = none) (n2 : H x2 = none) (n3 : H x3 = none) (n4 : H x4 = none) (n5 : H x5 = none) (hb : H b = some o) (hn : b ≠ p) :
    upd (upd (upd (upd (upd (upd (upd (upd (upd (upd (upd (upd (upd H x1 o1) p p1) x2 o2) p p2) x3 o3) p p3) x4 o4) p p4) x5 o5) p p5) p p6) p p7) p p8 b = some o :=
  uk (uk (uk (uk (uk (uk (uk (uk (uk (uk (uk (uk (uk hb (ne_of_none hb n1)) hn) (ne_of_none hb n2)) hn) (ne_of_none hb n3)) hn) (ne_of_none hb n4)) hn) (ne_of_none hb n5)) hn) hn) hn) hn
/-! ### promises -/
def spName : Sp := fun vs H Q _ => ∃ z : Str, vs = [.str z] ∧ NameOk z ∧ Q (.bl true) H
def spNew (K : PySem.W.Frag) : Sp := fun vs H Q E => ∃ (z : Str) (a : Addr) (zs : List Str), vs = [.str z, .ref a] ∧ NameOk z ∧ H a = some (.lst (zs.map V.str)) ∧ (z ∉ zs → Q .non H) ∧ (z ∈ zs → E (.ref (He.ga K "Twice")) none H)
def spChest (K : PySem.W.Frag) : Sp := fun vs H Q _ => ∃ (H0 : Hp) (p dx : Addr), vs = [.ref p] ∧ Same H0 H ∧ H0 p = none ∧ H p = some (.ins (cC K) dx []) ∧ ∀ H' A, ChestAt K H0 H' p Ch.nil A → (∀ b o, H b = some o → b ≠ p → H' b = some o) → Q .non H'
def spEnrol (K : PySem.W.Frag) : Sp := fun vs H Q E => ∃ (H0 : Hp) (p : Addr) (s : Ch) (A : CA) (n : Str), vs = [.ref p, .str n] ∧ ChestAt K H0 H p s A ∧ s.Ok ∧ NameOk n ∧
  (n ∉ s.names → ∀ H' A', ChestAt K H0 H' p (s.enrol n) A' → Q .non H') ∧ (n ∈ s.names → E (.ref (He.ga K "Twice")) none H)
def spPropose (K : PySem.W.Frag) : Sp := fun vs H Q _ => ∃ (H0 : Hp) (p : Addr) (s : Ch) (A : CA) (z : Str) (c : Int), vs = [.ref p, .str z, .int c] ∧ ChestAt K H0 H p s A ∧ s.Ok ∧ NameOk z ∧ z ∉ s.works ∧ 1 ≤ c ∧ c ≤ 1000000000 ∧
  ∀ H' A', ChestAt K H0 H' p (s.propose z c) A' → Q .non H'
section
variable {P : Program} {w : World} {K : PySem.W.Frag} {mg : Str → Option Value} {base : Heap}
theorem sc_chest : FnScope ["self"] ["self"] (defScope s_Chest_init) := ⟨rfl, rfl, rfl, by decide +kernel, rfl, by decide +kernel, by decide +kernel⟩
theorem ok_chest (T : Tx K mg) : Def P w K mg base CX0 1 (He.fAd K d_Chest_init.at_) ["self"] (spChest K) := by
  obtain ⟨fd, F⟩ := T.f_Chest_init
  refine ⟨fd, F.ok sc_chest (fun vs H Q E h => ?_) (fun cdv A outer s H vs Q E hr h => ?_), F.bindsN (fun _ _ _ _ _ _ us hl => match us, hl with | [_], _ => rfl), F.kp⟩
  · obtain ⟨_, _, _, rfl, _⟩ := h
    rfl
  · obtain ⟨H0, p, dx, rfl, s0, p0, hp, k⟩ := h
    refine ⟨_, PSs.nox (pss_cons (ps_fld (pv 0) (pe_lst pa_nil) rfl) (pss_cons (ps_fld (pv 0) pe_dnewK rfl) (pss_cons (ps_fld (pv 0) (pe_lst pa_nil) rfl) (pss_cons (ps_fld (pv 0) pe_dnewK rfl) (pss_cons (ps_fld (pv 0) pe_dnewK rfl)
      (pss_cons (ps_fld (pv 0) pe_int rfl) (pss_cons (ps_fld (pv 0) pe_int rfl) (pss_one (ps_fld (pv 0) pe_int rfl))))))))), ?_⟩
    have ob : ∀ {Hx : Hp} {a : Addr} {o ob : HO}, Hx p = some ob → Hx a = none → (upd Hx a o) p = some ob := fun h1 h2 => by rw [upd_ne (ne_of_none h1 h2)]; exact h1
    refine ⟨Nat.zero_le _, fun pe npe => ⟨_, rfl, p, _, dx, _, rfl, ob hp npe, T.cl_Chest, T.n_people, (by show 0 < 1000; decide), ?_⟩⟩
    intro he nhe
    refine ⟨_, rfl, p, _, dx, _, rfl, ob upd_same nhe, T.cl_Chest, T.n_held, (by show 1 < 1000; decide), ?_⟩
    refine ⟨Nat.zero_le _, fun pl npl => ⟨_, rfl, p, _, dx, _, rfl, ob upd_same npl, T.cl_Chest, T.n_plans, (by show 2 < 1000; decide), ?_⟩⟩
    intro pr npr
    refine ⟨_, rfl, p, _, dx, _, rfl, ob upd_same npr, T.cl_Chest, T.n_prices, (by show 3 < 1000; decide), ?_⟩
    intro wi nwi
    refine ⟨_, rfl, p, _, dx, _, rfl, ob upd_same nwi, T.cl_Chest, T.n_wished, (by show 4 < 1000; decide), ?_⟩
    refine ⟨_, rfl, p, _, dx, _, rfl, upd_same, T.cl_Chest, T.n_well, (by show 5 < 1000; decide), ?_⟩
    refine ⟨_, rfl, p, _, dx, _, rfl, upd_same, T.cl_Chest, T.n_gifts, (by show 6 < 1000; decide), ?_⟩
    refine ⟨_, rfl, p, _, dx, _, rfl, upd_same, T.cl_Chest, T.n_outlay, (by show 7 < 1000; decide), ?_⟩
    -- each new place is not p and none of the ones before
    have q1 : pe ≠ p := (ne_of_none hp npe).symm
    have z1 : ∀ {Hx : Hp} {a b : Addr} {o : HO}, (upd Hx a o) b = none → b ≠ a := fun h e => by rw [e, upd_same] at h; cases h
    have z2 : ∀ {Hx : Hp} {a b : Addr} {o : HO}, (upd Hx a o) b = none → Hx b = none := fun {Hx a b o} h => by
      rw [upd_ne (z1 h)] at h
      exact h
    have q2 : he ≠ p := z1 nhe
    have a2 : he ≠ pe := z1 (z2 nhe)
    have q3 : pl ≠ p := z1 npl
    have a32 : pl ≠ he := z1 (z2 npl)
    have a31 : pl ≠ pe := z1 (z2 (z2 (z2 npl)))
    have q4 : pr ≠ p := z1 npr
    have a43 : pr ≠ pl := z1 (z2 npr)
    have a42 : pr ≠ he := z1 (z2 (z2 (z2 npr)))
    have a41 : pr ≠ pe := z1 (z2 (z2 (z2 (z2 (z2 npr)))))
    have q5 : wi ≠ p := z1 nwi
    have a54 : wi ≠ pr := z1 (z2 nwi)
    have a53 : wi ≠ pl := z1 (z2 (z2 (z2 nwi)))
    have a52 : wi ≠ he := z1 (z2 (z2 (z2 (z2 (z2 nwi)))))
    have a51 : wi ≠ pe := z1 (z2 (z2 (z2 (z2 (z2 (z2 (z2 nwi)))))))
    have n1 : H pe = none := npe
    have n2 : H he = none := z2 (z2 nhe)
    have n3 : H pl = none := z2 (z2 (z2 (z2 npl)))
    have n4 : H pr = none := z2 (z2 (z2 (z2 (z2 (z2 npr)))))
    have n5 : H wi = none := z2 (z2 (z2 (z2 (z2 (z2 (z2 (z2 nwi)))))))
    refine k _ ⟨pe, he, pl, pr, wi, []⟩ ⟨⟨⟨dx, upd_same⟩, ?_, ?_, ?_, ?_, ?_, rfl, fun q hq => by cases hq⟩, fun b o hb => chain13 n1 n2 n3 n4 n5 (s0 _ _ hb) (ne_of_none hb p0), ?_, a31.symm, ?_⟩ (fun b o hb hn => chain13 n1 n2 n3 n4 n5 hb hn)
    · exact Eq.trans (upd_ne q1) (Eq.trans (upd_ne q1) (Eq.trans (upd_ne q1) (Eq.trans (upd_ne q1) (Eq.trans (upd_ne a51.symm) (Eq.trans (upd_ne q1) (Eq.trans (upd_ne a41.symm) (Eq.trans (upd_ne q1) (Eq.trans (upd_ne a31.symm) (Eq.trans (upd_ne q1) (Eq.trans (upd_ne a2.symm) (Eq.trans (upd_ne q1) upd_same)))))))))))
    · exact Eq.trans (upd_ne q2) (Eq.trans (upd_ne q2) (Eq.trans (upd_ne q2) (Eq.trans (upd_ne q2) (Eq.trans (upd_ne a52.symm) (Eq.trans (upd_ne q2) (Eq.trans (upd_ne a42.symm) (Eq.trans (upd_ne q2) (Eq.trans (upd_ne a32.symm) (Eq.trans (upd_ne q2) upd_same)))))))))
    · exact Eq.trans (upd_ne q3) (Eq.trans (upd_ne q3) (Eq.trans (upd_ne q3) (Eq.trans (upd_ne q3) (Eq.trans (upd_ne a53.symm) (Eq.trans (upd_ne q3) (Eq.trans (upd_ne a43.symm) (Eq.trans (upd_ne q3) upd_same)))))))
    · exact Eq.trans (upd_ne q4) (Eq.trans (upd_ne q4) (Eq.trans (upd_ne q4) (Eq.trans (upd_ne q4) (Eq.trans (upd_ne a54.symm) (Eq.trans (upd_ne q4) upd_same)))))
    · exact Eq.trans (upd_ne q5) (Eq.trans (upd_ne q5) (Eq.trans (upd_ne q5) (Eq.trans (upd_ne q5) upd_same)))
    · intro a ha
      have f : ∀ {a : Addr}, H a = none → H0 a = none := fun h => s0.free h
      have ha2 : a = p ∨ a = pe ∨ a = he ∨ a = pl ∨ a = pr ∨ a = wi := by simpa using ha
      rcases ha2 with e | e | e | e | e | e
      · rw [e]; exact p0
      · rw [e]; exact f n1
      · rw [e]; exact f n2
      · rw [e]; exact f n3
      · rw [e]; exact f n4
      · rw [e]; exact f n5
    · show [he, pr, wi].Nodup
      simp [a42.symm, a52.symm, a54.symm]
theorem sc_name : FnScope ["name", "sign"] ["name"] (defScope s_is_chest_name) := ⟨rfl, rfl, rfl, by decide +kernel, rfl, by decide +kernel, by decide +kernel⟩
theorem letter_in {c : Nat} (h : 97 ≤ c ∧ c ≤ 122) : c ∈ ("abcdefghijklmnopqrstuvwxyz" : Str).cps.toList := by
  have q : ∀ d : Fin 26, (97 + d.val) ∈ ("abcdefghijklmnopqrstuvwxyz" : Str).cps.toList := by decide +kernel
  have e := q ⟨c - 97, by omega⟩
  have e2 : 97 + (c - 97) = c := by omega
  rw [← e2]
  exact e
theorem ok_name (T : Tx K mg) : Def P w K mg base CX0 1 (He.fAd K d_is_chest_name.at_) ["name"] spName := by
  obtain ⟨fd, F⟩ := T.f_is_chest_name
  refine ⟨fd, F.ok sc_name (fun vs H Q E h => ?_) (fun cdv A outer s H vs Q E hr h => ?_), F.bindsN (fun _ _ _ _ _ _ us hl => match us, hl with | [_], _ => rfl), F.kp⟩
  · obtain ⟨_, rfl, _⟩ := h
    rfl
  · obtain ⟨z, rfl, hz, k⟩ := h
    obtain ⟨t, gt⟩ := T.s_LETTERS_KNOWN
    refine ⟨_, PSs.nox (pss_cons (ps_if (PW.pt (pw_or (pt_cmpR op_eq (pv 0) pe_str (nomark _)) (pw_or1 (pt_cmpR op_gt (pe_callB call_len_str (by rfl) T.z_len PySem.boot_len (pa_cons (pv 0) pa_nil)) pe_int (nomark _))))) (pss_one (ps_ret pe_bl)) pss_nil)
      (pss_cons (ps_for PassesOwn.never rfl (pi_str (pv 0)) (pg_name (i := 1) sc_name.nd rfl (.inl rfl)) (pss_one (ps_if (pt_cmpR op_notIn_sign (pv 1) (pe_glob (v := .str "abcdefghijklmnopqrstuvwxyz") rfl gt ⟨t, rfl⟩) (by rfl)) (pss_one (ps_ret pe_bl)) pss_nil)))
      (pss_one (ps_ret pe_bl)))), ?_⟩
    have hl : z.length = z.cps.toList.length := (Array.length_toList ..).symm
    refine ⟨_, rfl, rfl, _, rfl, ?_⟩
    have ne : ¬ V.str z = V.str "" := fun e => by
      injection e with e
      have := hz.1
      rw [e] at this
      exact absurd this (by decide)
    rw [decide_eq_false ne]
    refine ⟨_, rfl, z, rfl, sz_of (by have := hz.2.1; omega), _, _, rfl, rfl, _, rfl, ?_⟩
    rw [decide_eq_false (by have := hz.2.1; omega)]
    refine ⟨_, rfl, z, rfl, ?_⟩
    refine for_it (walk_str (z := z)) (fun i σ H' => H' = H ∧ ∃ v, σ = [some (.str z), v]) ⟨rfl, none, rfl⟩ (fun _ _ _ _ _ => trivial) ?_ ?_
    · rintro i x σ H1 H2 hi ⟨rfl, v, rfl⟩ ⟨rfl, c, hc, rfl⟩
      refine ⟨_, rfl, c, _, rfl, rfl, _, rfl, ?_⟩
      have hm : c ∈ z.cps.toList := by
        rw [← Array.getElem?_toList] at hc
        exact List.mem_of_getElem? hc
      rw [decide_eq_true (letter_in (hz.2.2 c hm))]
      exact ⟨rfl, _, rfl⟩
    · rintro σ H1 ⟨rfl, v, rfl⟩
      exact k
theorem sc_new : FnScope ["name", "known"] ["name", "known"] (defScope s_look_new_name) := ⟨rfl, rfl, rfl, by decide +kernel, rfl, by decide +kernel, by decide +kernel⟩
theorem ok_new (T : Tx K mg) : Def P w K mg base (L2.CX P w) 2 (He.fAd K d_look_new_name.at_) ["name", "known"] (spNew K) := by
  obtain ⟨fd, F⟩ := T.f_look_new_name
  refine ⟨fd, F.ok sc_new (fun vs H Q E h => ?_) (fun cdv A outer s H vs Q E hr h => ?_), F.bindsN (fun _ _ _ _ _ _ us hl => match us, hl with | [_, _], _ => rfl), F.kp⟩
  · obtain ⟨_, _, _, rfl, _⟩ := h
    rfl
  · obtain ⟨z, a, zs, rfl, hz, ha, k1, k2⟩ := h
    obtain ⟨x1, x2, x3, x4⟩ := T.x_Twice
    refine ⟨_, pss_cons (ps_if (pt_not (pt_val (pe_f (ok_name T) hr pass0 T.g_is_chest_name (pa_cons (pv 0) pa_nil)))) (pss_one ps_never) pss_nil)
      (pss_one (ps_if (pt_cmpR op_in_seq (pv 0) (pv 1) (by rfl)) (pss_one (ps_raise rfl (takes_of rfl rfl rfl rfl) (pmk_own PySem.F.excBase_ValueError x1 T.g_Twice x2 (raises_own x3 x4) rfl))) pss_nil)), ?_⟩
    refine ⟨_, rfl, z, rfl, hz, _, rfl, ?_⟩
    refine ⟨_, rfl, _, rfl, a, _, rfl, .inl (SqL.of ha), rfl, flat_str _, _, rfl, ?_⟩
    rw [inV_str]
    refine ite2 (fun c => ?_) (fun c => ?_)
    · have c2 : decide (z ∈ zs) = true := c
      exact k2 (of_decide_eq_true c2)
    · have c2 : ¬ decide (z ∈ zs) = true := c
      exact k1 fun q => c2 (decide_eq_true q)
theorem sc_enrol : FnScope ["self", "name"] ["self", "name"] (defScope s_Chest_enrol) := ⟨rfl, rfl, rfl, by decide +kernel, rfl, by decide +kernel, by decide +kernel⟩
theorem ok_enrol (T : Tx K mg) : Def P w K mg base (L2.CX P w) 3 (He.fAd K d_Chest_enrol.at_) ["self", "name"] (spEnrol K) := by
  obtain ⟨fd, F⟩ := T.f_Chest_enrol
  refine ⟨fd, F.ok sc_enrol (fun vs H Q E h => ?_) (fun cdv A outer s H vs Q E hr h => ?_), F.bindsN (fun _ _ _ _ _ _ us hl => match us, hl with | [_, _], _ => rfl), F.kp⟩
  · obtain ⟨_, _, _, _, _, rfl, _⟩ := h
    rfl
  · obtain ⟨H0, p, s, A, n, rfl, R, O, hn, k1, k2⟩ := h
    obtain ⟨t, gt⟩ := T.i_MOST_PEOPLE
    have hu := hu_of hr
    refine ⟨_, pss_cons (ps_expr (pe_f (E := E) (ok_new T) hr (passX rfl rfl rfl rfl) T.g_look_new_name (pa_cons (pv 1) (pa_cons (pe_fld (pv 0) rfl) pa_nil))))
      (pss_cons (ps_if (pt_cmpR op_ge (pe_callB call_len_seq (by rfl) T.z_len PySem.boot_len (pa_cons (pe_fld (pv 0) rfl) pa_nil)) (pe_glob (v := .int 20) rfl gt ⟨t, rfl⟩) (nomark _)) (pss_one ps_never) pss_nil)
      (pss_cons (ps_expr (pe_bm PySem.F.plainAttrs_list PySem.F.slot_list_append PySem.F.type_list_append mt_append (pe_fld (pv 0) rfl) (pa_cons (pv 1) pa_nil)))
      (pss_one (ps_dput hu (pe_fld (pv 0) rfl) (pv 1) pe_int rfl)))), ?_⟩
    obtain ⟨dx, h1⟩ := R.obj
    have N := R.ne
    refine ⟨_, rfl, _, rfl, p, _, dx, _, _, rfl, h1, T.cl_Chest, T.n_people, fl_people, n, A.pe, s.names, rfl, hn, R.pe, fun nn => ?_, k2⟩
    refine ⟨_, rfl, p, _, dx, _, _, rfl, h1, T.cl_Chest, T.n_people, fl_people, A.pe, _, rfl, .inl (SqL.of R.pe), _, _, rfl, rfl, _, rfl, ?_⟩
    have el : s.names.length = s.people.length := List.length_map ..
    rw [decide_eq_false (by rw [List.length_map, el]; have := O.p6; omega)]
    refine ⟨_, rfl, p, _, dx, _, _, rfl, h1, T.cl_Chest, T.n_people, fl_people, .inl ⟨rfl, _, SqL.of R.pe⟩, _, rfl, A.pe, _, _, rfl, rfl, R.pe, sz_lt (by rw [List.length_map, el]; have := O.p6; omega), ?_⟩
    have h2 : (upd H A.pe (.lst (s.names.map V.str ++ [.str n]))) p = some (.ins (cC K) dx (s.fl A)) := by rw [upd_ne N.p_pe]; exact h1
    have h3 : (upd H A.pe (.lst (s.names.map V.str ++ [.str n]))) A.he = some (.dK (dl (fun q => q.1) (fun q => V.int q.2) s.people)) := by rw [upd_ne N.pe_he.symm]; exact R.he
    refine ⟨_, rfl, p, _, dx, _, _, rfl, h2, T.cl_Chest, T.n_held, fl_held, _, rfl, A.he, _, rfl, DPut.k (k := Sum.inr n) h3 (sz_lt (by rw [dl_length]; have := O.p6; omega)), ?_⟩
    rw [putK_dl_new (kf := fun q : Str × Int => q.1) (vf := fun q => V.int q.2) _ nn]
    refine k1 nn _ A ⟨⟨⟨dx, ?_⟩, ?_, ?_, ?_, ?_, ?_, R.ws, fun q hq => ?_⟩, R.mut (R.mut R.base in1) in2, R.new, R.nl, R.nd⟩
    · rw [upd_ne N.p_he]; exact h2
    · rw [upd_ne N.pe_he, upd_same]
      show _ = some (HO.lst (List.map V.str ((s.people ++ [((n, 0) : Str × Int)]).map (fun q => q.1))))
      rw [List.map_append, List.map_append]; rfl
    · rw [upd_same]
      show _ = some (HO.dK (dl (fun q => q.1) (fun q => V.int q.2) (s.people ++ [(n, 0)])))
      rw [dl_append]; rfl
    · rw [upd_ne N.he_pl.symm, upd_ne N.pe_pl.symm]; exact R.pl
    · rw [upd_ne N.he_pr.symm, upd_ne N.pe_pr.symm]; exact R.pr
    · rw [upd_ne N.he_wi.symm, upd_ne N.pe_wi.symm]; exact R.wi
    · rw [upd_ne (N.d_he q hq), upd_ne (N.d_pe q hq)]; exact R.wish q hq
theorem sc_propose : FnScope ["self", "work", "cost"] ["self", "work", "cost"] (defScope s_Chest_propose) := ⟨rfl, rfl, rfl, by decide +kernel, rfl, by decide +kernel, by decide +kernel⟩
theorem ok_propose (T : Tx K mg) : Def P w K mg base CX0 3 (He.fAd K d_Chest_propose.at_) ["self", "work", "cost"] (spPropose K) := by
  obtain ⟨fd, F⟩ := T.f_Chest_propose
  refine ⟨fd, F.ok sc_propose (fun vs H Q E h => ?_) (fun cdv A outer s H vs Q E hr h => ?_), F.bindsN (fun _ _ _ _ _ _ us hl => match us, hl with | [_, _, _], _ => rfl), F.kp⟩
  · obtain ⟨_, _, _, _, _, _, rfl, _⟩ := h
    rfl
  · obtain ⟨H0, p, s, A, z, c, rfl, R, O, hz, nz, c1, c2, k⟩ := h
    obtain ⟨t, gt⟩ := T.i_MOST_PLANS
    obtain ⟨t2, gt2⟩ := T.i_MOST_COINS
    have hu := hu_of hr
    refine ⟨_, PSs.nox (pss_cons (ps_expr (pe_f (E := E0) (ok_new T) hr passL T.g_look_new_name (pa_cons (pv 1) (pa_cons (pe_fld (pv 0) rfl) pa_nil))))
      (pss_cons (ps_if (PW.pt (pw_or (pt_cmpR op_lt (pv 2) pe_int (nomark _)) (pw_or1 (pt_cmpR op_gt (pv 2) (pe_glob (v := .int 1000000000) rfl gt2 ⟨t2, rfl⟩) (nomark _))))) (pss_one ps_never) pss_nil)
      (pss_cons (ps_if (pt_cmpR op_ge (pe_callB call_len_seq (by rfl) T.z_len PySem.boot_len (pa_cons (pe_fld (pv 0) rfl) pa_nil)) (pe_glob (v := .int 12) rfl gt ⟨t, rfl⟩) (nomark _)) (pss_one ps_never) pss_nil)
      (pss_cons (ps_expr (pe_bm PySem.F.plainAttrs_list PySem.F.slot_list_append PySem.F.type_list_append mt_append (pe_fld (pv 0) rfl) (pa_cons (pv 1) pa_nil)))
      (pss_cons (ps_dput hu (pe_fld (pv 0) rfl) (pv 1) (pv 2) rfl)
      (pss_one (ps_dput hu (pe_fld (pv 0) rfl) (pv 1) pe_dnewK rfl))))))), ?_⟩
    obtain ⟨dx, h1⟩ := R.obj
    have N := R.ne
    refine ⟨_, rfl, _, rfl, p, _, dx, _, _, rfl, h1, T.cl_Chest, T.n_plans, fl_plans, z, A.pl, s.works, rfl, hz, R.pl, fun nn => ?_, fun q => absurd q nz⟩
    refine ⟨_, rfl, _, _, rfl, rfl, _, rfl, ?_⟩
    rw [decide_eq_false (by omega)]
    refine ⟨_, rfl, _, _, rfl, rfl, _, rfl, ?_⟩
    rw [decide_eq_false (by omega)]
    refine ⟨_, rfl, p, _, dx, _, _, rfl, h1, T.cl_Chest, T.n_plans, fl_plans, A.pl, _, rfl, .inl (SqL.of R.pl), _, _, rfl, rfl, _, rfl, ?_⟩
    have el : s.works.length = s.plans.length := List.length_map ..
    rw [decide_eq_false (by rw [List.length_map, el]; have := O.w6; omega)]
    refine ⟨_, rfl, p, _, dx, _, _, rfl, h1, T.cl_Chest, T.n_plans, fl_plans, .inl ⟨rfl, _, SqL.of R.pl⟩, _, rfl, A.pl, _, _, rfl, rfl, R.pl, sz_lt (by rw [List.length_map, el]; have := O.w6; omega), ?_⟩
    have h2 : (upd H A.pl (.lst (s.works.map V.str ++ [.str z]))) p = some (.ins (cC K) dx (s.fl A)) := by rw [upd_ne N.p_pl]; exact h1
    have h3 : (upd H A.pl (.lst (s.works.map V.str ++ [.str z]))) A.pr = some (.dK (dl (fun q => q.name) (fun q => V.int q.cost) s.plans)) := by rw [upd_ne N.pl_pr.symm]; exact R.pr
    refine ⟨_, rfl, _, rfl, p, _, dx, _, _, rfl, h2, T.cl_Chest, T.n_prices, fl_prices, _, rfl, A.pr, _, rfl, DPut.k (k := Sum.inr z) h3 (sz_lt (by rw [dl_length]; have := O.w6; omega)), ?_⟩
    rw [putK_dl_new (kf := fun q : Plan => q.name) (vf := fun q => V.int q.cost) _ nz]
    intro d nd
    obtain ⟨H2, eH2⟩ : ∃ H2, H2 = upd (upd H A.pl (.lst (s.works.map V.str ++ [.str z]))) A.pr (.dK (dl (fun q => q.name) (fun q => V.int q.cost) s.plans ++ [(Sum.inr z, .int c)])) := ⟨_, rfl⟩
    rw [← eH2] at nd
    have g0 : H2 p = some (.ins (cC K) dx (s.fl A)) := by rw [eH2, upd_ne N.p_pr]; exact h2
    have g1 : H2 A.pe = some (.lst (s.names.map V.str)) := by rw [eH2, upd_ne N.pe_pr, upd_ne N.pe_pl]; exact R.pe
    have g2 : H2 A.he = some (.dK (dl (fun q => q.1) (fun q => V.int q.2) s.people)) := by rw [eH2, upd_ne N.he_pr, upd_ne N.he_pl]; exact R.he
    have g3 : H2 A.pl = some (.lst ((s.propose z c).works.map V.str)) := by
      rw [eH2, upd_ne N.pl_pr, upd_same]
      show _ = some (HO.lst (List.map V.str ((s.plans ++ [(⟨z, c, []⟩ : Plan)]).map (fun q => q.name))))
      rw [List.map_append, List.map_append]; rfl
    have g4 : H2 A.pr = some (.dK (dl (fun q => q.name) (fun q => V.int q.cost) (s.propose z c).plans)) := by
      rw [eH2, upd_same]
      show _ = some (HO.dK (dl (fun q => q.name) (fun q => V.int q.cost) (s.plans ++ [(⟨z, c, []⟩ : Plan)])))
      rw [dl_append]; rfl
    have g5 : H2 A.wi = some (.dK (dl (fun q => q.1.name) (fun q => V.ref q.2) A.ws)) := by rw [eH2, upd_ne N.pr_wi.symm, upd_ne N.pl_wi.symm]; exact R.wi
    have g6 : ∀ q, q ∈ A.ws → H2 q.2 = some (.dK (kvSet q.1.wish)) := fun q hq => by rw [eH2, upd_ne (N.d_pr q hq), upd_ne (N.d_pl q hq)]; exact R.wish q hq
    have g7 : Same H0 H2 := by
      rw [eH2]
      exact R.mut (R.mut R.base in3) in4
    have sd := snew (o := .dK []) nd
    have wn : A.ws.map (fun q => q.1.name) = s.works := R.works_ws
    have lw : A.ws.length = s.plans.length := by rw [← R.ws, List.length_map]
    have key : ∀ (Hx : Hp), Hx = H2 → (sDPut (tFld K (tVar 0) "wished") (tVar 1) (tC (.ref d))) { nx := fun _ H' => Q .non H', rt := Q } [some (.ref p), some (.str z), some (.int c)] (upd Hx d (.dK [])) := fun Hx ex => by
      subst ex
      refine ⟨_, rfl, p, _, dx, _, _, rfl, sd _ _ g0, T.cl_Chest, T.n_wished, fl_wished, _, rfl, A.wi, _, rfl, DPut.k (k := Sum.inr z) (sd _ _ g5) (sz_lt (by rw [dl_length, lw]; have := O.w6; omega)), ?_⟩
      rw [putK_dl_new (kf := fun q : Plan × Addr => q.1.name) (vf := fun q => V.ref q.2) _ (by rw [wn]; exact nz)]
      have dn : ∀ {a : Addr} {o : HO}, Hx a = some o → d ≠ a := fun h => (ne_of_none h nd).symm
      refine k _ { A with ws := A.ws ++ ([(⟨z, c, []⟩, d)] : List (Plan × Addr)) } ⟨⟨⟨dx, ?_⟩, ?_, ?_, ?_, ?_, ?_, ?_, fun q hq => ?_⟩, R.mut (g7.trans sd) in5, ?_, R.nl, ?_⟩
      · rw [upd_ne N.p_wi]; exact sd _ _ g0
      · rw [upd_ne N.pe_wi]; exact sd _ _ g1
      · rw [upd_ne N.he_wi]; exact sd _ _ g2
      · rw [upd_ne N.pl_wi]; exact sd _ _ g3
      · rw [upd_ne N.pr_wi]; exact sd _ _ g4
      · rw [upd_same]
        show _ = some (HO.dK (dl (fun q => q.1.name) (fun q => V.ref q.2) (A.ws ++ ([(⟨z, c, []⟩, d)] : List (Plan × Addr)))))
        rw [dl_append]; rfl
      · show (A.ws ++ ([(⟨z, c, []⟩, d)] : List (Plan × Addr))).map (·.1) = s.plans ++ [(⟨z, c, []⟩ : Plan)]
        rw [List.map_append, R.ws]; rfl
      · rcases List.mem_append.mp hq with m | m
        · rw [upd_ne (N.d_wi q m)]; exact sd _ _ (g6 q m)
        · rw [List.mem_singleton.mp m]
          show (upd (upd Hx d (.dK [])) A.wi _) d = _
          rw [upd_ne (dn g5), upd_same]; rfl
      · intro a ha
        have fr : H0 d = none := g7.free nd
        have ha2 : a = p ∨ a = A.pe ∨ a = A.he ∨ a = A.pl ∨ a = A.pr ∨ a = A.wi ∨ a ∈ A.ws.map (·.2) ∨ a = d := by
          have : a ∈ p :: A.pe :: A.he :: A.pl :: A.pr :: A.wi :: (A.ws ++ ([(⟨z, c, []⟩, d)] : List (Plan × Addr))).map (·.2) := ha
          rw [List.map_append] at this
          simpa using this
        rcases ha2 with e | e | e | e | e | e | e | e
        · rw [e]; exact R.new _ in0
        · rw [e]; exact R.new _ in1
        · rw [e]; exact R.new _ in2
        · rw [e]; exact R.new _ in3
        · rw [e]; exact R.new _ in4
        · rw [e]; exact R.new _ in5
        · exact R.new _ (in6 e)
        · rw [e]; exact fr
      · show (A.he :: A.pr :: A.wi :: (A.ws ++ ([(⟨z, c, []⟩, d)] : List (Plan × Addr))).map (·.2)).Nodup
        rw [List.map_append]
        refine (List.nodup_append (l₁ := A.he :: A.pr :: A.wi :: A.ws.map (·.2))).mpr ⟨R.nd, (by show [d].Nodup; simp), fun a ha b hb e => ?_⟩
        have eb : b = d := List.mem_singleton.mp (show b ∈ [d] from hb)
        rw [e, eb] at ha
        have ha2 : d = A.he ∨ d = A.pr ∨ d = A.wi ∨ d ∈ A.ws.map (·.2) := by simpa using ha
        rcases ha2 with e | e | e | e
        · exact dn g2 e
        · exact dn g4 e
        · exact dn g5 e
        · obtain ⟨q, hq, e2⟩ := List.mem_map.mp e
          exact dn (g6 q hq) e2.symm
    exact key _ eH2.symm
end
end Ep
set_option Elab.async false
set_option linter.all false
set_option maxRecDepth 100000
set_option maxHeartbeats 4000000
/-! EpChestC: a chest's deeds, the others. -/
namespace Ep
open PySem PySem.Spec PyProof.Rows L2
theorem hu65 {A : Around} {k : Nat} (hr : Room k A) : A.units + 65 < cLine := by have := hr.un; omega
theorem isSome_kvSet (l : List Str) (n : Str) : (valV (kvSet l) (Sum.inr n : Key)).isSome = decide (n ∈ l) := by
  unfold kvSet
  rw [isSome_dl, List.map_id']
def spLeave (K : PySem.W.Frag) : Sp := fun vs H Q _ => ∃ (H0 : Hp) (p : Addr) (s : Ch) (A : CA) (n : Str), vs = [.ref p, .str n] ∧ ChestAt K H0 H p s A ∧ s.Ok ∧ n ∈ s.names ∧ ∀ H' A', ChestAt K H0 H' p (s.leave n) A' → Q .non H'
def spGive (K : PySem.W.Frag) : Sp := fun vs H Q _ => ∃ (H0 : Hp) (p : Addr) (s : Ch) (A : CA) (c : Int), vs = [.ref p, .int c] ∧ ChestAt K H0 H p s A ∧ s.Ok ∧ 0 ≤ c ∧ c ≤ 1000000000 ∧ ∀ H' A', ChestAt K H0 H' p (s.give c) A' → Q .non H'
def spWithdraw (K : PySem.W.Frag) : Sp := fun vs H Q _ => ∃ (H0 : Hp) (p : Addr) (s : Ch) (A : CA) (z : Str), vs = [.ref p, .str z] ∧ ChestAt K H0 H p s A ∧ (s.works.Nodup ∧ ∀ n, n ∈ s.works → NameOk n) ∧ z ∈ s.works ∧ ∀ H' A', ChestAt K H0 H' p (s.withdraw z) A' → Q .non H'
def spWant (K : PySem.W.Frag) : Sp := fun vs H Q E => ∃ (H0 : Hp) (p : Addr) (s : Ch) (A : CA) (n z : Str), vs = [.ref p, .str n, .str z] ∧ ChestAt K H0 H p s A ∧ s.Ok ∧
  (n ∈ s.names → z ∈ s.works → ∀ H' A', ChestAt K H0 H' p (s.want n z) A' → Q .non H') ∧ (n ∉ s.names → E (.ref (He.ga K "NoVoter")) none H) ∧ (n ∈ s.names → z ∉ s.works → E (.ref (He.ga K "NoWork")) none H)
def spUnwant (K : PySem.W.Frag) : Sp := fun vs H Q _ => ∃ (H0 : Hp) (p : Addr) (s : Ch) (A : CA) (n z : Str), vs = [.ref p, .str n, .str z] ∧ ChestAt K H0 H p s A ∧ s.Ok ∧ n ∈ s.names ∧ z ∈ s.works ∧ ∀ H' A', ChestAt K H0 H' p (s.unwant n z) A' → Q .non H'
/-- one wish list changes -/
theorem ChestAt.rewish {K : PySem.W.Frag} {H0 H : Hp} {p : Addr} {s : Ch} {A : CA} (R : ChestAt K H0 H p s A) (hn : s.works.Nodup) {q : Plan} {d : Addr} (hq : (q, d) ∈ A.ws) (f : List Str → List Str) :
    ChestAt K H0 (upd H d (.dK (kvSet (f q.wish)))) p { s with plans := s.plans.map (onPlan q.name f) } { A with ws := A.ws.map fun r => (onPlan q.name f r.1, r.2) } := by
  obtain ⟨dx, h1⟩ := R.obj
  have N := R.ne
  have e2 : (A.ws.map fun r => (onPlan q.name f r.1, r.2)).map (·.2) = A.ws.map (·.2) := by
    rw [List.map_map]; rfl
  have ek : ({ s with plans := s.plans.map (onPlan q.name f) } : Ch).works = s.works := names_onPlan q.name f s.plans
  have wn : A.ws.map (fun q => q.1.name) = s.works := R.works_ws
  refine ⟨⟨⟨dx, ?_⟩, ?_, ?_, ?_, ?_, ?_, ?_, fun r hr => ?_⟩, R.mut R.base (in6 (List.mem_map.mpr ⟨_, hq, rfl⟩)), ?_, R.nl, ?_⟩
  · exact uk h1 (N.d_p _ hq).symm
  · exact uk R.pe (N.d_pe _ hq).symm
  · exact uk R.he (N.d_he _ hq).symm
  · rw [ek]
    exact uk R.pl (N.d_pl _ hq).symm
  · have e3 : dl (fun q => q.name) (fun q => V.int q.cost) (s.plans.map (onPlan q.name f)) = dl (fun q => q.name) (fun q => V.int q.cost) s.plans := by
      unfold dl
      rw [List.map_map]
      exact List.map_congr_left fun r _ => by
        show ((Sum.inr (onPlan q.name f r).name : Key), V.int (onPlan q.name f r).cost) = _
        rw [onPlan_name, onPlan_cost]
    show _ = some (HO.dK (dl (fun q => q.name) (fun q => V.int q.cost) (s.plans.map (onPlan q.name f))))
    rw [e3]
    exact uk R.pr (N.d_pr _ hq).symm
  · have e3 : dl (fun q => q.1.name) (fun q => V.ref q.2) (A.ws.map fun r => (onPlan q.name f r.1, r.2)) = dl (fun q => q.1.name) (fun q => V.ref q.2) A.ws := by
      unfold dl
      rw [List.map_map]
      exact List.map_congr_left fun r _ => by
        show ((Sum.inr (onPlan q.name f r.1).name : Key), V.ref r.2) = _
        rw [onPlan_name]
    show _ = some (HO.dK (dl (fun q => q.1.name) (fun q => V.ref q.2) (A.ws.map fun r => (onPlan q.name f r.1, r.2))))
    rw [e3]
    exact uk R.wi (N.d_wi _ hq).symm
  · show (A.ws.map fun r => (onPlan q.name f r.1, r.2)).map (·.1) = s.plans.map (onPlan q.name f)
    rw [← R.ws, List.map_map, List.map_map]; rfl
  · obtain ⟨r0, hr0, e⟩ := List.mem_map.mp hr
    subst e
    show upd H d (.dK (kvSet (f q.wish))) r0.2 = some (.dK (kvSet (onPlan q.name f r0.1).wish))
    by_cases c : r0.1.name = q.name
    · -- the same work: the same place
      have er : r0 = (q, d) := by
        have hn2 : (A.ws.map fun q => q.1.name).Nodup := by rw [wn]; exact hn
        have f1 := find_key (fun q : Plan × Addr => q.1.name) hn2 hr0
        have f2 := find_key (fun q : Plan × Addr => q.1.name) hn2 hq
        have f3 : A.ws.find? (fun r => decide (r.1.name = q.name)) = some (q, d) := f2
        rw [c, f3] at f1
        exact (Option.some.inj f1).symm
      subst er
      rw [upd_same]
      unfold onPlan
      rw [if_pos rfl]; rfl
    · have nd2 : r0.2 ≠ d := fun e => by
        have q1 := R.nd
        have q2 : (A.ws.map (·.2)).Nodup := (List.nodup_cons.mp (List.nodup_cons.mp (List.nodup_cons.mp q1).2).2).2
        obtain ⟨i, hi, ei⟩ := List.mem_iff_getElem.mp hr0
        obtain ⟨j, hj, ej⟩ := List.mem_iff_getElem.mp hq
        have a1 : (A.ws.map (·.2))[i]? = some d := by rw [List.getElem?_map, List.getElem?_eq_getElem hi, ei]; exact congrArg some e
        have a2 : (A.ws.map (·.2))[j]? = some d := by rw [List.getElem?_map, List.getElem?_eq_getElem hj, ej]; rfl
        have ij := nd_ix q2 a1 a2
        subst ij
        rw [ei] at ej
        exact c (by rw [ej])
      rw [upd_ne nd2]
      unfold onPlan
      rw [if_neg c]
      exact R.wish _ hr0
  · show ∀ a, a ∈ p :: A.pe :: A.he :: A.pl :: A.pr :: A.wi :: (A.ws.map fun r => (onPlan q.name f r.1, r.2)).map (·.2) → H0 a = none
    rw [e2]
    exact R.new
  · show (A.he :: A.pr :: A.wi :: (A.ws.map fun r => (onPlan q.name f r.1, r.2)).map (·.2)).Nodup
    rw [e2]
    exact R.nd
theorem kvSet_put (l : List Str) (n : Str) : putK (kvSet l) (Sum.inr n : Key) (V.bl true) = kvSet (addN l n) := by
  unfold kvSet addN
  by_cases h : n ∈ l
  · rw [if_pos h, putK_dl_old (kf := fun n : Str => n) (vf := fun _ => V.bl true) _ (by rw [List.map_id']; exact h)]
    exact dl_congr fun q _ => by split <;> rfl
  · rw [if_neg h, putK_dl_new (kf := fun n : Str => n) (vf := fun _ => V.bl true) _ (by rw [List.map_id']; exact h), dl_append]; rfl
theorem kvSet_drop (l : List Str) (n : Str) : dropK (kvSet l) (Sum.inr n : Key) = kvSet (dropN l n) := dropK_dl (kf := fun n : Str => n) (vf := fun _ => V.bl true) l n
theorem plan_of {s : Ch} {z : Str} (h : z ∈ s.works) : ∃ q, q ∈ s.plans ∧ q.name = z := exists_key (fun q : Plan => q.name) h
section
variable {P : Program} {w : World} {K : PySem.W.Frag} {mg : Str → Option Value} {base : Heap}
theorem sc_want : FnScope ["self", "voter", "work"] ["self", "voter", "work"] (defScope s_Chest_want) := ⟨rfl, rfl, rfl, by decide +kernel, rfl, by decide +kernel, by decide +kernel⟩
theorem ok_want (T : Tx K mg) : Def P w K mg base (L2.CX P w) 2 (He.fAd K d_Chest_want.at_) ["self", "voter", "work"] (spWant K) := by
  obtain ⟨fd, F⟩ := T.f_Chest_want
  refine ⟨fd, F.ok sc_want (fun vs H Q E h => ?_) (fun cdv A outer s H vs Q E hr h => ?_), F.bindsN (fun _ _ _ _ _ _ us hl => match us, hl with | [_, _, _], _ => rfl), F.kp⟩
  · obtain ⟨_, _, _, _, _, _, rfl, _⟩ := h
    rfl
  · obtain ⟨H0, p, s, A, n, z, rfl, R, O, k1, k2, k3⟩ := h
    have hu := hu_of hr
    obtain ⟨dx, h1⟩ := R.obj
    refine ⟨_, pss_cons (ps_expr (pe_m (E := E) (ok_lookv T) hr (passX rfl rfl rfl rfl) T.cl_Chest T.m_look_voter (pv 0) (pa_cons (pv 1) pa_nil)))
      (pss_cons (ps_expr (pe_m (E := E) (ok_lookw T) hr (passX rfl rfl rfl rfl) T.cl_Chest T.m_look_work (pv 0) (pa_cons (pv 2) pa_nil)))
      (pss_one (ps_dput hu (pe_dget hu (pe_fld (pv 0) rfl) (pv 2) (fun _ _ => rfl)) (pv 1) pe_bl rfl))), ?_⟩
    refine ⟨_, rfl, p, dx, _, rfl, h1, rfl, _, rfl, p, s, A, n, rfl, R.toChestR, fun hn => ?_, k2⟩
    refine ⟨_, rfl, p, dx, _, rfl, h1, rfl, _, rfl, p, s, A, z, rfl, R.toChestR, fun hz => ?_, k3 hn⟩
    obtain ⟨q, hq, rfl⟩ := plan_of hz
    obtain ⟨d, hd1, hd2, hd3⟩ := R.toChestR.wishOf O.wnd hq
    have hg : DGet H A.wi (.str q.name) (some (V.ref d)) := by
      rw [← hd2]
      exact DGet.k (k := Sum.inr q.name) R.wi
    have hw := O.wish q hq
    have hlen : q.wish.length < sizeLine := sz_lt (by
      have z1 := pigeon hw.1 hw.2
      have z2 : s.names.length = s.people.length := List.length_map ..
      have := O.p6
      omega)
    refine ⟨_, rfl, p, _, dx, _, _, rfl, h1, T.cl_Chest, T.n_wished, fl_wished, _, rfl, A.wi, _, rfl, hg, _, rfl, d, _, rfl, DPut.k (k := Sum.inr n) hd3 (by unfold kvSet; rw [dl_length]; exact hlen), ?_⟩
    rw [kvSet_put]
    exact k1 hn hz _ _ (R.rewish O.wnd hd1 fun l => addN l n)
theorem sc_unwant : FnScope ["self", "voter", "work"] ["self", "voter", "work"] (defScope s_Chest_unwant) := ⟨rfl, rfl, rfl, by decide +kernel, rfl, by decide +kernel, by decide +kernel⟩
theorem ok_unwant (T : Tx K mg) : Def P w K mg base CX0 2 (He.fAd K d_Chest_unwant.at_) ["self", "voter", "work"] (spUnwant K) := by
  obtain ⟨fd, F⟩ := T.f_Chest_unwant
  refine ⟨fd, F.ok sc_unwant (fun vs H Q E h => ?_) (fun cdv A outer s H vs Q E hr h => ?_), F.bindsN (fun _ _ _ _ _ _ us hl => match us, hl with | [_, _, _], _ => rfl), F.kp⟩
  · obtain ⟨_, _, _, _, _, _, rfl, _⟩ := h
    rfl
  · obtain ⟨H0, p, s, A, n, z, rfl, R, O, hn, hz, k⟩ := h
    have hu := hu_of hr
    obtain ⟨dx, h1⟩ := R.obj
    refine ⟨_, PSs.nox (pss_cons (ps_expr (pe_m (E := E0) (ok_lookv T) hr passL T.cl_Chest T.m_look_voter (pv 0) (pa_cons (pv 1) pa_nil)))
      (pss_cons (ps_expr (pe_m (E := E0) (ok_lookw T) hr passL T.cl_Chest T.m_look_work (pv 0) (pa_cons (pv 2) pa_nil)))
      (pss_one (ps_if (pt_cmp (pc_din hu (pv 1) (pe_dget hu (pe_fld (pv 0) rfl) (pv 2) (fun _ _ => rfl)))) (pss_one (ps_expr (pe_dpop1 (pe_dget hu (pe_fld (pv 0) rfl) (pv 2) (fun _ _ => rfl)) (pv 1) ⟨rfl, rfl, rfl, rfl⟩))) pss_nil)))), ?_⟩
    refine ⟨_, rfl, p, dx, _, rfl, h1, rfl, _, rfl, p, s, A, n, rfl, R.toChestR, fun hn => ?_, fun q => absurd hn q⟩
    refine ⟨_, rfl, p, dx, _, rfl, h1, rfl, _, rfl, p, s, A, z, rfl, R.toChestR, fun hz => ?_, fun q => absurd hz q⟩
    obtain ⟨q, hq, rfl⟩ := plan_of hz
    obtain ⟨d, hd1, hd2, hd3⟩ := R.toChestR.wishOf O.wnd hq
    have hg : DGet H A.wi (.str q.name) (some (V.ref d)) := by
      rw [← hd2]
      exact DGet.k (k := Sum.inr q.name) R.wi
    refine ⟨_, rfl, _, rfl, p, _, dx, _, _, rfl, h1, T.cl_Chest, T.n_wished, fl_wished, _, rfl, A.wi, _, rfl, hg, d, _, rfl, DGet.k (k := Sum.inr n) hd3, _, rfl, ?_⟩
    rw [isSome_kvSet]
    have R2 := R.rewish O.wnd hd1 fun l => dropN l n
    refine ite2 (fun c => ?_) (fun c => ?_)
    · have hm : n ∈ q.wish := of_decide_eq_true c
      refine ⟨_, rfl, p, _, dx, _, _, rfl, h1, T.cl_Chest, T.n_wished, fl_wished, _, rfl, A.wi, _, rfl, hg, d, rfl, .inl ⟨_, .inl hd3⟩, _, rfl, _, Sum.inr n, V.bl true, hd3, rfl, valV_dl_mem (kf := fun n : Str => n) (vf := fun _ => V.bl true) (by rw [List.map_id']; exact (O.wish q hq).1) hm, ?_⟩
      rw [kvSet_drop]
      exact k _ _ R2
    · -- no wish of that voter: nothing changes
      have hm : n ∉ q.wish := fun m => c (decide_eq_true m)
      have e : dropN q.wish n = q.wish := filter_all fun m hm2 => decide_eq_true fun e => hm (e ▸ hm2)
      have eu : upd H d (.dK (kvSet (dropN q.wish n))) = H := by
        rw [e]
        funext b
        by_cases cb : b = d
        · rw [cb, upd_same, hd3]
        · rw [upd_ne cb]
      rw [eu] at R2
      exact k _ _ R2
theorem sc_withdraw : FnScope ["self", "work"] ["self", "work"] (defScope s_Chest_withdraw) := ⟨rfl, rfl, rfl, by decide +kernel, rfl, by decide +kernel, by decide +kernel⟩
theorem ok_withdraw (T : Tx K mg) : Def P w K mg base CX0 2 (He.fAd K d_Chest_withdraw.at_) ["self", "work"] (spWithdraw K) := by
  obtain ⟨fd, F⟩ := T.f_Chest_withdraw
  refine ⟨fd, F.ok sc_withdraw (fun vs H Q E h => ?_) (fun cdv A outer s H vs Q E hr h => ?_), F.bindsN (fun _ _ _ _ _ _ us hl => match us, hl with | [_, _], _ => rfl), F.kp⟩
  · obtain ⟨_, _, _, _, _, rfl, _⟩ := h
    rfl
  · obtain ⟨H0, p, s, A, z, rfl, R, O, hz, k⟩ := h
    have hu := hu_of hr
    obtain ⟨dx, h1⟩ := R.obj
    have N := R.ne
    refine ⟨_, PSs.nox (pss_cons (ps_expr (pe_m (E := E0) (ok_lookw T) hr passL T.cl_Chest T.m_look_work (pv 0) (pa_cons (pv 1) pa_nil)))
      (pss_cons (ps_expr (pe_bm PySem.F.plainAttrs_list PySem.F.slot_list_remove PySem.F.type_list_remove (mt_removeD (hu65 hr)) (pe_fld (pv 0) rfl) (pa_cons (pv 1) pa_nil)))
      (pss_cons (ps_expr (pe_dpop1 (pe_fld (pv 0) rfl) (pv 1) ⟨rfl, rfl, rfl, rfl⟩))
      (pss_one (ps_expr (pe_dpop1 (pe_fld (pv 0) rfl) (pv 1) ⟨rfl, rfl, rfl, rfl⟩)))))), ?_⟩
    refine ⟨_, rfl, p, dx, _, rfl, h1, rfl, _, rfl, p, s, A, z, rfl, R.toChestR, fun _ => ?_, fun q => absurd hz q⟩
    refine ⟨_, rfl, p, _, dx, _, _, rfl, h1, T.cl_Chest, T.n_plans, fl_plans, .inl ⟨rfl, _, SqL.of R.pl⟩, _, rfl, ?_⟩
    dsimp only [tNil]
    refine rem_str R.pl O.2 O.1 hz ?_
    obtain ⟨q, hq, rfl⟩ := plan_of hz
    obtain ⟨d, hd1, hd2, hd3⟩ := R.toChestR.wishOf O.1 hq
    have hc := R.toChestR.costOf O.1 hq
    have h2 := uk (x := .lst ((s.works.filter fun m => decide (m ≠ q.name)).map V.str)) h1 N.p_pl
    have h3 := uk (x := .lst ((s.works.filter fun m => decide (m ≠ q.name)).map V.str)) R.pr N.pl_pr.symm
    refine ⟨_, rfl, p, _, dx, _, _, rfl, h2, T.cl_Chest, T.n_prices, fl_prices, A.pr, rfl, .inl ⟨_, .inl h3⟩, _, rfl, _, Sum.inr q.name, _, h3, rfl, hc, ?_⟩
    rw [dropK_dl (kf := fun q : Plan => q.name) (vf := fun q => V.int q.cost)]
    have h4 := uk (x := .dK (dl (fun q => q.name) (fun q => V.int q.cost) (s.plans.filter fun r => decide (r.name ≠ q.name)))) h2 N.p_pr
    have h5 := uk (x := .dK (dl (fun q => q.name) (fun q => V.int q.cost) (s.plans.filter fun r => decide (r.name ≠ q.name)))) (uk (x := .lst ((s.works.filter fun m => decide (m ≠ q.name)).map V.str)) R.wi N.pl_wi.symm) N.pr_wi.symm
    refine ⟨_, rfl, p, _, dx, _, _, rfl, h4, T.cl_Chest, T.n_wished, fl_wished, A.wi, rfl, .inl ⟨_, .inl h5⟩, _, rfl, _, Sum.inr q.name, _, h5, rfl, hd2, ?_⟩
    rw [dropK_dl (kf := fun q : Plan × Addr => q.1.name) (vf := fun q => V.ref q.2)]
    have sub : ∀ r, r ∈ A.ws.filter (fun r => decide (r.1.name ≠ q.name)) → r ∈ A.ws := fun r hr => (List.mem_filter.mp hr).1
    have sub2 : ((A.ws.filter fun r => decide (r.1.name ≠ q.name)).map (·.2)).Sublist (A.ws.map (·.2)) := List.Sublist.map _ List.filter_sublist
    have ew : (s.withdraw q.name).works = s.works.filter fun m => decide (m ≠ q.name) := map_filter_key (fun q : Plan => q.name) q.name s.plans
    refine k _ { A with ws := A.ws.filter fun r => decide (r.1.name ≠ q.name) } ⟨⟨⟨dx, ?_⟩, ?_, ?_, ?_, ?_, ?_, ?_, fun r hr => ?_⟩, R.mut (R.mut (R.mut R.base in3) in4) in5, ?_, R.nl, ?_⟩
    · exact uk h4 N.p_wi
    · exact uk (uk (uk R.pe N.pe_pl) N.pe_pr) N.pe_wi
    · exact uk (uk (uk R.he N.he_pl) N.he_pr) N.he_wi
    · rw [ew]
      exact uk (uk upd_same N.pl_pr) N.pl_wi
    · exact uk upd_same N.pr_wi
    · exact upd_same
    · show (A.ws.filter fun r => decide (r.1.name ≠ q.name)).map (·.1) = s.plans.filter fun r => decide (r.name ≠ q.name)
      rw [← R.ws, List.filter_map]; rfl
    · have hr2 := sub r hr
      exact uk (uk (uk (R.wish r hr2) (N.d_pl r hr2)) (N.d_pr r hr2)) (N.d_wi r hr2)
    · intro a ha
      have ha2 : a = p ∨ a = A.pe ∨ a = A.he ∨ a = A.pl ∨ a = A.pr ∨ a = A.wi ∨ a ∈ (A.ws.filter fun r => decide (r.1.name ≠ q.name)).map (·.2) := by
        have : a ∈ p :: A.pe :: A.he :: A.pl :: A.pr :: A.wi :: (A.ws.filter fun r => decide (r.1.name ≠ q.name)).map (·.2) := ha
        simpa only [List.mem_cons] using this
      rcases ha2 with e | e | e | e | e | e | e
      · rw [e]; exact R.new _ in0
      · rw [e]; exact R.new _ in1
      · rw [e]; exact R.new _ in2
      · rw [e]; exact R.new _ in3
      · rw [e]; exact R.new _ in4
      · rw [e]; exact R.new _ in5
      · exact R.new _ (in6 (sub2.subset e))
    · exact List.Nodup.sublist (((sub2.cons₂ A.wi).cons₂ A.pr).cons₂ A.he) R.nd
theorem sc_leave : FnScope ["self", "name", "work"] ["self", "name"] (defScope s_Chest_leave) := ⟨rfl, rfl, rfl, by decide +kernel, rfl, by decide +kernel, by decide +kernel⟩
theorem ok_leave (T : Tx K mg) : Def P w K mg base CX0 2 (He.fAd K d_Chest_leave.at_) ["self", "name"] (spLeave K) := by
  obtain ⟨fd, F⟩ := T.f_Chest_leave
  refine ⟨fd, F.ok sc_leave (fun vs H Q E h => ?_) (fun cdv A outer s H vs Q E hr h => ?_), F.bindsN (fun _ _ _ _ _ _ us hl => match us, hl with | [_, _], _ => rfl), F.kp⟩
  · obtain ⟨_, _, _, _, _, rfl, _⟩ := h
    rfl
  · obtain ⟨H0, p, s, A, n, rfl, R, O, hn, k⟩ := h
    have hu := hu_of hr
    obtain ⟨dx, h1⟩ := R.obj
    have N := R.ne
    refine ⟨_, PSs.nox (pss_cons (ps_expr (pe_m (E := E0) (ok_lookv T) hr passL T.cl_Chest T.m_look_voter (pv 0) (pa_cons (pv 1) pa_nil)))
      (pss_cons (ps_fldaug (pv 0) (pe_dpop1 (pe_fld (pv 0) rfl) (pv 1) ⟨rfl, rfl, rfl, rfl⟩) in_add)
      (pss_cons (ps_expr (pe_bm PySem.F.plainAttrs_list PySem.F.slot_list_remove PySem.F.type_list_remove (mt_removeD (hu65 hr)) (pe_fld (pv 0) rfl) (pa_cons (pv 1) pa_nil)))
      (pss_one (ps_for PassesOwn.never rfl (pi_list (pe_fld (pv 0) rfl)) (pg_name (i := 2) sc_leave.nd rfl (.inl rfl))
        (pss_one (ps_if (pt_cmp (pc_din hu (pv 1) (pe_dget hu (pe_fld (pv 0) rfl) (pv 2) (fun _ _ => rfl)))) (pss_one (ps_expr (pe_dpop1 (pe_dget hu (pe_fld (pv 0) rfl) (pv 2) (fun _ _ => rfl)) (pv 1) ⟨rfl, rfl, rfl, rfl⟩))) pss_nil))))))), ?_⟩
    refine ⟨_, rfl, p, dx, _, rfl, h1, rfl, _, rfl, p, s, A, n, rfl, R.toChestR, fun _ => ?_, fun q => absurd hn q⟩
    obtain ⟨pp, hpp, rfl⟩ := exists_key (fun q : Str × Int => q.1) hn
    have hv := R.toChestR.heldOf O.pnd hpp
    have epu : s.purse pp.1 = pp.2 := by
      unfold Ch.purse
      rw [find_key (fun q : Str × Int => q.1) O.pnd hpp]; rfl
    -- self.well += self.held.pop(name)
    refine ⟨_, rfl, p, _, dx, _, _, rfl, h1, T.cl_Chest, T.n_well, fl_well, _, rfl, p, _, dx, _, _, rfl, h1, T.cl_Chest, T.n_held, fl_held, A.he, rfl, .inl ⟨_, .inl R.he⟩, _, rfl, _, Sum.inr pp.1, _, R.he, rfl, hv, ?_⟩
    rw [dropK_dl (kf := fun q : Str × Int => q.1) (vf := fun q => V.int q.2)]
    refine ⟨_, _, rfl, rfl, dx, _, uk h1 N.p_he, fl_few, ?_⟩
    obtain ⟨H1, eH1⟩ : ∃ H1, H1 = upd (upd H A.he (.dK (dl (fun q => q.1) (fun q => V.int q.2) (s.people.filter fun q => decide (q.1 ≠ pp.1))))) p (.ins (cC K) dx (flC A (s.well + pp.2) s.gifts s.outlay)) := ⟨_, rfl⟩
    have g0 : H1 p = some (.ins (cC K) dx (flC A (s.well + pp.2) s.gifts s.outlay)) := by rw [eH1]; exact upd_same
    have g1 : H1 A.pe = some (.lst (s.names.map V.str)) := by rw [eH1]; exact uk (uk R.pe N.pe_he) N.p_pe.symm
    have g2 : H1 A.he = some (.dK (dl (fun q => q.1) (fun q => V.int q.2) (s.people.filter fun q => decide (q.1 ≠ pp.1)))) := by rw [eH1]; exact uk upd_same N.p_he.symm
    have g3 : H1 A.pl = some (.lst (s.works.map V.str)) := by rw [eH1]; exact uk (uk R.pl N.he_pl.symm) N.p_pl.symm
    have g4 : H1 A.pr = some (.dK (dl (fun q => q.name) (fun q => V.int q.cost) s.plans)) := by rw [eH1]; exact uk (uk R.pr N.he_pr.symm) N.p_pr.symm
    have g5 : H1 A.wi = some (.dK (dl (fun q => q.1.name) (fun q => V.ref q.2) A.ws)) := by rw [eH1]; exact uk (uk R.wi N.he_wi.symm) N.p_wi.symm
    have g6 : ∀ q, q ∈ A.ws → H1 q.2 = some (.dK (kvSet q.1.wish)) := fun q hq => by rw [eH1]; exact uk (uk (R.wish q hq) (N.d_he q hq)) (N.d_p q hq)
    have g7 : Same H0 H1 := by rw [eH1]; exact R.mut (R.mut R.base in2) in0
    have key : ∀ Hx, Hx = H1 → (tSeq (tDrop (tBM K "list" (rRemD K) (tFld K (tVar 0) "people") (tCons (tVar 1) tNil)))
        (tFor (iList K (tFld K (tVar 0) "plans")) (gName 2) (tIfS (tB (tDIn (tVar 1) (tDGet (tFld K (tVar 0) "wished") (tVar 2)))) (tDrop (tDPop1 (tDGet (tFld K (tVar 0) "wished") (tVar 2)) (tVar 1))) tNext)))
        { nx := fun _ H' => Q .non H', rt := Q } [some (.ref p), some (.str pp.1), none] Hx := fun Hx ex => by
      subst ex
      refine ⟨_, rfl, p, _, dx, _, _, rfl, g0, T.cl_Chest, T.n_people, fl_people, .inl ⟨rfl, _, SqL.of g1⟩, _, rfl, ?_⟩
      dsimp only [tNil]
      refine rem_str g1 O.pok O.pnd hn ?_
      have ew : (s.leave pp.1).works = s.works := names_upd _ s.plans
      have en : (s.leave pp.1).names = s.names.filter fun m => decide (m ≠ pp.1) := map_filter_key (fun q : Str × Int => q.1) pp.1 s.people
      have hw6 : s.works.length ≤ 6 := by
        have : s.works.length = s.plans.length := List.length_map ..
        have := O.w6
        omega
      have wn : A.ws.map (fun q => q.1.name) = s.works := R.toChestR.works_ws
      have hn2 : (A.ws.map fun q => q.1.name).Nodup := by rw [wn]; exact O.wnd
      have lw : A.ws.length = s.works.length := by rw [← wn, List.length_map]
      have q2 : (A.ws.map (·.2)).Nodup := (List.nodup_cons.mp (List.nodup_cons.mp (List.nodup_cons.mp R.nd).2).2).2
      obtain ⟨H2, eH2⟩ : ∃ H2, H2 = upd Hx A.pe (.lst ((s.names.filter fun m => decide (m ≠ pp.1)).map V.str)) := ⟨_, rfl⟩
      have f0 : H2 p = some (.ins (cC K) dx (flC A (s.well + pp.2) s.gifts s.outlay)) := by rw [eH2]; exact uk g0 N.p_pe
      have f1 : H2 A.pe = some (.lst ((s.leave pp.1).names.map V.str)) := by rw [eH2, en]; exact upd_same
      have f2 : H2 A.he = some (.dK (dl (fun q => q.1) (fun q => V.int q.2) (s.people.filter fun q => decide (q.1 ≠ pp.1)))) := by rw [eH2]; exact uk g2 N.pe_he.symm
      have f3 : H2 A.pl = some (.lst (s.works.map V.str)) := by rw [eH2]; exact uk g3 N.pe_pl.symm
      have f4 : H2 A.pr = some (.dK (dl (fun q => q.name) (fun q => V.int q.cost) s.plans)) := by rw [eH2]; exact uk g4 N.pe_pr.symm
      have f5 : H2 A.wi = some (.dK (dl (fun q => q.1.name) (fun q => V.ref q.2) A.ws)) := by rw [eH2]; exact uk g5 N.pe_wi.symm
      have f6 : ∀ q, q ∈ A.ws → H2 q.2 = some (.dK (kvSet q.1.wish)) := fun q hq => by rw [eH2]; exact uk (g6 q hq) (N.d_pe q hq)
      have f7 : Same H0 H2 := by rw [eH2]; exact R.mut g7 in1
      have nw : ∀ a, a ∈ p :: A.pe :: A.he :: A.pl :: A.pr :: A.wi :: [] → a ∉ A.ws.map (·.2) := fun a ha m => by
        obtain ⟨r, hr, e⟩ := List.mem_map.mp m
        have ha2 : a = p ∨ a = A.pe ∨ a = A.he ∨ a = A.pl ∨ a = A.pr ∨ a = A.wi := by simpa using ha
        rcases ha2 with z | z | z | z | z | z
        · exact N.d_p r hr (e.trans z)
        · exact N.d_pe r hr (e.trans z)
        · exact N.d_he r hr (e.trans z)
        · exact N.d_pl r hr (e.trans z)
        · exact N.d_pr r hr (e.trans z)
        · exact N.d_wi r hr (e.trans z)
      have key2 : ∀ Hy, Hy = H2 → (tFor (iList K (tFld K (tVar 0) "plans")) (gName 2) (tIfS (tB (tDIn (tVar 1) (tDGet (tFld K (tVar 0) "wished") (tVar 2)))) (tDrop (tDPop1 (tDGet (tFld K (tVar 0) "wished") (tVar 2)) (tVar 1))) tNext))
          { nx := fun _ H' => Q .non H', rt := Q } [some (.ref p), some (.str pp.1), none] Hy := fun Hy ey => by
        subst ey
        refine ⟨_, rfl, p, _, dx, _, _, rfl, f0, T.cl_Chest, T.n_plans, fl_plans, A.pl, rfl, ⟨_, SqL.of f3⟩, ?_⟩
        refine for_it (walk_list (K := K) (a := A.pl) (xs := s.works.map V.str)) (fun i σ H' => (∃ v, σ = [some (.ref p), some (.str pp.1), v]) ∧ (∀ a, a ∉ A.ws.map (·.2) → H' a = Hy a) ∧ ∀ (j : Nat) q, A.ws[j]? = some q → H' q.2 = some (.dK (kvSet (if j < i then dropN q.1.wish pp.1 else q.1.wish)))) ?_ ?_ ?_ ?_
        · exact ⟨⟨none, rfl⟩, fun a _ => rfl, fun j q hj => by rw [if_neg (Nat.not_lt_zero j)]; exact f6 q (List.mem_of_getElem? hj)⟩
        · rintro i σ H' _ ⟨_, e1, _⟩
          exact SqL.of ((e1 _ (nw _ (by simp))).trans f3)
        · rintro i x σ H3 H4 hi ⟨⟨v, rfl⟩, e1, e2⟩ ⟨rfl, hx⟩
          rw [List.length_map] at hi
          have hx2 : (s.works.map V.str)[i]? = some x := hx
          have hi2 : i < A.ws.length := by omega
          have hwi : A.ws[i]? = some A.ws[i] := List.getElem?_eq_getElem hi2
          rw [List.getElem?_map, ← wn, List.getElem?_map, hwi] at hx2
          obtain rfl : x = V.str A.ws[i].1.name := (Option.some.inj hx2).symm
          have mi : A.ws[i] ∈ A.ws := List.getElem_mem hi2
          have hv2 := valV_dl_mem (kf := fun q : Plan × Addr => q.1.name) (vf := fun q => V.ref q.2) hn2 mi
          have w3 : H4 A.wi = some (.dK (dl (fun q => q.1.name) (fun q => V.ref q.2) A.ws)) := (e1 _ (nw _ (by simp))).trans f5
          have o3 : H4 p = some (.ins (cC K) dx (flC A (s.well + pp.2) s.gifts s.outlay)) := (e1 _ (nw _ (by simp))).trans f0
          have hg : DGet H4 A.wi (.str A.ws[i].1.name) (some (V.ref A.ws[i].2)) := by
            rw [← hv2]
            exact DGet.k (k := Sum.inr A.ws[i].1.name) w3
          have d3 : H4 A.ws[i].2 = some (.dK (kvSet A.ws[i].1.wish)) := by
            rw [e2 i _ hwi, if_neg (Nat.lt_irrefl i)]
          have hwm := O.wish A.ws[i].1 (by rw [← R.ws]; exact List.mem_map.mpr ⟨_, mi, rfl⟩)
          refine ⟨_, rfl, _, rfl, p, _, dx, _, _, rfl, o3, T.cl_Chest, T.n_wished, fl_wished, _, rfl, A.wi, _, rfl, hg, A.ws[i].2, _, rfl, DGet.k (k := Sum.inr pp.1) d3, _, rfl, ?_⟩
          rw [isSome_kvSet]
          have other : ∀ (j : Nat) q, A.ws[j]? = some q → j ≠ i → q.2 ≠ A.ws[i].2 := fun j q hj hji e => by
            have a1 : (A.ws.map (·.2))[j]? = some q.2 := by rw [List.getElem?_map, hj]; rfl
            have a2 : (A.ws.map (·.2))[i]? = some q.2 := by rw [List.getElem?_map, hwi, e]; rfl
            exact hji (nd_ix q2 a1 a2)
          refine ite2 (fun c => ?_) (fun c => ?_)
          · have hm : pp.1 ∈ A.ws[i].1.wish := of_decide_eq_true c
            refine ⟨_, rfl, p, _, dx, _, _, rfl, o3, T.cl_Chest, T.n_wished, fl_wished, _, rfl, A.wi, _, rfl, hg, A.ws[i].2, rfl, .inl ⟨_, .inl d3⟩, _, rfl, _, Sum.inr pp.1, V.bl true, d3, rfl, valV_dl_mem (kf := fun n : Str => n) (vf := fun _ => V.bl true) (by rw [List.map_id']; exact hwm.1) hm, ?_⟩
            rw [kvSet_drop]
            refine ⟨⟨_, rfl⟩, fun a ha => ?_, fun j q hj => ?_⟩
            · rw [upd_ne fun e => ha (by rw [e]; exact List.mem_map.mpr ⟨_, mi, rfl⟩)]
              exact e1 a ha
            · by_cases cj : j = i
              · subst cj
                have eq : q = A.ws[j] := by rw [hwi] at hj; exact (Option.some.inj hj).symm
                subst eq
                rw [upd_same, if_pos (Nat.lt_succ_self j)]
              · rw [upd_ne (other j q hj cj), e2 j q hj]
                by_cases cl : j < i
                · rw [if_pos cl, if_pos (by omega)]
                · rw [if_neg cl, if_neg (by omega)]
          · have hm : pp.1 ∉ A.ws[i].1.wish := fun m => c (decide_eq_true m)
            refine ⟨⟨_, rfl⟩, e1, fun j q hj => ?_⟩
            rw [e2 j q hj]
            by_cases cj : j = i
            · subst cj
              have eq : q = A.ws[j] := by rw [hwi] at hj; exact (Option.some.inj hj).symm
              subst eq
              rw [if_neg (Nat.lt_irrefl j), if_pos (Nat.lt_succ_self j)]
              have e : dropN A.ws[j].1.wish pp.1 = A.ws[j].1.wish := filter_all fun m hm2 => decide_eq_true fun e => hm (e ▸ hm2)
              rw [e]
            · by_cases cl : j < i
              · rw [if_pos cl, if_pos (by omega)]
              · rw [if_neg cl, if_neg (by omega)]
        · rintro σ H3 ⟨_, e1, e2⟩
          rw [List.length_map] at e2
          have e3 : (A.ws.map fun r => ((r.1.upd fun l => l.filter fun m => decide (m ≠ pp.1)), r.2)).map (·.2) = A.ws.map (·.2) := by rw [List.map_map]; rfl
          refine k _ { A with ws := A.ws.map fun r => ((r.1.upd fun l => l.filter fun m => decide (m ≠ pp.1)), r.2) } ⟨⟨⟨dx, ?_⟩, ?_, ?_, ?_, ?_, ?_, ?_, fun r hr => ?_⟩, fun b o hb => ?_, ?_, R.nl, ?_⟩
          · rw [e1 _ (nw _ (by simp)), f0]
            show _ = some (HO.ins (cC K) dx (flC A (s.well + s.purse pp.1) s.gifts s.outlay))
            rw [epu]
          · exact (e1 _ (nw _ (by simp))).trans f1
          · exact (e1 _ (nw _ (by simp))).trans f2
          · rw [ew]
            exact (e1 _ (nw _ (by simp))).trans f3
          · refine ((e1 _ (nw _ (by simp))).trans f4).trans ?_
            show _ = some (HO.dK (dl (fun q => q.name) (fun q => V.int q.cost) (s.plans.map fun q => q.upd fun l => l.filter fun m => decide (m ≠ pp.1))))
            unfold dl
            rw [List.map_map]; rfl
          · refine ((e1 _ (nw _ (by simp))).trans f5).trans ?_
            show _ = some (HO.dK (dl (fun q => q.1.name) (fun q => V.ref q.2) (A.ws.map fun r => ((r.1.upd fun l => l.filter fun m => decide (m ≠ pp.1)), r.2))))
            unfold dl
            rw [List.map_map]; rfl
          · show (A.ws.map fun r => ((r.1.upd fun l => l.filter fun m => decide (m ≠ pp.1)), r.2)).map (·.1) = s.plans.map fun q => q.upd fun l => l.filter fun m => decide (m ≠ pp.1)
            rw [← R.ws, List.map_map, List.map_map]; rfl
          · obtain ⟨r0, hr0, e⟩ := List.mem_map.mp hr
            subst e
            obtain ⟨j, hj, ej⟩ := List.mem_iff_getElem.mp hr0
            have hj2 : A.ws[j]? = some r0 := by rw [List.getElem?_eq_getElem hj, ej]
            have q := e2 j r0 hj2
            rw [if_pos (by omega)] at q
            exact q
          · have hb0 : b ∉ A.ws.map (·.2) := fun m => by
              rw [R.new b (in6 m)] at hb
              cases hb
            rw [e1 b hb0]
            exact f7 b o hb
          · show ∀ a, a ∈ p :: A.pe :: A.he :: A.pl :: A.pr :: A.wi :: (A.ws.map fun r => ((r.1.upd fun l => l.filter fun m => decide (m ≠ pp.1)), r.2)).map (·.2) → H0 a = none
            rw [e3]
            exact R.new
          · show (A.he :: A.pr :: A.wi :: (A.ws.map fun r => ((r.1.upd fun l => l.filter fun m => decide (m ≠ pp.1)), r.2)).map (·.2)).Nodup
            rw [e3]
            exact R.nd
      exact key2 _ eH2.symm
    exact key _ eH1.symm
end
end Ep
set_option Elab.async false
set_option linter.all false
set_option maxRecDepth 100000
set_option maxHeartbeats 4000000
/-! EpChestD: give, works, wishes_now, keep_whole, told_step. -/
namespace Ep
open PySem PySem.Spec PyProof.Rows L2
/-! ### places -/
def Ch.nm (s : Ch) (i : Nat) : Str := (s.names[i]?).getD ""
def Ch.pu (s : Ch) (i : Nat) : Int := ((s.people[i]?).map (·.2)).getD 0
def Ch.wn (s : Ch) (k : Nat) : Str := (s.works[k]?).getD ""
def Ch.co (s : Ch) (k : Nat) : Int := ((s.plans[k]?).map (·.cost)).getD 0
def Ch.wi (s : Ch) (k : Nat) : List Str := ((s.plans[k]?).map (·.wish)).getD []
def Ch.wf (s : Ch) : Nat → List Nat := fun i => (List.range s.plans.length).filter fun k => decide (s.nm i ∈ s.wi k)
theorem Ch.nlen (s : Ch) : s.names.length = s.people.length := List.length_map ..
theorem Ch.wlen (s : Ch) : s.works.length = s.plans.length := List.length_map ..
theorem Ch.names_get (s : Ch) {i : Nat} (h : i < s.people.length) : s.names[i]? = some (s.nm i) := by
  unfold Ch.nm
  rw [List.getElem?_eq_getElem (by rw [s.nlen]; exact h)]; rfl
theorem Ch.works_get (s : Ch) {k : Nat} (h : k < s.plans.length) : s.works[k]? = some (s.wn k) := by
  unfold Ch.wn
  rw [List.getElem?_eq_getElem (by rw [s.wlen]; exact h)]; rfl
theorem Ch.people_get (s : Ch) {i : Nat} (h : i < s.people.length) : s.people[i]? = some (s.nm i, s.pu i) := by
  unfold Ch.nm Ch.pu Ch.names
  rw [List.getElem?_map, List.getElem?_eq_getElem h]; rfl
theorem Ch.plans_get (s : Ch) {k : Nat} (h : k < s.plans.length) : s.plans[k]? = some ⟨s.wn k, s.co k, s.wi k⟩ := by
  unfold Ch.wn Ch.co Ch.wi Ch.works
  rw [List.getElem?_map, List.getElem?_eq_getElem h]; rfl
theorem Ch.names_vec (s : Ch) : s.names = vec s.people.length s.nm := by
  have e := vec_of s.names ""
  rw [s.nlen] at e
  exact e.trans (vec_congr fun i _ => by rw [List.getD_eq_getElem?_getD]; rfl)
theorem Ch.people_vec (s : Ch) : s.people = vec s.people.length fun i => (s.nm i, s.pu i) := by
  apply List.ext_getElem?
  intro i
  by_cases h : i < s.people.length
  · rw [vec_get h, s.people_get h]
  · rw [vec_get_none h, List.getElem?_eq_none_iff.mpr (by omega)]
theorem Ch.plans_vec (s : Ch) : s.plans = vec s.plans.length fun k => (⟨s.wn k, s.co k, s.wi k⟩ : Plan) := by
  apply List.ext_getElem?
  intro i
  by_cases h : i < s.plans.length
  · rw [vec_get h, s.plans_get h]
  · rw [vec_get_none h, List.getElem?_eq_none_iff.mpr (by omega)]
theorem Ch.nm_inj (s : Ch) (h : s.names.Nodup) {i j : Nat} (hi : i < s.people.length) (hj : j < s.people.length) (e : s.nm i = s.nm j) : i = j := nd_ix h (s.names_get hi) (by rw [e]; exact s.names_get hj)
theorem Ch.wn_inj (s : Ch) (h : s.works.Nodup) {i j : Nat} (hi : i < s.plans.length) (hj : j < s.plans.length) (e : s.wn i = s.wn j) : i = j := nd_ix h (s.works_get hi) (by rw [e]; exact s.works_get hj)
theorem Ch.mem_people (s : Ch) {i : Nat} (h : i < s.people.length) : (s.nm i, s.pu i) ∈ s.people := List.mem_of_getElem? (s.people_get h)
theorem Ch.mem_plans (s : Ch) {k : Nat} (h : k < s.plans.length) : (⟨s.wn k, s.co k, s.wi k⟩ : Plan) ∈ s.plans := List.mem_of_getElem? (s.plans_get h)
/-! ### promises -/
def spWishes (K : PySem.W.Frag) : Sp := fun vs H Q _ => ∃ (p : Addr) (s : Ch) (A : CA), vs = [.ref p] ∧ ChestR K H p s A ∧ s.Ok ∧ ∀ l H', Same H H' → H l = none → WisAt H' l s.people.length s.wf → Q (.ref l) H'
def Ch.kept (s : Ch) (lf : Nat → Int) (G : Int) : Ch := { s with people := vec s.people.length (fun i => (s.nm i, lf i / G)), well := s.well + (sumTo s.people.length fun i => lf i % G) / G }
def spKeep (K : PySem.W.Frag) : Sp := fun vs H Q _ => ∃ (H0 : Hp) (p : Addr) (s : Ch) (A : CA) (al : Addr) (lf : Nat → Int) (G : Int), vs = [.ref p, .ref al, .int G] ∧ ChestAt K H0 H p s A ∧ s.Ok ∧ LV H al s.people.length lf ∧ 0 < G ∧ G ≤ 2799360000000 ∧
  (∀ i, i < s.people.length → 0 ≤ lf i ∧ lf i < 2 ^ 100) ∧ ∀ H' A', ChestAt K H0 H' p (s.kept lf G) A' → Q .non H'
structure Done where
  name : Str
  cost : Int
  rows : List (Str × Int)
def RowAt (H : Hp) (r : Addr) (q : Str × Int) : Prop := H r = some (.tup [.str q.1, .int q.2])
def DoneAt (H : Hp) (t : Addr) (d : Done) : Prop := ∃ (l : Addr) (rs : List Addr), H t = some (.tup [.str d.name, .int d.cost, .ref l]) ∧ H l = some (.lst (rs.map V.ref)) ∧ Each (RowAt H) rs d.rows
theorem DoneAt.mono {H H' : Hp} {t : Addr} {d : Done} (e : Same H H') (h : DoneAt H t d) : DoneAt H' t d := by
  obtain ⟨l, rs, h1, h2, h3⟩ := h
  exact ⟨l, rs, e _ _ h1, e _ _ h2, h3.mono fun _ _ _ _ z => e _ _ z⟩
/-- what H' has and H had not -/
def newOf (H H' : Hp) : Hp := fun a => match H a with
  | none => H' a
  | some _ => none
theorem newOf_of {H H' : Hp} {a : Addr} {o : HO} (h : H a = none) (h' : H' a = some o) : newOf H H' a = some o := by
  unfold newOf
  rw [h]
  exact h'
theorem newOf_none {H H' : Hp} {a : Addr} {o : HO} (h : newOf H H' a = some o) : H a = none ∧ H' a = some o := by
  unfold newOf at h
  cases e : H a with
  | none =>
    rw [e] at h
    exact ⟨rfl, h⟩
  | some b =>
    rw [e] at h
    cases h
theorem newOf_le (H H' : Hp) : Same (newOf H H') H' := fun _ _ h => (newOf_none h).2
theorem newOf_hide {H H' : Hp} {S : List Addr} (h : ∀ a, a ∈ S → H a ≠ none) : Same (newOf H H') (hide S H') := fun a o e => by
  obtain ⟨e1, e2⟩ := newOf_none e
  rw [hide_out fun m => h a m e1]
  exact e2
theorem newOf_mono {H H1 H2 : Hp} (e : Same H1 H2) : Same (newOf H H1) (newOf H H2) := fun a o h => by
  obtain ⟨e1, e2⟩ := newOf_none h
  exact newOf_of e1 (e _ _ e2)
def Ch.done (s : Ch) (st : Step) : Done := ⟨s.wn st.work, s.co st.work, gv s.people.length (fun i => decide (0 < st.paid i)) fun i => (s.nm i, st.paid i)⟩
def spTold (K : PySem.W.Frag) : Sp := fun vs H Q _ => ∃ (p : Addr) (s : Ch) (A : CA) (t : Addr) (st : Step), vs = [.ref p, .ref t] ∧ ChestR K H p s A ∧ s.Ok ∧ StepAt s.people.length H t st ∧ st.work < s.plans.length ∧
  ∀ u H', Same H H' → H u = none → DoneAt (newOf H H') u (s.done st) → Q (.ref u) H'
section
variable {P : Program} {w : World} {K : PySem.W.Frag} {mg : Str → Option Value} {base : Heap}
theorem sc_give : FnScope ["self", "coins", "each", "name"] ["self", "coins"] (defScope s_Chest_give) := ⟨rfl, rfl, rfl, by decide +kernel, rfl, by decide +kernel, by decide +kernel⟩
theorem ok_give (T : Tx K mg) : Def P w K mg base CX0 1 (He.fAd K d_Chest_give.at_) ["self", "coins"] (spGive K) := by
  obtain ⟨fd, F⟩ := T.f_Chest_give
  refine ⟨fd, F.ok sc_give (fun vs H Q E h => ?_) (fun cdv A outer s H vs Q E hr h => ?_), F.bindsN (fun _ _ _ _ _ _ us hl => match us, hl with | [_, _], _ => rfl), F.kp⟩
  · obtain ⟨_, _, _, _, _, rfl, _⟩ := h
    rfl
  · obtain ⟨H0, p, s, A, c, rfl, R, O, c1, c2, k⟩ := h
    have hu := hu_of hr
    obtain ⟨dx, h1⟩ := R.obj
    have N := R.ne
    obtain ⟨t2, gt2⟩ := T.i_MOST_COINS
    refine ⟨_, PSs.nox (pss_cons (ps_if (PW.pt (pw_or (pt_cmpR op_lt (pv 1) pe_int (nomark _)) (pw_or1 (pt_cmpR op_gt (pv 1) (pe_glob (v := .int 1000000000) rfl gt2 ⟨t2, rfl⟩) (nomark _))))) (pss_one ps_never) pss_nil)
      (pss_cons (ps_fldaug (pv 0) (pv 1) in_add)
      (pss_cons (ps_fldaug (pv 0) (pv 1) in_add)
      (pss_one (ps_if (pt_cmpR op_gt (pe_callB call_len_seq (by rfl) T.z_len PySem.boot_len (pa_cons (pe_fld (pv 0) rfl) pa_nil)) pe_int (nomark _))
        (pss_cons (ps_asg (pe_callB call_divmod (by rfl) T.z_divmod (by decide +kernel) (pa_cons (pe_fld (pv 0) rfl) (pa_cons (pe_callB call_len_seq (by rfl) T.z_len PySem.boot_len (pa_cons (pe_fld (pv 0) rfl) pa_nil)) pa_nil)))
            (pg_tup rfl (pgs_cons (pg_name (i := 2) sc_give.nd rfl (.inl rfl)) (pgs_cons (pg_attr (pv 0)) pgs_nil))))
        (pss_one (ps_for PassesOwn.never rfl (pi_list (pe_fld (pv 0) rfl)) (pg_name (i := 3) sc_give.nd rfl (.inl rfl)) (pss_one (ps_daug hu (pe_fld (pv 0) rfl) (pv 3) (pv 2) in_add (fun _ _ _ => rfl))))))
        pss_nil))))), ?_⟩
    refine ⟨_, rfl, _, _, rfl, rfl, _, rfl, ?_⟩
    rw [decide_eq_false (by omega)]
    refine ⟨_, rfl, _, _, rfl, rfl, _, rfl, ?_⟩
    rw [decide_eq_false (by omega)]
    refine ⟨_, rfl, p, _, dx, _, _, rfl, h1, T.cl_Chest, T.n_gifts, fl_gifts, _, rfl, _, _, rfl, rfl, dx, _, h1, fl_few, ?_⟩
    refine ⟨_, rfl, p, _, dx, flC A s.well (s.gifts + c) s.outlay, _, rfl, upd_same, T.cl_Chest, T.n_well, fl_well, _, rfl, _, _, rfl, rfl, dx, flC A s.well (s.gifts + c) s.outlay, upd_same, fl_few, ?_⟩
    have e0 : upd (upd H p (.ins (cC K) dx (flC A s.well (s.gifts + c) s.outlay))) p (.ins (cC K) dx (flC A (s.well + c) (s.gifts + c) s.outlay)) = upd H p (.ins (cC K) dx (flC A (s.well + c) (s.gifts + c) s.outlay)) := upd_upd
    obtain ⟨H1, eH1⟩ : ∃ H1, H1 = upd H p (.ins (cC K) dx (flC A (s.well + c) (s.gifts + c) s.outlay)) := ⟨_, rfl⟩
    have g0 : H1 p = some (.ins (cC K) dx (flC A (s.well + c) (s.gifts + c) s.outlay)) := by rw [eH1]; exact upd_same
    have g1 : H1 A.pe = some (.lst (s.names.map V.str)) := by rw [eH1]; exact uk R.pe N.p_pe.symm
    have g2 : H1 A.he = some (.dK (dl (fun q => q.1) (fun q => V.int q.2) s.people)) := by rw [eH1]; exact uk R.he N.p_he.symm
    have g3 : H1 A.pl = some (.lst (s.works.map V.str)) := by rw [eH1]; exact uk R.pl N.p_pl.symm
    have g4 : H1 A.pr = some (.dK (dl (fun q => q.name) (fun q => V.int q.cost) s.plans)) := by rw [eH1]; exact uk R.pr N.p_pr.symm
    have g5 : H1 A.wi = some (.dK (dl (fun q => q.1.name) (fun q => V.ref q.2) A.ws)) := by rw [eH1]; exact uk R.wi N.p_wi.symm
    have g6 : ∀ q, q ∈ A.ws → H1 q.2 = some (.dK (kvSet q.1.wish)) := fun q hq => by rw [eH1]; exact uk (R.wish q hq) (N.d_p q hq)
    have g7 : Same H0 H1 := by rw [eH1]; exact R.mut R.base in0
    have key : ∀ Hx, Hx = H1 → (tIfS (tTest (tOp (rI0 fun i j => .bl (decide (j < i))) (tCB (fun xs H Q => ∃ p ys, xs = [.ref p] ∧ (SqL K H p ys ∨ SqT K H p ys) ∧ Q (.int ys.length) H) (tCons (tFld K (tVar 0) "people") tNil)) (tC (.int 0))))
        (tSeq (tAsg (tCB (fun xs H Q => ∃ i j, xs = [.int i, .int j] ∧ CDiv i j ∧ ∀ p, H p = none → Q (.ref p) (upd H p (.tup [.int (i / j), .int (i % j)]))) (tCons (tFld K (tVar 0) "well") (tCons (tCB (fun xs H Q => ∃ p ys, xs = [.ref p] ∧ (SqL K H p ys ∨ SqT K H p ys) ∧ Q (.int ys.length) H) (tCons (tFld K (tVar 0) "people") tNil)) tNil)))
            (gTup K 2 (gCons (gName 2) (gCons (gAttr K (tVar 0) "well") gNil))))
          (tFor (iList K (tFld K (tVar 0) "people")) (gName 3) (sDAug (tFld K (tVar 0) "held") (tVar 3) (tVar 2) rAdd))) tNext)
        { nx := fun _ H' => Q .non H', rt := Q } [some (.ref p), some (.int c), none, none] Hx := fun Hx ex => by
      subst ex
      refine ⟨_, rfl, p, _, dx, _, _, rfl, g0, T.cl_Chest, T.n_people, fl_people, A.pe, _, rfl, .inl (SqL.of g1), _, _, rfl, rfl, _, rfl, ?_⟩
      rw [List.length_map, s.nlen]
      by_cases hp0 : s.people = []
      · rw [decide_eq_false (by rw [hp0]; show ¬ (0 : Int) < 0; omega)]
        have es : s.give c = { s with gifts := s.gifts + c, well := s.well + c } := if_pos hp0
        refine k Hx A ?_
        rw [es]
        exact ⟨⟨⟨dx, g0⟩, g1, g2, g3, g4, g5, R.ws, g6⟩, g7, R.new, R.nl, R.nd⟩
      · have hpos : 0 < s.people.length := List.length_pos_iff.mpr hp0
        have hp6 := O.p6
        rw [decide_eq_true (by omega)]
        have es : s.give c = { s with people := s.people.map (fun q => (q.1, q.2 + (s.well + c) / (s.people.length : Int))), gifts := s.gifts + c, well := (s.well + c) % (s.people.length : Int) } := if_neg hp0
        refine ⟨_, rfl, p, _, dx, _, _, rfl, g0, T.cl_Chest, T.n_well, fl_well, _, rfl, p, _, dx, _, _, rfl, g0, T.cl_Chest, T.n_people, fl_people, A.pe, _, rfl, .inl (SqL.of g1), _, _, rfl, ⟨(by rw [List.length_map, s.nlen]; omega), (by rw [List.length_map, s.nlen]; omega)⟩, fun t nt => ?_⟩
        rw [List.length_map, s.nlen]
        have st := snew (o := .tup [.int ((s.well + c) / (s.people.length : Int)), .int ((s.well + c) % (s.people.length : Int))]) nt
        have tn : ∀ {a : Addr} {o : HO}, Hx a = some o → a ≠ t := fun h => ne_of_none h nt
        refine ⟨t, _, rfl, SqT.of upd_same, rfl, _, _, rfl, _, _, rfl, _, rfl, p, _, dx, _, rfl, st _ _ g0, T.cl_Chest, T.n_well, fl_few, rfl, ?_⟩
        rw [pf_well]
        obtain ⟨H2, eH2⟩ : ∃ H2, H2 = upd (upd Hx t (.tup [.int ((s.well + c) / (s.people.length : Int)), .int ((s.well + c) % (s.people.length : Int))])) p (.ins (cC K) dx (flC A ((s.well + c) % (s.people.length : Int)) (s.gifts + c) s.outlay)) := ⟨_, rfl⟩
        have f0 : H2 p = some (.ins (cC K) dx (flC A ((s.well + c) % (s.people.length : Int)) (s.gifts + c) s.outlay)) := by rw [eH2]; exact upd_same
        have f1 : H2 A.pe = some (.lst (s.names.map V.str)) := by rw [eH2]; exact uk (st _ _ g1) N.p_pe.symm
        have f2 : H2 A.he = some (.dK (dl (fun q => q.1) (fun q => V.int q.2) s.people)) := by rw [eH2]; exact uk (st _ _ g2) N.p_he.symm
        have f3 : H2 A.pl = some (.lst (s.works.map V.str)) := by rw [eH2]; exact uk (st _ _ g3) N.p_pl.symm
        have f4 : H2 A.pr = some (.dK (dl (fun q => q.name) (fun q => V.int q.cost) s.plans)) := by rw [eH2]; exact uk (st _ _ g4) N.p_pr.symm
        have f5 : H2 A.wi = some (.dK (dl (fun q => q.1.name) (fun q => V.ref q.2) A.ws)) := by rw [eH2]; exact uk (st _ _ g5) N.p_wi.symm
        have f6 : ∀ q, q ∈ A.ws → H2 q.2 = some (.dK (kvSet q.1.wish)) := fun q hq => by rw [eH2]; exact uk (st _ _ (g6 q hq)) (N.d_p q hq)
        have f7 : Same H0 H2 := by rw [eH2]; exact R.mut (g7.trans st) in0
        have key2 : ∀ Hy, Hy = H2 → (tFor (iList K (tFld K (tVar 0) "people")) (gName 3) (sDAug (tFld K (tVar 0) "held") (tVar 3) (tVar 2) rAdd))
            { nx := fun _ H' => Q .non H', rt := Q } [some (.ref p), some (.int c), some (.int ((s.well + c) / (s.people.length : Int))), none] Hy := fun Hy ey => by
          subst ey
          refine ⟨_, rfl, p, _, dx, _, _, rfl, f0, T.cl_Chest, T.n_people, fl_people, A.pe, rfl, ⟨_, SqL.of f1⟩, ?_⟩
          refine for_it (walk_list (K := K) (a := A.pe) (xs := s.names.map V.str)) (fun i σ H' => (∃ v, σ = [some (.ref p), some (.int c), some (.int ((s.well + c) / (s.people.length : Int))), v]) ∧ (∀ a, a ≠ A.he → H' a = Hy a) ∧
              H' A.he = some (.dK (dl (fun q => q.1) (fun q => V.int (q.2 + if q.1 ∈ s.names.take i then (s.well + c) / (s.people.length : Int) else 0)) s.people))) ?_ ?_ ?_ ?_
          · refine ⟨⟨none, rfl⟩, fun _ _ => rfl, f2.trans ?_⟩
            refine congrArg (fun l => some (HO.dK l)) (dl_congr fun q _ => ?_)
            rw [List.take_zero, if_neg (by simp)]
            show V.int q.2 = V.int (q.2 + 0)
            rw [Int.add_zero]
          · rintro i σ H' _ ⟨_, e1, _⟩
            exact SqL.of ((e1 _ N.pe_he).trans f1)
          · rintro i x σ H3 H4 hi ⟨⟨v, rfl⟩, e1, e2⟩ ⟨rfl, hx⟩
            rw [List.length_map, s.nlen] at hi
            have hx2 : (s.names.map V.str)[i]? = some x := hx
            rw [List.getElem?_map, s.names_get hi] at hx2
            obtain rfl : x = V.str (s.nm i) := (Option.some.inj hx2).symm
            have o3 : H4 p = _ := (e1 _ N.p_he).trans f0
            have mi := s.mem_people hi
            have nt2 : s.nm i ∉ s.names.take i := fun m => by
              obtain ⟨j, hj, ej⟩ := List.mem_iff_getElem.mp m
              rw [List.length_take] at hj
              have hj2 : s.names[j]? = some (s.nm i) := by
                have : (s.names.take i)[j]? = some (s.nm i) := by rw [List.getElem?_eq_getElem (by rw [List.length_take]; exact hj), ej]
                rw [List.getElem?_take_of_lt (by omega)] at this
                exact this
              have := nd_ix O.pnd hj2 (s.names_get hi)
              omega
            have hv := valV_dl_mem (kf := fun q : Str × Int => q.1) (vf := fun q => V.int (q.2 + if q.1 ∈ s.names.take i then (s.well + c) / (s.people.length : Int) else 0)) O.pnd mi
            have hg : DGet H4 A.he (.str (s.nm i)) (some (V.int (s.pu i + if s.nm i ∈ s.names.take i then (s.well + c) / (s.people.length : Int) else 0))) := by
              rw [← hv]
              exact DGet.k (k := Sum.inr (s.nm i)) e2
            refine ⟨_, rfl, p, _, dx, _, _, rfl, o3, T.cl_Chest, T.n_held, fl_held, _, rfl, A.he, _, rfl, hg, _, rfl, _, _, rfl, rfl, _, DPut.k (k := Sum.inr (s.nm i)) e2 (sz_lt (by rw [dl_length]; omega)), ⟨_, rfl⟩, fun a ha => ?_, ?_⟩
            · rw [upd_ne ha]
              exact e1 a ha
            · rw [upd_same, putK_dl_old (kf := fun q : Str × Int => q.1) _ (List.mem_map.mpr ⟨_, mi, rfl⟩)]
              refine congrArg (fun l => some (HO.dK l)) (dl_congr fun q hq => ?_)
              have et : s.names.take (i + 1) = s.names.take i ++ [s.nm i] := by rw [List.take_add_one, s.names_get hi]; rfl
              rw [et]
              by_cases cq : q.1 = s.nm i
              · have eq : q = (s.nm i, s.pu i) := by
                  obtain ⟨j, hj, ej⟩ := List.mem_iff_getElem.mp hq
                  have hj2 : s.people[j]? = some q := by rw [List.getElem?_eq_getElem hj, ej]
                  rw [s.people_get hj] at hj2
                  have e3 := (Option.some.inj hj2).symm
                  have e4 : s.nm j = s.nm i := by rw [← cq, e3]
                  have := s.nm_inj O.pnd hj hi e4
                  subst this
                  exact e3
                subst eq
                rw [if_pos rfl, if_neg nt2, if_pos (by simp), Int.add_zero]
              · rw [if_neg cq]
                have : (q.1 ∈ s.names.take i ++ [s.nm i]) ↔ q.1 ∈ s.names.take i := by simp [cq]
                simp only [this]
          · rintro σ H3 ⟨_, e1, e2⟩
            rw [List.length_map, List.take_length] at e2
            refine k H3 A ?_
            rw [es]
            refine ⟨⟨⟨dx, ?_⟩, ?_, ?_, ?_, ?_, ?_, R.ws, fun q hq => ?_⟩, fun b o hb => ?_, R.new, R.nl, R.nd⟩
            · exact (e1 _ N.p_he).trans f0
            · refine ((e1 _ N.pe_he).trans f1).trans ?_
              have en : (s.people.map fun q => (q.1, q.2 + (s.well + c) / (s.people.length : Int))).map (fun q => q.1) = s.names := by
                unfold Ch.names
                rw [List.map_map]; rfl
              show _ = some (HO.lst (((s.people.map fun q => (q.1, q.2 + (s.well + c) / (s.people.length : Int))).map (fun q => q.1)).map V.str))
              rw [en]
            · refine e2.trans ?_
              show _ = some (HO.dK (dl (fun q => q.1) (fun q => V.int q.2) (s.people.map fun q => (q.1, q.2 + (s.well + c) / (s.people.length : Int)))))
              unfold dl
              rw [List.map_map]
              refine congrArg (fun l => some (HO.dK l)) (List.map_congr_left fun q hq => ?_)
              show ((Sum.inr q.1 : Key), V.int (q.2 + if q.1 ∈ s.names then (s.well + c) / (s.people.length : Int) else 0)) = ((Sum.inr q.1 : Key), V.int (q.2 + (s.well + c) / (s.people.length : Int)))
              rw [if_pos (show q.1 ∈ s.names from List.mem_map.mpr ⟨q, hq, rfl⟩)]
            · exact (e1 _ N.he_pl.symm).trans f3
            · exact (e1 _ N.he_pr.symm).trans f4
            · exact (e1 _ N.he_wi.symm).trans f5
            · exact (e1 _ (N.d_he q hq)).trans (f6 q hq)
            · rw [e1 b fun e => by rw [e, R.new _ in2] at hb; cases hb]
              exact f7 b o hb
        exact key2 _ eH2.symm
    exact key _ (e0.trans eH1.symm)
theorem sc_works : FnScope ["self", "work"] ["self"] (defScope s_Chest_works) := ⟨rfl, rfl, rfl, by decide +kernel, rfl, by decide +kernel, by decide +kernel⟩
theorem ok_works (T : Tx K mg) : Def P w K mg base CX0 2 (He.fAd K d_Chest_works.at_) ["self"] (spWorks K) := by
  obtain ⟨fd, F⟩ := T.f_Chest_works
  refine ⟨fd, F.ok sc_works (fun vs H Q E h => ?_) (fun cdv A outer s H vs Q E hr h => ?_), F.bindsN (fun _ _ _ _ _ _ us hl => match us, hl with | [_], _ => rfl), F.kp⟩
  · obtain ⟨_, _, _, rfl, _⟩ := h
    rfl
  · obtain ⟨p, s, A, rfl, R, O, k⟩ := h
    have hu := hu_of hr
    refine ⟨_, PSs.nox (pss_one (ps_ret (pe_lc (own := [("work", 1)]) (g := gName 1) (tt := tYes) (te := tTup (tCons (tVar 1) (tCons (tDGet (tFld K (tVar 0) "prices") (tVar 1)) (tCons (tMeth (cC K) "wanting" (spWanting K) [] E0 (tVar 0) (tCons (tVar 1) tNil)) tNil)))) rfl sc_works.nd (pi_list (pe_fld (pv 0) rfl)) (blkOk_by (N := ["self", "work"]) (sc := defScope s_Chest_works) (by decide +kernel))
      (fun _ _ _ _ _ => pg_name (i := 1) sc_works.nd rfl (Or.inl rfl)) (fun _ _ _ _ _ => pts_nil) (fun _ _ _ _ _ => pe_tup (pa_cons (pv 1) (pa_cons (pe_dget hu (pe_fld (pv 0) rfl) (pv 1) (fun _ _ => rfl)) (pa_cons (pe_m (ok_wanting T) hr pass0 T.cl_Chest T.m_wanting (pv 0) (pa_cons (pv 1) pa_nil)) pa_nil))))))), ?_⟩
    obtain ⟨dx, h1⟩ := R.obj
    refine ⟨_, rfl, p, _, dx, _, _, rfl, h1, T.cl_Chest, T.n_plans, fl_plans, _, rfl, ⟨_, SqL.of R.pl⟩, fun D hD => ?_⟩
    refine lc_it (walk_list (K := K) (a := A.pl) (xs := s.works.map V.str)) (fun i H' => i ≤ s.plans.length ∧ Same H (hide [D] H') ∧ ∃ ts : List Addr, H' D = some (.lst (ts.map V.ref)) ∧ Each (WorkAt (hide [D] H')) ts (s.told.take i)) ?_ ?_ ?_ ?_
    · refine ⟨Nat.zero_le _, hide_into (snew hD) fun a ha => ?_, [], upd_same, Each.nil⟩
      rw [List.mem_singleton.mp ha]
      exact hD
    · rintro i H' _ ⟨_, s1, _⟩
      exact SqL.of (hide_le _ _ _ _ (s1 _ _ R.pl))
    · rintro i x H1 H2 hi ⟨_, s1, ts, hL, hE⟩ ⟨rfl, hx⟩
      rw [List.length_map, s.wlen] at hi
      have hx2 : (s.works.map V.str)[i]? = some x := hx
      rw [List.getElem?_map, s.works_get hi] at hx2
      obtain rfl : x = V.str (s.wn i) := (Option.some.inj hx2).symm
      have le := hide_le [D] H2
      have R1 : ChestR K H2 p s A := (R.mono s1).mono le
      have mi := s.mem_plans hi
      have hv := R1.costOf O.wnd mi
      have hg : DGet H2 A.pr (.str (s.wn i)) (some (V.int (s.co i))) := by
        rw [← hv]
        exact DGet.k (k := Sum.inr (s.wn i)) R1.pr
      have o1 := le _ _ (s1 _ _ h1)
      refine ⟨rfl, _, rfl, _, rfl, p, _, dx, _, _, rfl, o1, T.cl_Chest, T.n_prices, fl_prices, _, rfl, A.pr, _, rfl, hg, _, rfl, p, dx, _, rfl, o1, rfl, _, rfl, p, s, A, ⟨s.wn i, s.co i, s.wi i⟩, rfl, R1, O, mi, fun l H3 s3 nl hl => ?_⟩
      refine ⟨(by show 3 ≤ sizeLine; decide), fun t nt => ?_⟩
      have e2 := snew (o := .tup [.str (s.wn i), .int (s.co i), .ref l]) nt
      have nD : ∀ {a : Addr}, H2 a = none → a ∉ ([D] : List Addr) := fun h m => by
        rw [List.mem_singleton.mp m, hL] at h
        cases h
      have ntD : t ∉ ([D] : List Addr) := nD (s3.free nt)
      have s4 : Same (hide [D] H2) (hide [D] (upd (upd H3 t (.tup [.str (s.wn i), .int (s.co i), .ref l])) D (.lst (ts.map V.ref ++ [.ref t])))) := by
        rw [hide_upd (List.mem_singleton.mpr rfl)]
        exact hide_same (s3.trans e2)
      refine ⟨_, e2 _ _ (s3 _ _ hL), sz_lt (by rw [List.length_map, hE.1, List.length_take]; unfold Ch.told; rw [List.length_map]; have := O.w6; omega), hi, s1.trans s4, ts ++ [t], ?_, ?_⟩
      · rw [upd_same, List.map_append]; rfl
      · have et : s.told.take (i + 1) = s.told.take i ++ [(s.wn i, s.co i, s.wanting ⟨s.wn i, s.co i, s.wi i⟩)] := by
          rw [List.take_add_one]
          unfold Ch.told
          rw [List.getElem?_map, s.plans_get hi]; rfl
        rw [et]
        refine Each.snoc (hE.mono fun _ _ _ _ z => z.mono s4) ⟨l, ?_, ?_⟩
        · rw [hide_upd (List.mem_singleton.mpr rfl), hide_out ntD]
          exact upd_same
        · rw [hide_upd (List.mem_singleton.mpr rfl), hide_out (nD nl)]
          exact e2 _ _ hl
    · rintro H1 ⟨_, s1, ts, hL, hE⟩
      have e : (s.works.map V.str).length = s.told.length := by unfold Ch.told; rw [List.length_map, s.wlen, List.length_map]
      rw [e, List.take_length] at hE
      exact k D H1 ts (s1.trans (hide_le _ _)) hD hL (hE.mono fun _ _ _ _ z => z.mono (hide_le _ _))
theorem sc_wnow : FnScope ["self", "wishes", "name", "at", "work"] ["self"] (defScope s_Chest_wishes_now) := ⟨rfl, rfl, rfl, by decide +kernel, rfl, by decide +kernel, by decide +kernel⟩
theorem ok_wnow (T : Tx K mg) : Def P w K mg base CX0 1 (He.fAd K d_Chest_wishes_now.at_) ["self"] (spWishes K) := by
  obtain ⟨fd, F⟩ := T.f_Chest_wishes_now
  refine ⟨fd, F.ok sc_wnow (fun vs H Q E h => ?_) (fun cdv A outer s H vs Q E hr h => ?_), F.bindsN (fun _ _ _ _ _ _ us hl => match us, hl with | [_], _ => rfl), F.kp⟩
  · obtain ⟨_, _, _, rfl, _⟩ := h
    rfl
  · obtain ⟨p, s, A, rfl, R, O, k⟩ := h
    have hu := hu_of hr
    refine ⟨_, PSs.nox (pss_cons (ps_set (i := 1) sc_wnow.nd rfl (.inl rfl) (pe_lst pa_nil))
      (pss_cons (ps_for PassesOwn.never rfl (pi_list (pe_fld (pv 0) rfl)) (pg_name (i := 2) sc_wnow.nd rfl (Or.inr rfl))
        (pss_one (ps_expr (pe_bm PySem.F.plainAttrs_list PySem.F.slot_list_append PySem.F.type_list_append mt_append (pv 1) (pa_cons
          (pe_lc (own := [("at", 3), ("work", 4)]) (g := gTup K 2 (gCons (gName 3) (gCons (gName 4) gNil))) (tt := tB (tDIn (tVar 2) (tDGet (tFld K (tVar 0) "wished") (tVar 4)))) (te := tVar 3) rfl sc_wnow.nd (pi_enum (by rfl) T.z_enumerate (pa_cons (pe_fld (pv 0) rfl) pa_nil)) (blkOk_by (N := ["self", "wishes", "name", "at", "work"]) (sc := defScope s_Chest_wishes_now) (by decide +kernel))
            (fun _ _ _ _ _ => pg_tup (by rfl) (pgs_cons (pg_name (i := 3) sc_wnow.nd rfl (Or.inl rfl)) (pgs_cons (pg_name (i := 4) sc_wnow.nd rfl (Or.inl rfl)) pgs_nil)))
            (fun _ _ _ _ _ => pts_one (pt_cmp (pc_din hu (pv 2) (pe_dget hu (pe_fld (pv 0) rfl) (pv 4) (fun _ _ => rfl))))) (fun _ _ _ _ _ => pv 3)) pa_nil)))))
      (pss_one (ps_ret (pv 1))))), ?_⟩
    obtain ⟨dx, h1⟩ := R.obj
    have hp6 := O.p6
    have hw6 := O.w6
    refine ⟨Nat.zero_le _, fun l nl => ⟨_, rfl, p, _, dx, _, _, rfl, snew nl _ _ h1, T.cl_Chest, T.n_people, fl_people, A.pe, rfl, ⟨_, SqL.of (snew nl _ _ R.pe)⟩, ?_⟩⟩
    refine for_it (walk_list (K := K) (a := A.pe) (xs := s.names.map V.str)) (fun i σ H' => i ≤ s.people.length ∧ (∃ v, σ = [some (.ref p), some (.ref l), v, none, none]) ∧ Same H (hide [l] H') ∧ ∃ bs : Nat → Addr, H' l = some (.lst (vec i fun j => V.ref (bs j))) ∧ ∀ j, j < i → hide [l] H' (bs j) = some (.lst ((s.wf j).map fun k => V.int (k : Nat)))) ?_ ?_ ?_ ?_
    · exact ⟨Nat.zero_le _, ⟨none, rfl⟩, hide_into (snew nl) fun a ha => (by rw [List.mem_singleton.mp ha]; exact nl), fun _ => 0, upd_same, fun j hj => absurd hj (Nat.not_lt_zero j)⟩
    · rintro i σ H' _ ⟨_, _, s1, _⟩
      exact SqL.of (hide_le _ _ _ _ (s1 _ _ R.pe))
    · rintro i x σ H1 H2 hi ⟨_, ⟨v, rfl⟩, s1, bs, hL, hB⟩ ⟨rfl, hx⟩
      rw [List.length_map, s.nlen] at hi
      have hx2 : (s.names.map V.str)[i]? = some x := hx
      rw [List.getElem?_map, s.names_get hi] at hx2
      obtain rfl : x = V.str (s.nm i) := (Option.some.inj hx2).symm
      have le := hide_le [l] H2
      have R2 : ChestR K H2 p s A := (R.mono s1).mono le
      have o2 := le _ _ (s1 _ _ h1)
      refine ⟨_, rfl, .inl ⟨rfl, _, SqL.of hL⟩, _, rfl, p, _, dx, _, _, rfl, o2, T.cl_Chest, T.n_plans, fl_plans, A.pl, _, rfl, SqL.of R2.pl, fun D hD => ?_⟩
      refine lc_it (walk_enum (K := K) (a := A.pl) (xs := s.works.map V.str)) (fun j H' => j ≤ s.plans.length ∧ Same H2 H' ∧ H' D = some (.lst (gv j (fun k => decide (s.nm i ∈ s.wi k)) fun k => V.int (k : Nat)))) ⟨Nat.zero_le _, snew hD, upd_same⟩ ?_ ?_ ?_
      · rintro j H' _ ⟨_, e1, _⟩
        exact SqL.of (e1 _ _ R2.pl)
      · rintro j x H3 H4 hj ⟨_, e1, hLj⟩ ⟨t, u, y, rfl, ht, rfl, hu1, hy⟩
        rw [List.length_map, s.wlen] at hj
        cases hu1
        have hy2 : (s.works.map V.str)[j]? = some y := hy
        rw [List.getElem?_map, s.works_get hj] at hy2
        obtain rfl : y = V.str (s.wn j) := (Option.some.inj hy2).symm
        have e2 : Same H3 (upd H3 t (.tup [.int (j : Nat), .str (s.wn j)])) := snew ht
        have R3 := (R2.mono e1).mono e2
        obtain ⟨d, hd1, hd2, hd3⟩ := R3.wishOf O.wnd (s.mem_plans hj)
        have hg : DGet (upd H3 t (.tup [.int (j : Nat), .str (s.wn j)])) A.wi (.str (s.wn j)) (some (V.ref d)) := by
          rw [← hd2]
          exact DGet.k (k := Sum.inr (s.wn j)) R3.wi
        refine ⟨t, _, rfl, SqT.of upd_same, rfl, _, _, rfl, _, _, rfl, rfl, rfl, _, rfl, _, rfl, p, _, dx, _, _, rfl, e2 _ _ (e1 _ _ o2), T.cl_Chest, T.n_wished, fl_wished, _, rfl, A.wi, _, rfl, hg, d, _, rfl, DGet.k (k := Sum.inr (s.nm i)) hd3, _, rfl, ?_⟩
        rw [isSome_kvSet]
        refine ite2 (fun c => ?_) (fun c => ?_)
        · refine ⟨_, rfl, _, e2 _ _ hLj, sz_lt (by have := gv_len j (fun k => decide (s.nm i ∈ s.wi k)) fun k => V.int (k : Nat); omega), hj, smut (e1.trans e2) hD, ?_⟩
          rw [gv_yes (f := fun k => decide (s.nm i ∈ s.wi k)) c]
          exact upd_same
        · refine ⟨hj, e1.trans e2, ?_⟩
          rw [gv_no (f := fun k => decide (s.nm i ∈ s.wi k)) (eq_false_of_ne_true c)]
          exact e2 _ _ hLj
      · rintro H3 ⟨_, e1, hLD⟩
        rw [List.length_map, s.wlen] at hLD
        have nDl : D ∉ ([l] : List Addr) := fun m => by
          rw [List.mem_singleton.mp m, hL] at hD
          cases hD
        have e4 : Same (hide [l] H2) (hide [l] (upd H3 l (.lst (vec i (fun j => V.ref (bs j)) ++ [.ref D])))) := by
          rw [hide_upd (List.mem_singleton.mpr rfl)]
          exact hide_same e1
        refine ⟨l, _, _, rfl, rfl, e1 _ _ hL, sz_lt (by rw [vec_length]; omega), hi, ⟨_, rfl⟩, s1.trans e4, fun j => if j = i then D else bs j, ?_, fun j hj => ?_⟩
        · rw [upd_same, vec_succ]
          dsimp only
          rw [if_pos rfl]
          exact congrArg (fun z => some (HO.lst (z ++ [V.ref D]))) (vec_congr fun j hj => by rw [if_neg (by omega)])
        · dsimp only
          by_cases cj : j = i
          · subst cj
            rw [if_pos rfl, hide_upd (List.mem_singleton.mpr rfl), hide_out nDl]
            refine hLD.trans ?_
            unfold Ch.wf gv
            rfl
          · rw [if_neg cj]
            exact e4 _ _ (hB j (by omega))
    · rintro σ H1 ⟨_, ⟨v, rfl⟩, s1, bs, hL, hB⟩
      rw [List.length_map, s.nlen] at hL hB
      exact ⟨_, rfl, k l H1 (s1.trans (hide_le _ _)) nl ⟨bs, hL, fun i hi => hide_le _ _ _ _ (hB i hi)⟩⟩
end
end Ep
set_option Elab.async false
set_option linter.all false
set_option maxRecDepth 100000
set_option maxHeartbeats 4000000
/-! EpChestE: keep_whole, told_step. -/
namespace Ep
open PySem PySem.Spec PyProof.Rows L2
theorem bits_le {i : Int} {b : Nat} (h : i.natAbs < 2 ^ b) : Builtin.Int.intBits i ≤ b := by
  by_cases h0 : i = 0
  · subst h0
    exact Nat.zero_le _
  · have h1 : i.natAbs ≠ 0 := by omega
    have := (Nat.log2_lt h1).mpr h
    unfold Builtin.Int.intBits
    simp [h0]
    omega
section
variable {P : Program} {w : World} {K : PySem.W.Frag} {mg : Str → Option Value} {base : Heap}
theorem sc_keep : FnScope ["self", "left", "grains", "below", "name", "purse", "rest"] ["self", "left", "grains"] (defScope s_Chest_keep_whole) := ⟨rfl, rfl, rfl, by decide +kernel, rfl, by decide +kernel, by decide +kernel⟩
theorem ok_keep (T : Tx K mg) : Def P w K mg base CX0 1 (He.fAd K d_Chest_keep_whole.at_) ["self", "left", "grains"] (spKeep K) := by
  obtain ⟨fd, F⟩ := T.f_Chest_keep_whole
  refine ⟨fd, F.ok sc_keep (fun vs H Q E h => ?_) (fun cdv A outer s H vs Q E hr h => ?_), F.bindsN (fun _ _ _ _ _ _ us hl => match us, hl with | [_, _, _], _ => rfl), F.kp⟩
  · obtain ⟨_, _, _, _, _, _, _, rfl, _⟩ := h
    rfl
  · obtain ⟨H0, p, s, A, al, lf, G, rfl, R, O, hl, G0, G1, hb, k⟩ := h
    have hu := hu_of hr
    obtain ⟨dx, h1⟩ := R.obj
    have N := R.ne
    have hp6 := O.p6
    refine ⟨_, PSs.nox (pss_cons (ps_set (i := 3) sc_keep.nd rfl (.inl rfl) pe_int)
      (pss_cons (ps_for PassesOwn.never rfl (pi_zip (by rfl) T.z_zip (pa_cons (pe_fld (pv 0) rfl) (pa_cons (pv 1) pa_nil))) (pg_tup rfl (pgs_cons (pg_name (i := 4) sc_keep.nd rfl (.inl rfl)) (pgs_cons (pg_name (i := 5) sc_keep.nd rfl (.inl rfl)) pgs_nil)))
        (pss_cons (ps_asg (pe_callB call_divmodW (by rfl) T.z_divmod (by decide +kernel) (pa_cons (pv 5) (pa_cons (pv 2) pa_nil))) (pg_tup rfl (pgs_cons (pg_sub (pe_fld (pv 0) rfl) (pv 4) (set_dict hu)) (pgs_cons (pg_name (i := 6) sc_keep.nd rfl (.inl rfl)) pgs_nil))))
        (pss_one (ps_aug (i := 3) sc_keep.nd rfl (.inl rfl) (pv 6) ip_add))))
      (pss_one (ps_fldaug (pv 0) (pe_op op_fdivW (pv 3) (pv 2)) in_add)))), ?_⟩
    refine ⟨_, rfl, p, _, dx, _, _, rfl, h1, T.cl_Chest, T.n_people, fl_people, _, rfl, A.pe, al, _, _, rfl, SqL.of R.pe, SqL.of hl, ?_⟩
    have hb2 : ∀ i, i < s.people.length → CDivP (lf i) G := fun i hi => divp_ok G0 (by
      have q := hb i hi
      have e : (lf i).natAbs < 2 ^ 100 := by
        have e2 : ((lf i).natAbs : Int) = lf i := Int.natAbs_of_nonneg q.1
        have e3 : ((2 ^ 100 : Nat) : Int) = 2 ^ 100 := by decide
        omega
      exact Nat.le_trans (bits_le e) (by omega))
    refine for_it (walk_zip (K := K) (a := A.pe) (b := al) (xs := s.names.map V.str) (ys := vec s.people.length fun i => V.int (lf i)) (n := s.people.length) (by rw [List.length_map, s.nlen, vec_length, Nat.min_self]))
      (fun i σ H' => i ≤ s.people.length ∧ (∃ v1 v2 v3, σ = [some (.ref p), some (.ref al), some (.int G), some (.int (sumTo i fun j => lf j % G)), v1, v2, v3]) ∧ (∀ a o, H a = some o → a ≠ A.he → H' a = some o) ∧
        H' A.he = some (.dK (dl (fun q => q.1) (fun q => V.int q.2) (vec i (fun j => (s.nm j, lf j / G)) ++ s.people.drop i)))) ?_ ?_ ?_ ?_
    · exact ⟨Nat.zero_le _, ⟨none, none, none, rfl⟩, fun a o h _ => h, by rw [List.drop_zero]; exact R.he⟩
    · rintro i σ H' _ ⟨_, _, e1, _⟩
      exact ⟨SqL.of (e1 _ _ R.pe N.pe_he), SqL.of (e1 _ _ hl (ne_of hl R.he (by intro z; cases z)))⟩
    · rintro i x σ H1 H2 hi ⟨_, ⟨v1, v2, v3, rfl⟩, e1, e2⟩ ⟨t, u, y, rfl, ht, rfl, hu1, hy⟩
      have hu2 : (s.names.map V.str)[i]? = some u := hu1
      rw [List.getElem?_map, s.names_get hi] at hu2
      obtain rfl : u = V.str (s.nm i) := (Option.some.inj hu2).symm
      obtain rfl : y = V.int (lf i) := (vec_get_some hy).2
      have s2 : Same H1 (upd H1 t (.tup [.str (s.nm i), .int (lf i)])) := snew ht
      refine ⟨t, _, rfl, SqT.of upd_same, rfl, _, _, rfl, _, _, rfl, rfl, _, rfl, _, rfl, _, _, rfl, hb2 i hi, fun t2 nt2 => ?_⟩
      have s3 := snew (o := .tup [.int (lf i / G), .int (lf i % G)]) nt2
      have e3 := s3 _ _ (s2 _ _ e2)
      have o3 := s3 _ _ (s2 _ _ (e1 _ _ h1 N.p_he))
      have hlen : (vec i (fun j => (s.nm j, lf j / G)) ++ s.people.drop i).length = s.people.length := by rw [List.length_append, vec_length, List.length_drop]; omega
      refine ⟨t2, _, rfl, SqT.of upd_same, rfl, _, _, rfl, _, rfl, p, _, dx, _, _, rfl, o3, T.cl_Chest, T.n_held, fl_held, _, rfl, A.he, _, rfl, DPut.k (k := Sum.inr (s.nm i)) e3 (sz_lt (by rw [dl_length, hlen]; omega)), _, _, rfl, rfl, ?_⟩
      refine ⟨_, rfl, _, rfl, _, _, rfl, rfl, hi, ⟨some (.str (s.nm i)), some (.int (lf i)), some (.int (lf i % G)), ?_⟩, fun a o h n => ?_, ?_⟩
      · rw [sumTo_succ]; rfl
      · rw [upd_ne n]
        exact s3 _ _ (s2 _ _ (e1 _ _ h n))
      · rw [upd_same]
        have ed : s.people.drop i = (s.nm i, s.pu i) :: s.people.drop (i + 1) := by
          rw [List.drop_eq_getElem_cons hi]
          have q := s.people_get hi
          rw [List.getElem?_eq_getElem hi] at q
          rw [Option.some.inj q]
        rw [ed]
        -- the key stands at place i alone
        have n1 : s.nm i ∉ (vec i fun j => (s.nm j, lf j / G)).map (fun q => q.1) := fun m => by
          rw [vec_map] at m
          obtain ⟨j, hj, ej⟩ := vec_mem.mp m
          have := s.nm_inj O.pnd (by omega) hi ej
          omega
        have n2 : s.nm i ∉ (s.people.drop (i + 1)).map (fun q => q.1) := fun m => by
          rw [List.map_drop] at m
          obtain ⟨j, hj, ej⟩ := List.mem_iff_getElem.mp m
          have q1 : (List.drop (i + 1) (s.people.map fun q => q.1))[j]? = some (s.nm i) := by rw [List.getElem?_eq_getElem hj, ej]
          rw [List.getElem?_drop] at q1
          have := nd_ix O.pnd q1 (s.names_get hi)
          omega
        rw [putK_dl_old (kf := fun q : Str × Int => q.1) (vf := fun q => V.int q.2) _ (by rw [List.map_append, List.map_cons]; simp), dl_append]
        refine congrArg (fun l => some (HO.dK l)) ?_
        rw [vec_succ, List.append_assoc, dl_append]
        have a1 : dl (fun q : Str × Int => q.1) (fun q => if q.1 = s.nm i then V.int (lf i / G) else V.int q.2) (vec i fun j => (s.nm j, lf j / G)) = dl (fun q => q.1) (fun q => V.int q.2) (vec i fun j => (s.nm j, lf j / G)) :=
          dl_congr fun q hq => by rw [if_neg fun e => n1 (by rw [← e]; exact List.mem_map.mpr ⟨q, hq, rfl⟩)]
        have a2 : dl (fun q : Str × Int => q.1) (fun q => if q.1 = s.nm i then V.int (lf i / G) else V.int q.2) (s.people.drop (i + 1)) = dl (fun q => q.1) (fun q => V.int q.2) (s.people.drop (i + 1)) :=
          dl_congr fun q hq => by rw [if_neg fun e => n2 (by rw [← e]; exact List.mem_map.mpr ⟨q, hq, rfl⟩)]
        rw [a1]
        refine congrArg (dl (fun q => q.1) (fun q => V.int q.2) (vec i fun j => (s.nm j, lf j / G)) ++ ·) ?_
        show ((Sum.inr (s.nm i) : Key), if s.nm i = s.nm i then V.int (lf i / G) else V.int (s.pu i)) :: dl (fun q : Str × Int => q.1) (fun q => if q.1 = s.nm i then V.int (lf i / G) else V.int q.2) (s.people.drop (i + 1)) = _
        rw [a2, if_pos rfl]; rfl
    · rintro σ H1 ⟨_, ⟨v1, v2, v3, rfl⟩, e1, e2⟩
      rw [List.drop_length, List.append_nil] at e2
      have o1 := e1 _ _ h1 N.p_he
      have gb : G.natAbs < 2 ^ 50 := by
        have e3 : (2 : Nat) ^ 50 = 1125899906842624 := by decide
        omega
      refine ⟨_, rfl, p, _, dx, _, _, rfl, o1, T.cl_Chest, T.n_well, fl_well, _, rfl, _, rfl, _, _, rfl, rfl, wide_div G0 (b := 50) gb (by decide) (by decide), _, _, rfl, rfl, dx, _, o1, fl_few, ?_⟩
      have f : ∀ {a : Addr} {o : HO}, H a = some o → a ≠ A.he → a ≠ p → upd H1 p (.ins (cC K) dx (putF "well" (.int (s.well + (sumTo s.people.length fun i => lf i % G) / G)) (s.fl A))) a = some o := fun h n1 n2 => uk (e1 _ _ h n1) n2
      refine k _ A ⟨⟨⟨dx, upd_same⟩, ?_, ?_, f R.pl N.he_pl.symm N.p_pl.symm, f R.pr N.he_pr.symm N.p_pr.symm, f R.wi N.he_wi.symm N.p_wi.symm, R.ws, fun q hq => f (R.wish q hq) (N.d_he q hq) (N.d_p q hq)⟩, fun b o hb => ?_, R.new, R.nl, R.nd⟩
      · have en : (s.kept lf G).names = s.names := by
          show (vec s.people.length fun i => (s.nm i, lf i / G)).map (fun q => q.1) = s.names
          rw [vec_map, s.names_vec]
        rw [en]
        exact f R.pe N.pe_he N.p_pe.symm
      · exact uk e2 N.p_he.symm
      · exact f (R.base _ _ hb) (fun e => by rw [e, R.new _ in2] at hb; cases hb) (fun e => by rw [e, R.new _ in0] at hb; cases hb)
theorem sc_told : FnScope ["self", "step", "work", "level", "paid", "rows", "name", "part"] ["self", "step"] (defScope s_Chest_told_step) := ⟨rfl, rfl, rfl, by decide +kernel, rfl, by decide +kernel, by decide +kernel⟩
theorem ok_told (T : Tx K mg) : Def P w K mg base CX0 1 (He.fAd K d_Chest_told_step.at_) ["self", "step"] (spTold K) := by
  obtain ⟨fd, F⟩ := T.f_Chest_told_step
  refine ⟨fd, F.ok sc_told (fun vs H Q E h => ?_) (fun cdv A outer s H vs Q E hr h => ?_), F.bindsN (fun _ _ _ _ _ _ us hl => match us, hl with | [_, _], _ => rfl), F.kp⟩
  · obtain ⟨_, _, _, _, _, rfl, _⟩ := h
    rfl
  · obtain ⟨p, s, A, t, st, rfl, R, O, S, hk, k⟩ := h
    have hu := hu_of hr
    obtain ⟨dx, h1⟩ := R.obj
    have hp6 := O.p6
    obtain ⟨q, hq1, hq2⟩ := S
    refine ⟨_, PSs.nox (pss_cons (ps_asg (pv 1) (pg_tup rfl (pgs_cons (pg_name (i := 2) sc_told.nd rfl (.inl rfl)) (pgs_cons (pg_name (i := 3) sc_told.nd rfl (.inl rfl)) (pgs_cons (pg_name (i := 4) sc_told.nd rfl (.inl rfl)) pgs_nil)))))
      (pss_cons (ps_setLc (i := 5) (own := [("name", 6), ("part", 7)]) (g := gTup K 2 (gCons (gName 6) (gCons (gName 7) gNil))) (tt := tTest (tOp (rI0 fun i j => .bl (decide (j < i))) (tVar 7) (tC (.int 0)))) (te := tTup (tCons (tVar 6) (tCons (tVar 7) tNil))) rfl sc_told.nd rfl rfl (sw_true rfl rfl rfl (by decide +kernel))
        (pi_zip (by rfl) T.z_zip (pa_cons (pe_fld (pv 0) rfl) (pa_cons (pv 4) pa_nil))) (blkOk_by (N := ["self", "step", "work", "level", "paid", "rows", "name", "part"]) (sc := defScope s_Chest_told_step) (by decide +kernel))
        (fun _ _ _ _ _ => pg_tup (by rfl) (pgs_cons (pg_name (i := 6) sc_told.nd rfl (Or.inl rfl)) (pgs_cons (pg_name (i := 7) sc_told.nd rfl (Or.inl rfl)) pgs_nil)))
        (fun _ _ _ _ _ => pts_one (pt_cmpR op_gt (pv 7) pe_int (nomark _))) (fun _ _ _ _ _ => pe_tup (pa_cons (pv 6) (pa_cons (pv 7) pa_nil))))
      (pss_one (ps_ret (pe_tup (pa_cons (pe_ix ix_list (pe_fld (pv 0) rfl) (pv 2) (fun _ _ => rfl)) (pa_cons (pe_dget hu (pe_fld (pv 0) rfl) (pe_ix ix_list (pe_fld (pv 0) rfl) (pv 2) (fun _ _ => rfl)) (fun _ _ => rfl)) (pa_cons (pv 5) pa_nil)))))))), ?_⟩
    refine ⟨_, rfl, t, _, rfl, SqT.of hq1, rfl, _, _, rfl, _, _, rfl, _, _, rfl, rfl, ?_⟩
    refine ⟨_, rfl, p, _, dx, _, _, rfl, h1, T.cl_Chest, T.n_people, fl_people, _, rfl, A.pe, q, _, _, rfl, SqL.of R.pe, SqL.of hq2, fun D hD => ?_⟩
    refine lc_it (walk_zip (K := K) (a := A.pe) (b := q) (xs := s.names.map V.str) (ys := vec s.people.length fun i => V.int (st.paid i)) (n := s.people.length) (by rw [List.length_map, s.nlen, vec_length, Nat.min_self]))
      (fun i H' => i ≤ s.people.length ∧ Same H (hide [D] H') ∧ ∃ rs : List Addr, H' D = some (.lst (rs.map V.ref)) ∧ Each (fun r q => H r = none ∧ RowAt (hide [D] H') r q) rs (gv i (fun j => decide (0 < st.paid j)) fun j => (s.nm j, st.paid j))) ?_ ?_ ?_ ?_
    · exact ⟨Nat.zero_le _, hide_into (snew hD) fun a ha => (by rw [List.mem_singleton.mp ha]; exact hD), [], upd_same, Each.nil⟩
    · rintro i H' _ ⟨_, s1, _⟩
      exact ⟨SqL.of (hide_le _ _ _ _ (s1 _ _ R.pe)), SqL.of (hide_le _ _ _ _ (s1 _ _ hq2))⟩
    · rintro i x H1 H2 hi ⟨_, s1, rs, hL, hE⟩ ⟨u, v, y, rfl, ht, rfl, hu1, hy⟩
      have hu2 : (s.names.map V.str)[i]? = some v := hu1
      rw [List.getElem?_map, s.names_get hi] at hu2
      obtain rfl : v = V.str (s.nm i) := (Option.some.inj hu2).symm
      obtain rfl : y = V.int (st.paid i) := (vec_get_some hy).2
      have s2 : Same H1 (upd H1 u (.tup [.str (s.nm i), .int (st.paid i)])) := snew ht
      refine ⟨u, _, rfl, SqT.of upd_same, rfl, _, _, rfl, _, _, rfl, rfl, rfl, _, rfl, _, _, rfl, rfl, _, rfl, ?_⟩
      refine ite2 (fun c => ?_) (fun c => ?_)
      · refine ⟨_, rfl, _, rfl, (by show 2 ≤ sizeLine; decide), fun r nr => ?_⟩
        have s3 := snew (o := .tup [.str (s.nm i), .int (st.paid i)]) nr
        have hL3 := s3 _ _ (s2 _ _ hL)
        have nrD : r ∉ ([D] : List Addr) := fun m => by
          rw [List.mem_singleton.mp m, s2 _ _ hL] at nr
          cases nr
        have s4 : Same (hide [D] H1) (hide [D] (upd (upd (upd H1 u (.tup [.str (s.nm i), .int (st.paid i)])) r (.tup [.str (s.nm i), .int (st.paid i)])) D (.lst (rs.map V.ref ++ [.ref r])))) := by
          rw [hide_upd (List.mem_singleton.mpr rfl)]
          exact hide_same (s2.trans s3)
        have gl := gv_len i (fun j => decide (0 < st.paid j)) fun j => (s.nm j, st.paid j)
        refine ⟨_, hL3, sz_lt (by rw [List.length_map, hE.1]; omega), hi, s1.trans s4, rs ++ [r], ?_, ?_⟩
        · rw [upd_same, List.map_append]; rfl
        · rw [gv_yes (f := fun j => decide (0 < st.paid j)) c]
          refine Each.snoc (hE.mono fun _ _ _ _ z => ⟨z.1, s4 _ _ z.2⟩) ⟨s1.free ((hide_same s2).free (by rw [hide_out nrD]; exact nr)), ?_⟩
          show hide _ _ _ = _
          rw [hide_upd (List.mem_singleton.mpr rfl), hide_out nrD]
          exact upd_same
      · have s4 : Same (hide [D] H1) (hide [D] (upd H1 u (.tup [.str (s.nm i), .int (st.paid i)]))) := hide_same s2
        refine ⟨hi, s1.trans s4, rs, s2 _ _ hL, ?_⟩
        rw [gv_no (f := fun j => decide (0 < st.paid j)) (eq_false_of_ne_true c)]
        exact hE.mono fun _ _ _ _ z => ⟨z.1, s4 _ _ z.2⟩
    · rintro H1 ⟨_, s1, rs, hL, hE⟩
      have s2 := s1.trans (hide_le _ _)
      have R1 := R.mono s2
      have o1 := s2 _ _ h1
      have ix : atI (s.works.map V.str) (st.work : Int) = some (.str (s.wn st.work)) := atI_nat (by rw [List.getElem?_map, s.works_get hk]; rfl)
      have hv := R1.costOf O.wnd (s.mem_plans hk)
      have hg : DGet H1 A.pr (.str (s.wn st.work)) (some (V.int (s.co st.work))) := by
        rw [← hv]
        exact DGet.k (k := Sum.inr (s.wn st.work)) R1.pr
      refine ⟨_, rfl, p, _, dx, _, _, rfl, o1, T.cl_Chest, T.n_plans, fl_plans, _, rfl, A.pl, _, _, _, rfl, rfl, SqL.of R1.pl, ix, _, rfl, p, _, dx, _, _, rfl, o1, T.cl_Chest, T.n_prices, fl_prices, _, rfl, p, _, dx, _, _, rfl, o1, T.cl_Chest, T.n_plans, fl_plans, _, rfl, A.pl, _, _, _, rfl, rfl, SqL.of R1.pl, ix, A.pr, _, rfl, hg, _, rfl, (by show 3 ≤ sizeLine; decide), fun v nv => ?_⟩
      have s3 := snew (o := .tup [.str (s.wn st.work), .int (s.co st.work), .ref D]) nv
      exact k v _ (s2.trans s3) (s2.free nv) ⟨D, rs, newOf_of (s2.free nv) upd_same, newOf_of hD (s3 _ _ hL), hE.mono fun _ _ _ _ z => newOf_of z.1 (s3 _ _ (hide_le _ _ _ _ z.2))⟩
end
end Ep
set_option Elab.async false
set_option linter.all false
set_option maxRecDepth 100000
set_option maxHeartbeats 4000000
/-! EpClose: what a closing comes to, in plain data. -/
namespace Ep
open PySem PySem.Spec PyProof.Rows L2
theorem nodup_map_on {α β : Type} {f : α → β} : ∀ {l : List α}, l.Nodup → (∀ a, a ∈ l → ∀ b, b ∈ l → f a = f b → a = b) → (l.map f).Nodup
  | [], _, _ => List.nodup_nil
  | a :: r, h, inj => by
    obtain ⟨h1, h2⟩ := List.nodup_cons.mp h
    rw [List.map_cons]
    refine List.nodup_cons.mpr ⟨fun m => ?_, nodup_map_on h2 fun x hx y hy => inj x (List.mem_cons_of_mem _ hx) y (List.mem_cons_of_mem _ hy)⟩
    obtain ⟨b, hb, e⟩ := List.mem_map.mp m
    have := inj b (List.mem_cons_of_mem _ hb) a (List.mem_cons_self ..) e
    exact h1 (this ▸ hb)
theorem sumTo_single {n i : Nat} (c : Int) (h : i < n) : (sumTo n fun j => if j = i then c else 0) = c := by
  induction n with
  | zero => omega
  | succ n ih =>
    rw [sumTo_succ]
    by_cases e : n = i
    · subst e
      rw [if_pos rfl]
      have z : (sumTo n fun j => if j = n then c else 0) = 0 := by
        have q := sumTo_congr (n := n) (f := fun j => if j = n then c else 0) (g := fun _ => 0) fun j hj => by
          show (if j = n then c else 0) = 0
          rw [if_neg (by omega)]
        rw [q, sumTo_const, Int.mul_zero]
      rw [z, Int.zero_add]
    · rw [if_neg e, ih (by omega), Int.add_zero]
/-- sums change places -/
theorem sum_swap (n : Nat) (l : List Step) : (sumTo n fun i => (l.map fun s => s.paid i).sum) = (l.map fun s => sumTo n s.paid).sum := by
  induction l with
  | nil =>
    show (sumTo n fun _ => (0 : Int)) = 0
    rw [sumTo_const, Int.mul_zero]
  | cons a r ih =>
    have e : (sumTo n fun i => ((a :: r).map fun s => s.paid i).sum) = sumTo n fun i => a.paid i + (r.map fun s => s.paid i).sum := sumTo_congr fun i _ => by rw [List.map_cons, List.sum_cons]
    rw [e, sumTo_add, ih, List.map_cons, List.sum_cons]
theorem sum_map_mul (l : List Step) (f : Step → Int) (c : Int) : (l.map fun s => f s * c).sum = (l.map f).sum * c := by
  induction l with
  | nil => show (0 : Int) = 0 * c; rw [Int.zero_mul]
  | cons a r ih => rw [List.map_cons, List.sum_cons, List.map_cons, List.sum_cons, ih, Int.add_mul]
theorem sum_map_congr {α : Type} {l : List α} {f g : α → Int} (h : ∀ a, a ∈ l → f a = g a) : (l.map f).sum = (l.map g).sum := by rw [List.map_congr_left h]
theorem sum_map_nonneg {α : Type} {l : List α} {f : α → Int} (h : ∀ a, a ∈ l → 0 ≤ f a) : 0 ≤ (l.map f).sum := by
  induction l with
  | nil => exact Int.le_refl 0
  | cons a r ih =>
    rw [List.map_cons, List.sum_cons]
    have h1 := h a (List.mem_cons_self ..)
    have h2 := ih fun b hb => h b (List.mem_cons_of_mem _ hb)
    omega
def paidTo (told : List Done) (n : Str) : Int := (told.map fun d => ((d.rows.filter fun r => decide (r.1 = n)).map (·.2)).sum).sum
/-- what a closing comes to: the law's wish of it -/
structure CloseOk (s s' : Ch) (told : List Done) (G : Int) : Prop where
  ok : s'.Ok
  g1 : 1 ≤ G
  g2 : G ≤ 2799360000000
  names : s'.names = s.names
  gifts : s'.gifts = s.gifts
  plans : s'.plans = s.plans.filter fun q => decide (q.name ∉ told.map (·.name))
  nd : (told.map (·.name)).Nodup
  work : ∀ d, d ∈ told → ∃ q, q ∈ s.plans ∧ q.name = d.name ∧ q.cost = d.cost ∧ ∀ r, r ∈ d.rows → r.1 ∈ s.wanting q
  rnd : ∀ d, d ∈ told → (d.rows.map (·.1)).Nodup
  rpos : ∀ d, d ∈ told → ∀ r, r ∈ d.rows → 1 ≤ r.2
  rsum : ∀ d, d ∈ told → (d.rows.map (·.2)).sum = d.cost * G
  outlay : s'.outlay = s.outlay + (told.map (·.cost)).sum
  left : ∀ i, i < s.people.length → 0 ≤ s.pu i * G - paidTo told (s.nm i) ∧ s'.pu i = (s.pu i * G - paidTo told (s.nm i)) / G
  dear : ∀ q, q ∈ s'.plans → (sumTo s.people.length fun i => if decide (s.nm i ∈ s.wanting q) = true then s'.pu i else 0) < q.cost
def Ch.closed (s : Ch) (told : List Done) (lf : Nat → Int) (G : Int) : Ch :=
  ⟨vec s.people.length fun i => (s.nm i, lf i / G), s.plans.filter fun q => decide (q.name ∉ told.map (·.name)), s.well + (sumTo s.people.length fun i => lf i % G) / G, s.gifts, s.outlay + (told.map (·.cost)).sum⟩
theorem Ch.purses_sum (s : Ch) : s.purses = sumTo s.people.length s.pu := by
  unfold Ch.purses sumTo
  conv => lhs; rw [s.people_vec]
  rw [vec_map]
theorem Ch.pu_pos {s : Ch} (O : s.Ok) {i : Nat} (h : i < s.people.length) : 0 ≤ s.pu i := O.pos _ (s.mem_people h)
theorem Ch.pu_le {s : Ch} (O : s.Ok) {i : Nat} (h : i < s.people.length) : s.pu i ≤ s.gifts := by
  have q := le_sumTo (f := s.pu) (fun j hj => Ch.pu_pos O hj) h
  have e := O.sum
  rw [s.purses_sum] at e
  have := O.well
  have := O.out
  omega
theorem mem_wf {s : Ch} {i k : Nat} (h : wants s.wf i k = true) : k < s.plans.length ∧ s.nm i ∈ s.wi k := by
  have h2 : k ∈ (List.range s.plans.length).filter fun k => decide (s.nm i ∈ s.wi k) := of_decide_eq_true h
  obtain ⟨h3, h4⟩ := List.mem_filter.mp h2
  exact ⟨List.mem_range.mp h3, of_decide_eq_true h4⟩
theorem wants_of {s : Ch} {i k : Nat} (h1 : k < s.plans.length) (h2 : s.nm i ∈ s.wi k) : wants s.wf i k = true :=
  decide_eq_true (List.mem_filter.mpr ⟨List.mem_range.mpr h1, decide_eq_true h2⟩)
theorem Ch.mem_wanting (s : Ch) {q : Plan} {i : Nat} (h : i < s.people.length) : s.nm i ∈ s.wanting q ↔ s.nm i ∈ q.wish := by
  unfold Ch.wanting
  rw [List.mem_filter]
  constructor
  · exact fun z => of_decide_eq_true z.2
  · exact fun z => ⟨List.mem_of_getElem? (s.names_get h), decide_eq_true z⟩
/-- of each plan: its place -/
theorem Ch.place (s : Ch) {q : Plan} (h : q ∈ s.plans) : ∃ k, k < s.plans.length ∧ q = ⟨s.wn k, s.co k, s.wi k⟩ := by
  obtain ⟨k, hk, e⟩ := List.mem_iff_getElem.mp h
  have q2 := s.plans_get hk
  rw [List.getElem?_eq_getElem hk, e] at q2
  exact ⟨k, hk, Option.some.inj q2⟩
theorem close_ok {s : Ch} (O : s.Ok) {steps : List Step} {lf : Nat → Int} (E : ChE s.people.length s.plans.length (fun i => s.pu i * (gr s.people.length s.plans.length : Nat)) s.co s.wf steps lf) :
    CloseOk s (s.closed (steps.map s.done) lf (gr s.people.length s.plans.length : Nat)) (steps.map s.done) (gr s.people.length s.plans.length : Nat) := by
  obtain ⟨n, en⟩ : ∃ n, n = s.people.length := ⟨_, rfl⟩
  obtain ⟨m, em⟩ : ∃ m, m = s.plans.length := ⟨_, rfl⟩
  obtain ⟨G, eG⟩ : ∃ G : Int, G = (gr s.people.length s.plans.length : Nat) := ⟨_, rfl⟩
  have hn6 := O.p6
  have hm6 := O.w6
  have G1 : 1 ≤ G := by
    have := gr_pos s.people.length s.plans.length
    omega
  have G2 : G ≤ 2799360000000 := by
    have := gr_le hn6 hm6
    omega
  rw [← eG] at E ⊢
  have I := E.inv
  have price : ∀ k, priceF s.people.length s.plans.length s.co k = s.co k * G := fun k => by rw [eG]
  -- rows of a step
  have rsum : ∀ st, st ∈ steps → ((s.done st).rows.map (·.2)).sum = s.co st.work * G := fun st hs => by
    have e : ((s.done st).rows.map (·.2)) = gv s.people.length (fun i => decide (0 < st.paid i)) st.paid := gv_map ..
    rw [e]
    unfold gv
    rw [sumTo_filter, ← price, ← I.sum st hs]
    refine sumTo_congr fun i hi => ?_
    have := I.pos st hs i hi
    by_cases c : 0 < st.paid i
    · rw [if_pos (decide_eq_true c)]
    · rw [if_neg (by simp [c])]
      omega
  have nmInj : ∀ {i j : Nat}, i < s.people.length → j < s.people.length → s.nm i = s.nm j → i = j := fun hi hj e => s.nm_inj O.pnd hi hj e
  have paid1 : ∀ st, st ∈ steps → ∀ i, i < s.people.length → (((s.done st).rows.filter fun r => decide (r.1 = s.nm i)).map (·.2)).sum = st.paid i := fun st hs i hi => by
    have e : ((s.done st).rows.filter fun r => decide (r.1 = s.nm i)).map (·.2) = ((List.range s.people.length).filter fun j => decide (0 < st.paid j) && decide (s.nm j = s.nm i)).map st.paid := by
      show (((((List.range s.people.length).filter fun j => decide (0 < st.paid j)).map fun j => (s.nm j, st.paid j)).filter fun r => decide (r.1 = s.nm i)).map (·.2)) = _
      rw [List.filter_map, List.map_map, List.filter_filter]
      refine congrArg (List.map _) ?_
      refine List.filter_congr fun j _ => ?_
      exact Bool.and_comm ..
    rw [e, sumTo_filter, ← sumTo_single (st.paid i) hi]
    refine sumTo_congr fun j hj => ?_
    have p := I.pos st hs j hj
    by_cases c : j = i
    · subst c
      rw [if_pos (show j = j from rfl)]
      by_cases c2 : 0 < st.paid j
      · rw [if_pos (by simp [c2])]
      · rw [if_neg (by simp [c2])]
        omega
    · rw [if_neg c, if_neg (by
        intro h
        rw [Bool.and_eq_true] at h
        exact c (nmInj hj hi (of_decide_eq_true h.2)))]
  have paidAll : ∀ i, i < s.people.length → paidTo (steps.map s.done) (s.nm i) = (steps.map fun st => st.paid i).sum := fun i hi => by
    unfold paidTo
    rw [List.map_map]
    exact sum_map_congr fun st hs => paid1 st hs i hi
  have lfEq : ∀ i, i < s.people.length → lf i = s.pu i * G - paidTo (steps.map s.done) (s.nm i) := fun i hi => by
    rw [paidAll i hi]
    exact I.left_ i hi
  have enames : (s.closed (steps.map s.done) lf G).names = s.names := by
    show (vec s.people.length fun i => (s.nm i, lf i / G)).map (fun q => q.1) = s.names
    rw [vec_map, ← s.names_vec]
  have hlenp : (s.closed (steps.map s.done) lf G).people.length = s.people.length := vec_length ..
  have pu' : ∀ i, i < s.people.length → (s.closed (steps.map s.done) lf G).pu i = lf i / G := fun i hi => by
    unfold Ch.pu
    show (((vec s.people.length fun i => (s.nm i, lf i / G))[i]?).map (fun q => q.2)).getD 0 = _
    rw [vec_get hi]; rfl
  have tnames : (steps.map s.done).map (·.name) = steps.map fun st => s.wn st.work := by rw [List.map_map]; rfl
  have subP : ∀ q, q ∈ (s.closed (steps.map s.done) lf G).plans → q ∈ s.plans := fun q hq => (List.mem_filter.mp hq).1
  have cost1 : ∀ st, st ∈ steps → 1 ≤ s.co st.work := fun st hs => (O.cost _ (s.mem_plans (I.lt st hs))).1
  have tcost : ((steps.map s.done).map (·.cost)).sum = (steps.map fun st => s.co st.work).sum := by rw [List.map_map]; rfl
  -- the sum of what is left
  have sumL : sumTo s.people.length lf = (sumTo s.people.length s.pu - (steps.map fun st => s.co st.work).sum) * G := by
    have e1 : sumTo s.people.length lf = sumTo s.people.length fun i => s.pu i * G - (steps.map fun st => st.paid i).sum := sumTo_congr fun i hi => I.left_ i hi
    have e2 : (steps.map fun st => sumTo s.people.length st.paid).sum = (steps.map fun st => s.co st.work * G).sum := sum_map_congr fun st hs => by rw [I.sum st hs, price]
    rw [e1, sumTo_sub, sumTo_mul, sum_swap, e2, sum_map_mul, Int.sub_mul]
  have sumQ : sumTo s.people.length lf = (sumTo s.people.length fun i => lf i / G) * G + sumTo s.people.length fun i => lf i % G := by
    rw [← sumTo_mul, ← sumTo_add]
    exact sumTo_congr fun i _ => by
      have := Int.mul_ediv_add_emod (lf i) G
      rw [Int.mul_comm] at this
      omega
  have below : (sumTo s.people.length fun i => lf i % G) / G = sumTo s.people.length s.pu - (steps.map fun st => s.co st.work).sum - sumTo s.people.length fun i => lf i / G := by
    have e : (sumTo s.people.length fun i => lf i % G) = (sumTo s.people.length s.pu - (steps.map fun st => s.co st.work).sum - sumTo s.people.length fun i => lf i / G) * G := by
      rw [Int.sub_mul]
      omega
    rw [e]
    exact Int.mul_ediv_cancel _ (by omega)
  have below0 : 0 ≤ (sumTo s.people.length fun i => lf i % G) / G := Int.ediv_nonneg (sumTo_nonneg fun i _ => Int.emod_nonneg _ (by omega)) (by omega)
  have cs0 : 0 ≤ (steps.map fun st => s.co st.work).sum := sum_map_nonneg fun st hs => by have := cost1 st hs; omega
  refine
    { ok :=
        { p6 := by rw [hlenp]; exact hn6
          w6 := Nat.le_trans (List.length_filter_le _ _) hm6
          pnd := by rw [enames]; exact O.pnd
          wnd := by
            show ((s.plans.filter fun q => decide (q.name ∉ (steps.map s.done).map (·.name))).map (·.name)).Nodup
            exact List.Nodup.sublist (List.Sublist.map _ List.filter_sublist) O.wnd
          pok := by rw [enames]; exact O.pok
          wok := fun z hz => by
            obtain ⟨q, hq, e⟩ := List.mem_map.mp hz
            exact O.wok z (List.mem_map.mpr ⟨q, subP q hq, e⟩)
          pos := fun q hq => by
            obtain ⟨i, hi, e⟩ := vec_mem.mp (show q ∈ vec s.people.length fun i => (s.nm i, lf i / G) from hq)
            rw [← e]
            exact Int.ediv_nonneg (I.nonneg i hi) (by omega)
          cost := fun q hq => O.cost q (subP q hq)
          wish := fun q hq => by
            rw [enames]
            exact O.wish q (subP q hq)
          well := by
            show 0 ≤ s.well + _
            have := O.well
            omega
          out := by
            show 0 ≤ s.outlay + ((steps.map s.done).map (·.cost)).sum
            rw [tcost]
            have := O.out
            omega
          sum := ?_ }
      g1 := G1
      g2 := G2
      names := enames
      gifts := rfl
      plans := rfl
      nd := by
        rw [tnames]
        have e : (steps.map fun st => s.wn st.work) = (steps.map (·.work)).map s.wn := by rw [List.map_map]; rfl
        rw [e]
        have lt : ∀ k, k ∈ steps.map (·.work) → k < s.plans.length := fun k hk => by
          obtain ⟨st, hs, e⟩ := List.mem_map.mp hk
          rw [← e]
          exact I.lt st hs
        exact nodup_map_on I.nd fun a ha b hb e => s.wn_inj O.wnd (lt a ha) (lt b hb) e
      work := fun d hd => by
        obtain ⟨st, hs, rfl⟩ := List.mem_map.mp hd
        refine ⟨_, s.mem_plans (I.lt st hs), rfl, rfl, fun r hr => ?_⟩
        obtain ⟨i, hi, e⟩ := List.mem_map.mp (show r ∈ ((List.range s.people.length).filter fun i => decide (0 < st.paid i)).map fun i => (s.nm i, st.paid i) from hr)
        obtain ⟨h1, h2⟩ := List.mem_filter.mp hi
        rw [← e]
        exact (s.mem_wanting (List.mem_range.mp h1)).mpr (mem_wf (I.want st hs i (List.mem_range.mp h1) (of_decide_eq_true h2))).2
      rnd := fun d hd => by
        obtain ⟨st, hs, rfl⟩ := List.mem_map.mp hd
        have e : (s.done st).rows.map (·.1) = gv s.people.length (fun i => decide (0 < st.paid i)) s.nm := gv_map ..
        rw [e]
        refine nodup_map_on (nd_filter _ List.nodup_range) fun a ha b hb e => nmInj ?_ ?_ e
        · exact List.mem_range.mp (List.mem_filter.mp ha).1
        · exact List.mem_range.mp (List.mem_filter.mp hb).1
      rpos := fun d hd r hr => by
        obtain ⟨st, hs, rfl⟩ := List.mem_map.mp hd
        obtain ⟨i, hi, e⟩ := List.mem_map.mp (show r ∈ ((List.range s.people.length).filter fun i => decide (0 < st.paid i)).map fun i => (s.nm i, st.paid i) from hr)
        have := of_decide_eq_true (List.mem_filter.mp hi).2
        rw [← e]
        show 1 ≤ st.paid i
        omega
      rsum := fun d hd => by
        obtain ⟨st, hs, rfl⟩ := List.mem_map.mp hd
        exact rsum st hs
      outlay := rfl
      left := fun i hi => by
        rw [pu' i hi, ← lfEq i hi]
        exact ⟨I.nonneg i hi, rfl⟩
      dear := fun q hq => ?_ }
  · -- the coins
    show s.gifts = s.outlay + ((steps.map s.done).map (·.cost)).sum + (s.well + (sumTo s.people.length fun i => lf i % G) / G) + (s.closed (steps.map s.done) lf G).purses
    have ep : (s.closed (steps.map s.done) lf G).purses = sumTo s.people.length fun i => lf i / G := by
      unfold Ch.purses sumTo
      show ((vec s.people.length fun i => (s.nm i, lf i / G)).map (fun q => q.2)).sum = _
      rw [vec_map]
    have es := O.sum
    rw [s.purses_sum] at es
    rw [ep, tcost, below]
    omega
  · -- too dear
    obtain ⟨k, hk, rfl⟩ := s.place (subP q hq)
    have hnk : k ∉ steps.map (·.work) := fun mk => by
      have h2 := of_decide_eq_true (List.mem_filter.mp hq).2
      apply h2
      rw [tnames]
      obtain ⟨st, hs, e⟩ := List.mem_map.mp mk
      exact List.mem_map.mpr ⟨st, hs, by rw [e]⟩
    have f := E.fin k hk hnk
    rw [price] at f
    have le : (sumTo s.people.length fun i => if decide (s.nm i ∈ s.wanting ⟨s.wn k, s.co k, s.wi k⟩) = true then (s.closed (steps.map s.done) lf G).pu i else 0) * G ≤ sumTo s.people.length fun i => if wants s.wf i k = true then lf i else 0 := by
      rw [← sumTo_mul]
      refine sumTo_le fun i hi => ?_
      by_cases c : s.nm i ∈ s.wi k
      · rw [if_pos (decide_eq_true ((s.mem_wanting hi).mpr c)), if_pos (wants_of hk c), pu' i hi]
        exact Int.ediv_mul_le _ (by omega)
      · rw [if_neg (fun q => c ((s.mem_wanting hi).mp (of_decide_eq_true q))), if_neg (fun q => c (mem_wf q).2), Int.zero_mul]
        exact Int.le_refl 0
    exact Int.lt_of_mul_lt_mul_right (Int.lt_of_le_of_lt le f) (by omega)
/-- nobody, or nothing: nothing is done -/
theorem close_none {s : Ch} (O : s.Ok) (h : s.people = [] ∨ s.plans = []) : CloseOk s s [] 1 where
  ok := O
  g1 := by decide
  g2 := by decide
  names := rfl
  gifts := rfl
  plans := (filter_all fun q _ => decide_eq_true (by simp)).symm
  nd := List.nodup_nil
  work := fun d hd => by cases hd
  rnd := fun d hd => by cases hd
  rpos := fun d hd => by cases hd
  rsum := fun d hd => by cases hd
  outlay := by show s.outlay = s.outlay + 0; omega
  left := fun i hi => by
    have e : s.pu i * 1 - paidTo [] (s.nm i) = s.pu i := by
      show s.pu i * 1 - 0 = s.pu i
      omega
    rw [e, Int.ediv_one]
    exact ⟨Ch.pu_pos O hi, rfl⟩
  dear := fun q hq => by
    rcases h with h | h
    · have z : s.people.length = 0 := by rw [h]; rfl
      rw [z, sumTo_zero]
      have := (O.cost q hq).1
      omega
    · rw [h] at hq
      cases hq
end Ep
set_option Elab.async false
set_option linter.all false
set_option maxRecDepth 100000
set_option maxHeartbeats 4000000
/-! EpChestF: close. -/
namespace Ep
open PySem PySem.Spec PyProof.Rows L2
def fpC (p : Addr) (A : CA) : List Addr := p :: A.pe :: A.he :: A.pl :: A.pr :: A.wi :: A.ws.map (·.2)
/-- the base may be all but the chest -/
theorem ChestAt.wide {K : PySem.W.Frag} {H0 H : Hp} {p : Addr} {s : Ch} {A : CA} (h : ChestAt K H0 H p s A) : ChestAt K (hide (fpC p A) H) H p s A :=
  ⟨h.toChestR, hide_le _ _, fun _ ha => hide_in ha, h.nl, h.nd⟩
theorem ChestAt.narrow {K : PySem.W.Frag} {H0 H1 H : Hp} {p : Addr} {s : Ch} {A : CA} (h : ChestAt K H1 H p s A) (e : Same H0 H1) : ChestAt K H0 H p s A :=
  ⟨h.toChestR, e.trans h.base, fun a ha => e.free (h.new a ha), h.nl, h.nd⟩
theorem ChestAt.out {K : PySem.W.Frag} {H0 H : Hp} {p : Addr} {s : Ch} {A : CA} (h : ChestAt K H0 H p s A) {a : Addr} (n : H a = none) : a ∉ fpC p A := fun m => by
  obtain ⟨dx, h1⟩ := h.obj
  have m2 : a = p ∨ a = A.pe ∨ a = A.he ∨ a = A.pl ∨ a = A.pr ∨ a = A.wi ∨ a ∈ A.ws.map (·.2) := by
    unfold fpC at m
    simpa only [List.mem_cons] using m
  rcases m2 with e | e | e | e | e | e | e
  · rw [e, h1] at n; cases n
  · rw [e, h.pe] at n; cases n
  · rw [e, h.he] at n; cases n
  · rw [e, h.pl] at n; cases n
  · rw [e, h.pr] at n; cases n
  · rw [e, h.wi] at n; cases n
  · obtain ⟨q, hq, e2⟩ := List.mem_map.mp e
    rw [← e2, h.wish q hq] at n; cases n
/-- the outlay changes -/
theorem ChestAt.spend {K : PySem.W.Frag} {H0 H : Hp} {p : Addr} {s : Ch} {A : CA} (h : ChestAt K H0 H p s A) {dx : Addr} (z : Int) (o : H p = some (.ins (cC K) dx (s.fl A))) :
    ChestAt K H0 (upd H p (.ins (cC K) dx (putF "outlay" (.int z) (s.fl A)))) p { s with outlay := z } A := by
  have N := h.ne
  exact ⟨⟨⟨dx, upd_same⟩, uk h.pe N.p_pe.symm, uk h.he N.p_he.symm, uk h.pl N.p_pl.symm, uk h.pr N.p_pr.symm, uk h.wi N.p_wi.symm, h.ws, fun q hq => uk (h.wish q hq) (N.d_p q hq)⟩, h.mut h.base in0, h.new, h.nl, h.nd⟩
theorem newOf_upd {H H' : Hp} {a : Addr} {o : HO} (h : H a = none) : newOf H (upd H' a o) = upd (newOf H H') a o := by
  funext b
  by_cases c : b = a
  · subst c
    rw [upd_same]
    exact newOf_of h upd_same
  · rw [upd_ne c]
    unfold newOf
    rw [upd_ne c]
theorem eqv_nil (l : List Str) : PyData.eqv (.list (l.map PyData.str)) (.list []) = decide (l = []) := by
  cases l with
  | nil => rfl
  | cons a r => rfl
theorem shaped_nil : SeqAt.shaped (.list []) = true := by rfl
def spClose (K : PySem.W.Frag) : Sp := fun vs H Q _ => ∃ (H0 : Hp) (p : Addr) (s : Ch) (A : CA), vs = [.ref p] ∧ ChestAt K H0 H p s A ∧ s.Ok ∧ s.gifts ≤ 1000000000000 ∧
  ∀ u H' s' A' told G lt (ts : List Addr), ChestAt K H0 H' p s' A' → CloseOk s s' told G → H' u = some (.tup [.ref lt, .int G]) → H' lt = some (.lst (ts.map V.ref)) → Each (DoneAt H') ts told → Q (.ref u) H'
/-- behind some withdrawals -/
def Ch.less (s : Ch) (ds : List Done) : Ch := { s with plans := s.plans.filter (fun q => decide (q.name ∉ ds.map (·.name))), outlay := s.outlay + (ds.map (·.cost)).sum }
theorem less_step {s : Ch} {ds : List Done} {d : Done} : ({ s.less ds with outlay := (s.less ds).outlay + d.cost } : Ch).withdraw d.name = s.less (ds ++ [d]) := by
  unfold Ch.withdraw Ch.less
  have e1 : ((s.plans.filter fun q => decide (q.name ∉ ds.map (·.name))).filter fun q => decide (q.name ≠ d.name)) = s.plans.filter fun q => decide (q.name ∉ (ds ++ [d]).map (·.name)) := by
    rw [List.filter_filter]
    refine List.filter_congr fun q _ => ?_
    rw [List.map_append, ← Bool.decide_and]
    refine decide_eq_decide.mpr ?_
    simp only [List.map_cons, List.map_nil, List.mem_append, List.mem_singleton, not_or]
    exact and_comm
  have e2 : ((ds ++ [d]).map (·.cost)).sum = (ds.map (·.cost)).sum + d.cost := by rw [List.map_append]; exact sum_snoc _ _
  simp only [e1, e2, Int.add_assoc]
section
variable {P : Program} {w : World} {K : PySem.W.Frag} {mg : Str → Option Value} {base : Heap}
theorem sc_close : FnScope ["self", "grains", "purses", "steps", "told", "work", "cost", "rows", "name", "step"] ["self"] (defScope s_Chest_close) := ⟨rfl, rfl, rfl, by decide +kernel, rfl, by decide +kernel, by decide +kernel⟩
theorem ok_close (T : Tx K mg) : Def P w K mg base CX0 8 (He.fAd K d_Chest_close.at_) ["self"] (spClose K) := by
  obtain ⟨fd, F⟩ := T.f_Chest_close
  refine ⟨fd, F.ok sc_close (fun vs H Q E h => ?_) (fun cdv A outer s H vs Q E hr h => ?_), F.bindsN (fun _ _ _ _ _ _ us hl => match us, hl with | [_], _ => rfl), F.kp⟩
  · obtain ⟨_, _, _, _, rfl, _⟩ := h
    rfl
  · obtain ⟨H0, p, s, A, rfl, R, O, big, k⟩ := h
    have hu := hu_of hr
    have hu64 : _ + 64 < cLine := Nat.lt_trans (Nat.lt_succ_self _) (hu65 hr)
    obtain ⟨dx, h1⟩ := R.obj
    have hp6 := O.p6
    have hw6 := O.w6
    refine ⟨_, PSs.nox (pss_cons (ps_if (PW.pt (pw_or (pt_cmpR (op_eqD hu64) (pe_fld (pv 0) rfl) (pe_lst pa_nil) (nomark _)) (pw_or1 (pt_cmpR (op_eqD hu64) (pe_fld (pv 0) rfl) (pe_lst pa_nil) (nomark _))))) (pss_one (ps_ret (pe_tup (pa_cons (pe_lst pa_nil) (pa_cons pe_int pa_nil))))) pss_nil)
      (pss_cons (ps_set (i := 1) sc_close.nd rfl (.inr rfl) (pe_f (ok_grains T) hr pass0 T.g_grains_of (pa_cons (pe_callB call_len_seq (by rfl) T.z_len PySem.boot_len (pa_cons (pe_fld (pv 0) rfl) pa_nil)) (pa_cons (pe_callB call_len_seq (by rfl) T.z_len PySem.boot_len (pa_cons (pe_fld (pv 0) rfl) pa_nil)) pa_nil))))
      (pss_cons (ps_setLc (i := 2) (own := [("name", 8)]) (g := gName 8) (tt := tYes) (te := tOp (rI CMul fun i j => .int (i * j)) (tDGet (tFld K (tVar 0) "held") (tVar 8)) (tVar 1)) rfl sc_close.nd rfl rfl (sw_true rfl rfl rfl (by decide +kernel))
        (pi_list (pe_fld (pv 0) rfl)) (blkOk_by (N := ["self", "grains", "purses", "steps", "told", "work", "cost", "rows", "name", "step"]) (sc := defScope s_Chest_close) (by decide +kernel)) (fun _ _ _ _ _ => pg_name (i := 8) sc_close.nd rfl (Or.inl rfl)) (fun _ _ _ _ _ => pts_nil) (fun _ _ _ _ _ => pe_op op_mul (pe_dget hu (pe_fld (pv 0) rfl) (pv 8) (fun _ _ => rfl)) (pv 1)))
      (pss_cons (ps_set (i := 3) sc_close.nd rfl (.inl rfl) (pe_f (ok_choose T) hr pass0 T.g_choose (pa_cons (pv 2) (pa_cons
          (pe_lc (own := [("work", 5)]) (g := gName 5) (tt := tYes) (te := tDGet (tFld K (tVar 0) "prices") (tVar 5)) rfl sc_close.nd (pi_list (pe_fld (pv 0) rfl)) (blkOk_by (N := ["self", "grains", "purses", "steps", "told", "work", "cost", "rows", "name", "step"]) (sc := defScope s_Chest_close) (by decide +kernel)) (fun _ _ _ _ _ => pg_name (i := 5) sc_close.nd rfl (Or.inl rfl)) (fun _ _ _ _ _ => pts_nil) (fun _ _ _ _ _ => pe_dget hu (pe_fld (pv 0) rfl) (pv 5) (fun _ _ => rfl)))
          (pa_cons (pe_m0 (ok_wnow T) hr pass0 T.cl_Chest T.m_wishes_now (pv 0)) pa_nil)))))
      (pss_cons (ps_setLc (i := 4) (own := [("step", 9)]) (g := gName 9) (tt := tYes) (te := tMeth (cC K) "told_step" (spTold K) [] E0 (tVar 0) (tCons (tVar 9) tNil)) rfl sc_close.nd rfl rfl (sw_true rfl rfl rfl (by decide +kernel))
        (pi_list (pv 3)) (blkOk_by (N := ["self", "grains", "purses", "steps", "told", "work", "cost", "rows", "name", "step"]) (sc := defScope s_Chest_close) (by decide +kernel)) (fun _ _ _ _ _ => pg_name (i := 9) sc_close.nd rfl (Or.inl rfl)) (fun _ _ _ _ _ => pts_nil) (fun _ _ _ _ _ => pe_m (ok_told T) hr pass0 T.cl_Chest T.m_told_step (pv 0) (pa_cons (pv 9) pa_nil)))
      (pss_cons (ps_expr (pe_m (ok_keep T) hr pass0 T.cl_Chest T.m_keep_whole (pv 0) (pa_cons (pe_f (ok_left T) hr pass0 T.g_left_of (pa_cons (pv 2) (pa_cons (pv 3) pa_nil))) (pa_cons (pv 1) pa_nil))))
      (pss_cons (ps_for PassesOwn.never rfl (pi_list (pv 4)) (pg_tup rfl (pgs_cons (pg_name (i := 5) sc_close.nd rfl (.inl rfl)) (pgs_cons (pg_name (i := 6) sc_close.nd rfl (.inl rfl)) (pgs_cons (pg_name (i := 7) sc_close.nd rfl (.inl rfl)) pgs_nil))))
        (pss_cons (ps_fldaug (pv 0) (pv 6) in_add) (pss_one (ps_expr (pe_m (ok_withdraw T) hr pass0 T.cl_Chest T.m_withdraw (pv 0) (pa_cons (pv 5) pa_nil))))))
      (pss_one (ps_ret (pe_tup (pa_cons (pv 4) (pa_cons (pv 1) pa_nil)))))))))))), ?_⟩
    -- nobody, or nothing
    have stop : ∀ (Hx : Hp), Same H Hx → (s.people = [] ∨ s.plans = []) → (tRet (tTup (tCons (tLst tNil) (tCons (tC (.int 1)) tNil)))) { nx := fun _ H' => Q .non H', rt := Q } (start ["self", "grains", "purses", "steps", "told", "work", "cost", "rows", "name", "step"] [.ref p]) Hx := fun Hx sx hz => by
      refine ⟨Nat.zero_le _, fun lt nlt => ⟨(by show 2 ≤ sizeLine; decide), fun u nu => ?_⟩⟩
      have e1 := snew (o := .lst []) nlt
      have e2 := snew (o := .tup [.ref lt, .int 1]) nu
      exact k u _ s A [] 1 lt [] (R.mono ((sx.trans e1).trans e2)) (close_none O hz) upd_same (e2 _ _ upd_same) Each.nil
    refine ⟨_, rfl, p, _, dx, _, _, rfl, h1, T.cl_Chest, T.n_people, fl_people, Nat.zero_le _, fun n0 nn0 => ?_⟩
    have t0 := snew (o := .lst []) nn0
    refine ⟨.list (s.names.map .str), .list [], .lst (SqL.of (t0 _ _ R.pe)) (dpAll_str _), .lst (SqL.of upd_same) .nil, shaped_strs fun y hy => strOk_name (O.pok y hy), shaped_nil, _, rfl, ?_⟩
    rw [eqv_nil]
    by_cases cp : s.people = []
    · rw [decide_eq_true (show s.names = [] by unfold Ch.names; rw [cp]; rfl)]
      exact stop _ t0 (.inl cp)
    rw [decide_eq_false (show ¬ s.names = [] from fun e => cp (List.map_eq_nil_iff.mp e))]
    refine ⟨_, rfl, p, _, dx, _, _, rfl, t0 _ _ h1, T.cl_Chest, T.n_plans, fl_plans, Nat.zero_le _, fun n1 nn1 => ?_⟩
    have t1 := snew (o := .lst []) nn1
    refine ⟨.list (s.works.map .str), .list [], .lst (SqL.of (t1 _ _ (t0 _ _ R.pl))) (dpAll_str _), .lst (SqL.of upd_same) .nil, shaped_strs fun y hy => strOk_name (O.wok y hy), shaped_nil, _, rfl, ?_⟩
    rw [eqv_nil]
    by_cases cw : s.plans = []
    · rw [decide_eq_true (show s.works = [] by unfold Ch.works; rw [cw]; rfl)]
      exact stop _ (t0.trans t1) (.inr cw)
    rw [decide_eq_false (show ¬ s.works = [] from fun e => cw (List.map_eq_nil_iff.mp e))]
    have s1 : Same H (upd (upd H n0 (.lst [])) n1 (.lst [])) := t0.trans t1
    obtain ⟨H1, eH1⟩ : ∃ H1, H1 = upd (upd H n0 (.lst [])) n1 (.lst []) := ⟨_, rfl⟩
    rw [← eH1] at s1
    subst eH1
    have R1 := R.mono s1
    have o1 := s1 _ _ h1
    obtain ⟨G, eG⟩ : ∃ G : Int, G = (gr s.people.length s.plans.length : Nat) := ⟨_, rfl⟩
    have hG1 : 0 < G := by
      have := gr_pos s.people.length s.plans.length
      omega
    have hG2 : G ≤ 2799360000000 := by
      have := gr_le hp6 hw6
      omega
    -- grains
    refine ⟨_, rfl, p, _, dx, _, _, rfl, o1, T.cl_Chest, T.n_people, fl_people, A.pe, _, rfl, .inl (SqL.of R1.pe), _, rfl, p, _, dx, _, _, rfl, o1, T.cl_Chest, T.n_plans, fl_plans, A.pl, _, rfl, .inl (SqL.of R1.pl), s.people.length, s.plans.length, ?_, hp6, hw6, ?_⟩
    · show [V.int ((s.names.map V.str).length : Nat), V.int ((s.works.map V.str).length : Nat)] ++ [] = _
      rw [List.length_map, List.length_map, s.nlen, s.wlen]; rfl
    rw [← eG]
    -- purses
    have pub : ∀ i, i < s.people.length → 0 ≤ s.pu i ∧ s.pu i ≤ 1000000000000 := fun i hi => ⟨Ch.pu_pos O hi, Int.le_trans (Ch.pu_le O hi) big⟩
    refine ⟨_, rfl, p, _, dx, _, _, rfl, o1, T.cl_Chest, T.n_people, fl_people, A.pe, rfl, ⟨_, SqL.of R1.pe⟩, fun ap nap => ?_⟩
    refine lc_it (walk_list (K := K) (a := A.pe) (xs := s.names.map V.str)) (fun i H' => i ≤ s.people.length ∧ Same (upd (upd H n0 (.lst [])) n1 (.lst [])) H' ∧ H' ap = some (.lst (vec i fun j => V.int (s.pu j * G)))) ⟨Nat.zero_le _, snew nap, upd_same⟩ ?_ ?_ ?_
    · rintro i H' _ ⟨_, e1, _⟩
      exact SqL.of (e1 _ _ R1.pe)
    · rintro i x H2 H3 hi ⟨_, e1, hL⟩ ⟨rfl, hx⟩
      rw [List.length_map, s.nlen] at hi
      have hx2 : (s.names.map V.str)[i]? = some x := hx
      rw [List.getElem?_map, s.names_get hi] at hx2
      obtain rfl : x = V.str (s.nm i) := (Option.some.inj hx2).symm
      have R2 := R1.mono e1
      have hv := R2.heldOf O.pnd (s.mem_people hi)
      have hg : DGet H3 A.he (.str (s.nm i)) (some (V.int (s.pu i))) := by
        rw [← hv]
        exact DGet.k (k := Sum.inr (s.nm i)) R2.he
      have b := pub i hi
      refine ⟨rfl, _, rfl, p, _, dx, _, _, rfl, e1 _ _ o1, T.cl_Chest, T.n_held, fl_held, _, rfl, A.he, _, rfl, hg, _, rfl, _, _, rfl, rfl, .inl ⟨(by omega), (by omega)⟩, _, hL, sz_lt (by rw [vec_length]; omega), hi, smut e1 nap, ?_⟩
      rw [upd_same, vec_succ]
    rintro H2 ⟨_, e2, hP⟩
    rw [List.length_map, s.nlen] at hP
    have s2 := s1.trans e2
    have R2 := R.mono s2
    have o2 := s2 _ _ h1
    -- the prices' list
    refine ⟨_, rfl, _, rfl, p, _, dx, _, _, rfl, o2, T.cl_Chest, T.n_plans, fl_plans, A.pl, rfl, ⟨_, SqL.of R2.pl⟩, fun ac nac => ?_⟩
    refine lc_it (walk_list (K := K) (a := A.pl) (xs := s.works.map V.str)) (fun i H' => i ≤ s.plans.length ∧ Same H2 H' ∧ H' ac = some (.lst (vec i fun j => V.int (s.co j)))) ⟨Nat.zero_le _, snew nac, upd_same⟩ ?_ ?_ ?_
    · rintro i H' _ ⟨_, e1, _⟩
      exact SqL.of (e1 _ _ R2.pl)
    · rintro i x H3 H4 hi ⟨_, e1, hL⟩ ⟨rfl, hx⟩
      rw [List.length_map, s.wlen] at hi
      have hx2 : (s.works.map V.str)[i]? = some x := hx
      rw [List.getElem?_map, s.works_get hi] at hx2
      obtain rfl : x = V.str (s.wn i) := (Option.some.inj hx2).symm
      have R3 := R2.mono e1
      have hv := R3.costOf O.wnd (s.mem_plans hi)
      have hg : DGet H4 A.pr (.str (s.wn i)) (some (V.int (s.co i))) := by
        rw [← hv]
        exact DGet.k (k := Sum.inr (s.wn i)) R3.pr
      refine ⟨rfl, _, rfl, p, _, dx, _, _, rfl, e1 _ _ o2, T.cl_Chest, T.n_prices, fl_prices, _, rfl, A.pr, _, rfl, hg, _, hL, sz_lt (by rw [vec_length]; omega), hi, smut e1 nac, ?_⟩
      rw [upd_same, vec_succ]
    rintro H3 ⟨_, e3, hC⟩
    rw [List.length_map, s.wlen] at hC
    have s3 := s2.trans e3
    have R3 := R.mono s3
    -- the wishes
    refine ⟨_, rfl, p, dx, _, rfl, s3 _ _ h1, rfl, p, s, A, rfl, R3.toChestR, O, fun aw H4 e4 naw hW => ?_⟩
    have s4 := s3.trans e4
    have hGe : G = ((lcmTo s.people.length : Nat) : Int) ^ (s.plans.length + 1) := by
      rw [eG]
      unfold gr
      rw [Int.natCast_pow]
    -- the choosing
    refine ⟨ap, ac, aw, s.people.length, s.plans.length, fun i => s.pu i * G, s.co, s.wf, rfl, ⟨e4 _ _ (e3 _ _ hP), e4 _ _ hC, hW, hp6, hw6, fun k hk => ?_⟩, ⟨fun i hi => ⟨Int.mul_nonneg (pub i hi).1 (by omega), ?_⟩, fun k hk => ?_⟩, ?_⟩
    · have : 1 ≤ s.co k ∧ s.co k ≤ 1000000000 := O.cost _ (s.mem_plans hk)
      exact ⟨by omega, this.2⟩
    · rw [hGe]
      exact Int.dvd_mul_left _ _
    · have : 1 ≤ s.co k := (O.cost _ (s.mem_plans hk)).1
      show 0 < s.co k
      omega
    intro st H5 steps lf e5 nst hSt CE
    have s5 := s4.trans e5
    have R5 := R.mono s5
    obtain ⟨ts, hts, hE⟩ := id hSt
    have I := CE.inv
    have slen := I.len
    -- told
    refine ⟨_, rfl, st, rfl, ⟨_, SqL.of hts⟩, fun lt nlt => ?_⟩
    refine lc_it (walk_list (K := K) (a := st) (xs := ts.map V.ref)) (fun i H' => i ≤ steps.length ∧ Same H5 (hide [lt] H') ∧ ∃ us : List Addr, H' lt = some (.lst (us.map V.ref)) ∧ Each (DoneAt (hide [lt] (newOf H5 H'))) us ((steps.map s.done).take i)) ?_ ?_ ?_ ?_
    · exact ⟨Nat.zero_le _, hide_into (snew nlt) fun a ha => (by rw [List.mem_singleton.mp ha]; exact nlt), [], upd_same, Each.nil⟩
    · rintro i H' _ ⟨_, e1, _⟩
      exact SqL.of (hide_le _ _ _ _ (e1 _ _ hts))
    · rintro i x H6 H7 hi ⟨_, e1, us, hL, hD⟩ ⟨rfl, hx⟩
      rw [List.length_map] at hi
      have hx2 : (ts.map V.ref)[i]? = some x := hx
      rw [List.getElem?_map, List.getElem?_eq_getElem hi] at hx2
      obtain rfl : x = V.ref ts[i] := (Option.some.inj hx2).symm
      obtain ⟨sp, hsp, hS⟩ := hE.left (List.getElem?_eq_getElem hi)
      have hi2 : i < steps.length := by rw [← hE.1]; exact hi
      have le := hide_le [lt] H7
      have R7 := (R5.mono e1).mono le
      refine ⟨rfl, _, rfl, p, dx, _, rfl, le _ _ (e1 _ _ (s5 _ _ h1)), rfl, _, rfl, p, s, A, ts[i], sp, rfl, R7.toChestR, O, (hS.mono e1).mono le, I.lt sp (List.mem_of_getElem? hsp), fun u H8 e8 nu hU => ?_⟩
      have nD : ∀ {a : Addr}, H7 a = none → a ∉ ([lt] : List Addr) := fun h m => by
        rw [List.mem_singleton.mp m, hL] at h
        cases h
      have e9 : Same (hide [lt] H7) (hide [lt] (upd H8 lt (.lst (us.map V.ref ++ [.ref u])))) := by
        rw [hide_upd (List.mem_singleton.mpr rfl)]
        exact hide_same e8
      have e57 : Same H5 H7 := e1.trans le
      have e10 : Same (hide [lt] (newOf H5 H7)) (hide [lt] (newOf H5 (upd H8 lt (.lst (us.map V.ref ++ [.ref u]))))) := by
        rw [newOf_upd nlt, hide_upd (List.mem_singleton.mpr rfl)]
        exact hide_same (newOf_mono e8)
      refine ⟨_, e8 _ _ hL, sz_lt (by rw [List.length_map, hD.1, List.length_take, List.length_map]; omega), hi2, e1.trans e9, us ++ [u], ?_, ?_⟩
      · rw [upd_same, List.map_append]; rfl
      · rw [List.take_add_one, List.getElem?_map, hsp]
        refine Each.snoc (hD.mono fun _ _ _ _ z => z.mono e10) ?_
        rw [newOf_upd nlt, hide_upd (List.mem_singleton.mpr rfl)]
        refine hU.mono fun a o q => ?_
        obtain ⟨q1, q2⟩ := newOf_none q
        rw [hide_out (nD q1)]
        exact newOf_of (e57.free q1) q2
    rintro H6 ⟨_, e6, us, hL, hD⟩
    rw [List.length_map, hE.1, ← List.length_map (f := s.done) (as := steps), List.take_length] at hD
    have s6 := s5.trans (e6.trans (hide_le _ _))
    have R6 := R.mono s6
    have e56 := e6.trans (hide_le _ _)
    -- the base: all but the chest
    have W := R6.wide
    have ltO : lt ∉ fpC p A := R5.out nlt
    have inB : Same (hide [lt] (newOf H5 H6)) (hide (fpC p A) H6) := fun a o q => by
      obtain ⟨_, q2⟩ := hide_some q
      obtain ⟨q3, q4⟩ := newOf_none q2
      rw [hide_out (R5.out q3)]
      exact q4
    have hTold : Each (DoneAt (hide (fpC p A) H6)) us (steps.map s.done) := hD.mono fun _ _ _ _ z => z.mono inB
    have hLt : hide (fpC p A) H6 lt = some (.lst (us.map V.ref)) := by
      rw [hide_out ltO]
      exact hL
    have hP6 : LV H6 ap s.people.length fun i => s.pu i * G := e56 _ _ (e5 _ _ (e4 _ _ (e3 _ _ hP)))
    have C0 : CloseOk s (s.closed (steps.map s.done) lf G) (steps.map s.done) G := by
      subst eG
      exact close_ok O CE
    -- keep_whole(left_of(purses, steps), grains)
    refine ⟨_, rfl, p, dx, _, rfl, s6 _ _ h1, rfl, _, rfl, _, rfl, ap, st, s.people.length, _, steps, rfl, hP6, hSt.mono e56, hp6, fun al H7 e7 nal hAl => ?_⟩
    have hAl2 : LV H7 al s.people.length lf := by
      refine Eq.trans hAl ?_
      exact congrArg (fun l => some (HO.lst l)) (vec_congr fun i hi => by rw [I.left_ i hi])
    refine ⟨_, rfl, hide (fpC p A) H6, p, s, A, al, lf, G, rfl, W.mono e7, O, hAl2, hG1, hG2, fun i hi => ⟨I.nonneg i hi, ?_⟩, fun H8 A8 C8 => ?_⟩
    · have b := pub i hi
      have l := I.left_ i hi
      have z : 0 ≤ (steps.map fun s => s.paid i).sum := sum_map_nonneg fun st hs => I.pos st hs i hi
      have u : s.pu i * G ≤ 1000000000000 * 2799360000000 := Int.mul_le_mul b.2 hG2 (by omega) (by omega)
      have t : (1000000000000 : Int) * 2799360000000 < 2 ^ 100 := by decide
      omega
    -- the works done go
    have tw : ∀ d, d ∈ steps.map s.done → d.name ∈ s.works := fun d hd => by
      obtain ⟨q, hq, e, _⟩ := C0.work d hd
      rw [← e]
      exact List.mem_map.mpr ⟨q, hq, rfl⟩
    refine ⟨_, rfl, lt, rfl, ⟨_, SqL.of (C8.base _ _ hLt)⟩, ?_⟩
    refine for_it (walk_list (K := K) (a := lt) (xs := us.map V.ref)) (fun i σ H' => i ≤ us.length ∧ (∃ v1 v2 v3, σ = [some (.ref p), some (.int G), some (.ref ap), some (.ref st), some (.ref lt), v1, v2, v3, none, none]) ∧ ∃ A', ChestAt K (hide (fpC p A) H6) H' p ((s.kept lf G).less ((steps.map s.done).take i)) A') ?_ ?_ ?_ ?_
    · refine ⟨Nat.zero_le _, ⟨none, none, none, rfl⟩, A8, ?_⟩
      have e : (s.kept lf G).less ((steps.map s.done).take 0) = s.kept lf G := by
        unfold Ch.less
        have e1 : (s.kept lf G).plans.filter (fun q => decide (q.name ∉ (List.take 0 (steps.map s.done)).map (·.name))) = (s.kept lf G).plans := filter_all fun q _ => decide_eq_true (by simp)
        have e2 : (s.kept lf G).outlay + ((List.take 0 (steps.map s.done)).map (·.cost)).sum = (s.kept lf G).outlay := by
          show (s.kept lf G).outlay + 0 = _
          rw [Int.add_zero]
        rw [e1, e2]
      rw [e]
      exact C8
    · rintro i σ H' _ ⟨_, _, A', C⟩
      exact SqL.of (C.base _ _ hLt)
    · rintro i x σ H9 H10 hi ⟨_, ⟨v1, v2, v3, rfl⟩, A', C⟩ ⟨rfl, hx⟩
      rw [List.length_map] at hi
      have hx2 : (us.map V.ref)[i]? = some x := hx
      rw [List.getElem?_map, List.getElem?_eq_getElem hi] at hx2
      obtain rfl : x = V.ref us[i] := (Option.some.inj hx2).symm
      obtain ⟨d, hd, l, rs, d1, d2, d3⟩ := hTold.left (List.getElem?_eq_getElem hi)
      have md : d ∈ steps.map s.done := List.mem_of_getElem? hd
      obtain ⟨dy, oy⟩ := C.obj
      refine ⟨us[i], _, rfl, SqT.of (C.base _ _ d1), rfl, _, _, rfl, _, _, rfl, _, _, rfl, rfl, ?_⟩
      refine ⟨_, rfl, p, _, dy, _, _, rfl, oy, T.cl_Chest, T.n_outlay, fl_outlay, _, rfl, _, _, rfl, rfl, dy, _, oy, fl_few, ?_⟩
      have C2 := C.spend (((s.kept lf G).less ((steps.map s.done).take i)).outlay + d.cost) oy
      have ndI : d.name ∉ ((steps.map s.done).take i).map (·.name) := fun m => by
        rw [List.map_take] at m
        obtain ⟨j, hj, ej⟩ := List.mem_iff_getElem.mp m
        rw [List.length_take] at hj
        have a1 : ((steps.map s.done).map (·.name))[j]? = some d.name := by
          have : (((steps.map s.done).map (·.name)).take i)[j]? = some d.name := by rw [List.getElem?_eq_getElem (by rw [List.length_take]; exact hj), ej]
          rw [List.getElem?_take_of_lt (by omega)] at this
          exact this
        have a2 : ((steps.map s.done).map (·.name))[i]? = some d.name := by rw [List.getElem?_map, hd]; rfl
        have := nd_ix C0.nd a1 a2
        omega
      refine ⟨_, rfl, p, dy, _, rfl, upd_same, rfl, _, rfl, _, p, _, A', d.name, rfl, C2, ⟨?_, fun z hz => ?_⟩, ?_, fun H11 A11 C11 => ?_⟩
      · show ((s.plans.filter fun q => decide (q.name ∉ ((steps.map s.done).take i).map (·.name))).map (·.name)).Nodup
        exact List.Nodup.sublist (List.Sublist.map _ List.filter_sublist) O.wnd
      · obtain ⟨q, hq, e⟩ := List.mem_map.mp hz
        exact O.wok z (List.mem_map.mpr ⟨q, (List.mem_filter.mp hq).1, e⟩)
      · obtain ⟨q, hq, e⟩ := List.mem_map.mp (tw d md)
        refine List.mem_map.mpr ⟨q, List.mem_filter.mpr ⟨hq, decide_eq_true ?_⟩, e⟩
        rw [e]
        exact ndI
      · refine ⟨hi, ⟨_, _, _, rfl⟩, A11, ?_⟩
        rw [less_step] at C11
        rw [List.take_add_one, hd]
        exact C11
    · rintro σ H9 ⟨_, ⟨v1, v2, v3, rfl⟩, A', C⟩
      rw [List.length_map, hTold.1, List.take_length] at C
      have eC : (s.kept lf G).less (steps.map s.done) = s.closed (steps.map s.done) lf G := rfl
      rw [eC] at C
      refine ⟨_, rfl, _, rfl, (by show 2 ≤ sizeLine; decide), fun u nu => ?_⟩
      have eu := snew (o := .tup [.ref lt, .int G]) nu
      have base0 : Same H0 (hide (fpC p A) H6) := hide_into (R.base.trans s6) fun a ha => R.new a ha
      exact k u _ _ A' (steps.map s.done) G lt us ((C.mono eu).narrow base0) C0 upd_same (eu _ _ (C.base _ _ hLt)) (hTold.mono fun _ _ _ _ z => z.mono (C.base.trans eu))
end
end Ep
set_option Elab.async false
set_option linter.all false
set_option maxRecDepth 100000
set_option maxHeartbeats 4000000
/-! EpText: the texts told, and how they are read back. -/
namespace Ep
open PySem PySem.Spec PyProof.Rows L2
open TL (tl numL spl joinL)
def numS (i : Int) : Str := Str.ofString (toString i)
theorem tl_numS (n : Nat) : tl (numS (n : Int)) = numL n := TL.tl_num n
theorem tl_numI {i : Int} (h : 0 ≤ i) : tl (numS i) = numL i.toNat := by
  obtain ⟨n, rfl⟩ := Int.eq_ofNat_of_zero_le h
  exact tl_numS n
theorem tl_lit (s : String) : tl (Str.ofString s) = s.toList.map Char.toNat := TL.tl_ofString s
theorem tl_sp : tl (" " : Str) = [32] := by rw [tl_lit]; rfl
theorem tl_cs : tl (", " : Str) = [44, 32] := by rw [tl_lit]; rfl
theorem tl_co : tl (": " : Str) = [58, 32] := by rw [tl_lit]; rfl
theorem tl_sc : tl ("; " : Str) = [59, 32] := by rw [tl_lit]; rfl
theorem tl_pl : tl ("+" : Str) = [43] := by rw [tl_lit]; rfl
theorem tl_mi : tl ("-" : Str) = [45] := by rw [tl_lit]; rfl
theorem tl_of : tl (" of " : Str) = [32, 111, 102, 32] := by rw [tl_lit]; rfl
theorem tl_o : tl ("of" : Str) = [111, 102] := by rw [tl_lit]; rfl
theorem tl_none : tl ("none" : Str) = [110, 111, 110, 101] := by rw [tl_lit]; rfl
theorem tl_em : tl ("" : Str) = [] := by rw [tl_lit]; rfl
/-! ### the texts -/
def rowT (r : Str × Int) : Str := r.1 ++ " " ++ numS r.2
def rowsT (rs : List (Str × Int)) : Str := Txt.join ", " (rs.map rowT)
def headT (n : Str) (c : Int) : Str := n ++ " " ++ numS c
def partT (d : Done) : Str := headT d.name d.cost ++ ": " ++ rowsT d.rows
def partsT (told : List Done) : Str := Txt.join "; " (told.map partT)
def closeT (told : List Done) (G : Int) : Str := if told = [] then "none" else partsT told ++ " of " ++ numS G
def namesT (l : List Str) : Str := if l = [] then "-" else Txt.join "+" l
def workT (q : Str × Int × List Str) : Str := headT q.1 q.2.1 ++ " " ++ namesT q.2.2
def worksT (qs : List (Str × Int × List Str)) : Str := if qs = [] then "none" else Txt.join ", " (qs.map workT)
/-! ### joined -/
theorem tl_joinS (y : Str) (parts : List Str) : tl (Txt.join y parts) = joinL (tl y) (parts.map tl) := by
  rw [TL.join_eq, TL.tl_join]
theorem join2 (y a b : Str) : Txt.join y [a, b] = a ++ y ++ b := by
  refine TL.ext_tl ?_
  rw [tl_joinS, TL.tl_append, TL.tl_append]
  show tl a ++ (tl y ++ tl b) = _
  rw [List.append_assoc]
theorem join3 (y a b c : Str) : Txt.join y [a, b, c] = a ++ y ++ b ++ y ++ c := by
  refine TL.ext_tl ?_
  rw [tl_joinS, TL.tl_append, TL.tl_append, TL.tl_append, TL.tl_append]
  show tl a ++ (tl y ++ (tl b ++ (tl y ++ tl c))) = _
  simp only [List.append_assoc]
theorem joinL_len (S : List Nat) : ∀ l : List (List Nat), (joinL S l).length ≤ (l.map (·.length)).sum + l.length * S.length
  | [] => Nat.zero_le _
  | [p] => by
    show p.length ≤ ([p].map (·.length)).sum + 1 * S.length
    simp
  | p :: q :: r => by
    have ih := joinL_len S (q :: r)
    show (p ++ (S ++ joinL S (q :: r))).length ≤ _
    rw [List.length_append, List.length_append, List.map_cons, List.sum_cons, List.length_cons (a := p), Nat.add_mul, Nat.one_mul]
    omega
theorem joinL_mem {S : List Nat} {c : Nat} : ∀ {l : List (List Nat)}, c ∈ joinL S l → c ∈ S ∨ ∃ p, p ∈ l ∧ c ∈ p
  | [], h => by cases h
  | [p], h => .inr ⟨p, List.mem_cons_self .., h⟩
  | p :: q :: r, h => by
    have h2 : c ∈ p ++ (S ++ joinL S (q :: r)) := h
    rcases List.mem_append.mp h2 with h | h
    · exact .inr ⟨p, List.mem_cons_self .., h⟩
    · rcases List.mem_append.mp h with h | h
      · exact .inl h
      · rcases joinL_mem h with h | ⟨x, h1, h2⟩
        · exact .inl h
        · exact .inr ⟨x, List.mem_cons_of_mem _ h1, h2⟩
theorem join_no {c : Nat} {y : Str} {parts : List Str} (h1 : c ∉ tl y) (h2 : ∀ p, p ∈ parts → c ∉ tl p) : c ∉ tl (Txt.join y parts) := fun h => by
  rw [tl_joinS] at h
  rcases joinL_mem h with h | ⟨p, hp, h⟩
  · exact h1 h
  · obtain ⟨z, hz, rfl⟩ := List.mem_map.mp hp
    exact h2 z hz h
theorem len_cat (a b : Str) : (a ++ b).length = a.length + b.length := by rw [TL.len_tl, TL.tl_append, List.length_append, ← TL.len_tl, ← TL.len_tl]
theorem len_join_le {y : Str} {parts : List Str} {k : Nat} (h : ∀ p, p ∈ parts → p.length ≤ k) : (Txt.join y parts).length ≤ parts.length * (k + y.length) := by
  rw [TL.len_tl, tl_joinS]
  refine Nat.le_trans (joinL_len _ _) ?_
  rw [List.length_map, ← TL.len_tl, Nat.mul_add]
  have : ((parts.map tl).map (·.length)).sum ≤ parts.length * k := by
    clear y
    induction parts with
    | nil => simp
    | cons a r ih =>
      have h1 := h a (List.mem_cons_self ..)
      have h2 := ih fun p hp => h p (List.mem_cons_of_mem _ hp)
      rw [List.map_cons, List.map_cons, List.sum_cons, List.length_cons, Nat.add_mul, Nat.one_mul, ← TL.len_tl]
      omega
  omega
theorem sum_len_le {parts : List Str} {k : Nat} (h : ∀ p, p ∈ parts → p.length ≤ k) : (parts.map (·.length)).sum ≤ parts.length * k := by
  induction parts with
  | nil => simp
  | cons a r ih =>
    have h1 := h a (List.mem_cons_self ..)
    have h2 := ih fun p hp => h p (List.mem_cons_of_mem _ hp)
    rw [List.map_cons, List.sum_cons, List.length_cons, Nat.add_mul, Nat.one_mul]
    omega
/-! ### signs -/
theorem name_no {z : Str} (h : NameOk z) {c : Nat} (hc : c < 97) : c ∉ tl z := fun m => by
  have := h.2.2 c m
  omega
theorem num_no {i : Int} (h : 0 ≤ i) {c : Nat} (hc : c < 48 ∨ 57 < c) : c ∉ tl (numS i) := by
  rw [tl_numI h]
  exact TL.numL_free hc
theorem name_len {z : Str} (h : NameOk z) : z.length ≤ 8 := by rw [TL.len_tl]; exact h.2.1
theorem num_len {i : Int} (h : 0 ≤ i) {k : Nat} (hk : 0 < k) (h2 : i < 10 ^ k) : (numS i).length ≤ k := by
  obtain ⟨n, rfl⟩ := Int.eq_ofNat_of_zero_le h
  rw [TL.len_tl, tl_numS]
  refine TL.numL_len hk ?_
  have e : ((10 : Int) ^ k) = ((10 ^ k : Nat) : Int) := (Int.natCast_pow 10 k).symm
  rw [e] at h2
  exact Int.ofNat_lt.mp h2
theorem log_ok {i : Int} (h : 0 ≤ i) (h2 : i < 10 ^ 30) : i.natAbs.log2 < 1920 := by
  have e : i.natAbs < 2 ^ 100 := by
    have : (10 : Int) ^ 30 = 1000000000000000000000000000000 := by decide
    have : (2 : Nat) ^ 100 = 1267650600228229401496703205376 := by decide
    omega
  by_cases h0 : i.natAbs = 0
  · rw [h0]; decide
  · have := (Nat.log2_lt h0).mpr e
    omega
/-- a number's first sign is 0 in 0 alone -/
theorem numL_head : ∀ {n : Nat}, 1 ≤ n → ∃ c r, numL n = c :: r ∧ c ≠ 48 := by
  intro n
  induction n using Nat.strongRecOn with
  | _ n ih =>
    intro h1
    by_cases h : n < 10
    · exact ⟨48 + n, [], TL.numL_lt h, by omega⟩
    · obtain ⟨c, r, e, hc⟩ := ih (n / 10) (by omega) (by omega)
      exact ⟨c, r ++ [48 + n % 10], by rw [TL.numL_step (by omega), e]; rfl, hc⟩
theorem num_ne {i : Int} (h : 0 ≤ i) : numS i ≠ "" := fun e => by
  have := congrArg tl e
  rw [tl_numI h, tl_em] at this
  exact TL.numL_ne _ this
/-- its first sign, its length -/
theorem num_first {i : Int} (h : 0 ≤ i) : ∃ c r, tl (numS i) = c :: r ∧ (c = 48 → r = []) := by
  rw [tl_numI h]
  by_cases h1 : 1 ≤ i.toNat
  · obtain ⟨c, r, e, hc⟩ := numL_head h1
    exact ⟨c, r, e, fun q => absurd q hc⟩
  · have : i.toNat = 0 := by omega
    rw [this]
    exact ⟨48, [], TL.numL_lt (by decide), fun _ => rfl⟩
theorem num_int {i : Int} (h : 0 ≤ i) (h2 : i < 10 ^ 30) : PySem.intText? (numS i) = some i ∧ (numS i).length ≤ 640 := by
  have hl := num_len h (by decide) h2
  obtain ⟨n, rfl⟩ := Int.eq_ofNat_of_zero_le h
  refine ⟨TL.int_num ?_, by omega⟩
  rw [TL.len_tl, tl_numS] at hl
  omega
theorem num_digit {i : Int} (h : 0 ≤ i) {c : Nat} (hc : c ∈ tl (numS i)) : 48 ≤ c ∧ c ≤ 57 := by
  rw [tl_numI h] at hc
  exact TL.numL_digits _ c hc
/-! ### read back -/
theorem all256 {y : Str} (h : ∀ c, c ∈ tl y → c < 256) : y.cps.all (· < 256) = true := by
  rw [← Array.all_toList]
  exact List.all_eq_true.mpr fun c hc => decide_eq_true (h c hc)
theorem split_sp {parts : List Str} (hne : parts ≠ []) (h : ∀ p, p ∈ parts → 32 ∉ tl p) : Txt.split (Txt.join " " parts) " " = parts :=
  TL.split_join tl_sp (all256 fun c hc => by rw [tl_sp] at hc; simp at hc; omega) hne h
theorem split_cs {parts : List Str} (hne : parts ≠ []) (h : ∀ p, p ∈ parts → 44 ∉ tl p) : Txt.split (Txt.join ", " parts) ", " = parts :=
  TL.split_join tl_cs (all256 fun c hc => by rw [tl_cs] at hc; simp at hc; omega) hne h
theorem split_co {parts : List Str} (hne : parts ≠ []) (h : ∀ p, p ∈ parts → 58 ∉ tl p) : Txt.split (Txt.join ": " parts) ": " = parts :=
  TL.split_join tl_co (all256 fun c hc => by rw [tl_co] at hc; simp at hc; omega) hne h
theorem split_sc {parts : List Str} (hne : parts ≠ []) (h : ∀ p, p ∈ parts → 59 ∉ tl p) : Txt.split (Txt.join "; " parts) "; " = parts :=
  TL.split_join tl_sc (all256 fun c hc => by rw [tl_sc] at hc; simp at hc; omega) hne h
theorem split_pl {parts : List Str} (hne : parts ≠ []) (h : ∀ p, p ∈ parts → 43 ∉ tl p) : Txt.split (Txt.join "+" parts) "+" = parts :=
  TL.split_join tl_pl (all256 fun c hc => by rw [tl_pl] at hc; simp at hc; omega) hne h
/-- one sign as the separator -/
theorem spl1_ne (s : Nat) : ∀ (a acc : List Nat), spl [s] 0 acc a ≠ []
  | [], acc => by rw [TL.spl_nil]; simp
  | c :: r, acc => by
    by_cases h : TL.pre [s] (c :: r) = true
    · rw [TL.spl_hit h]; simp
    · rw [TL.spl_miss (eq_false_of_ne_true h)]
      exact spl1_ne s r _
theorem pre1 (s c : Nat) (r : List Nat) : TL.pre [s] (c :: r) = decide (c = s) := by
  by_cases h : c = s
  · subst h
    rw [decide_eq_true rfl]
    exact TL.pre_self [c] r
  · rw [decide_eq_false h]
    exact TL.pre_of_head [] r h
theorem spl1_app (s : Nat) : ∀ (a acc b : List Nat), spl [s] 0 acc (a ++ s :: b) = spl [s] 0 acc a ++ spl [s] 0 [] b
  | [], acc, b => by
    rw [List.nil_append, TL.spl_hit (by rw [pre1]; exact decide_eq_true rfl), TL.spl_nil]; rfl
  | c :: r, acc, b => by
    rw [List.cons_append]
    by_cases h : c = s
    · rw [TL.spl_hit (by rw [pre1]; exact decide_eq_true h), TL.spl_hit (by rw [pre1]; exact decide_eq_true h)]
      show acc :: spl [s] 0 [] (r ++ s :: b) = acc :: spl [s] 0 [] r ++ spl [s] 0 [] b
      rw [spl1_app s r [] b]; rfl
    · rw [TL.spl_miss (by rw [pre1]; exact decide_eq_false h), TL.spl_miss (by rw [pre1]; exact decide_eq_false h), spl1_app s r _ b]
theorem join_spl1 (s : Nat) : ∀ (a acc : List Nat), joinL [s] (spl [s] 0 acc a) = acc ++ a
  | [], acc => by rw [TL.spl_nil, List.append_nil]; rfl
  | c :: r, acc => by
    by_cases h : c = s
    · rw [TL.spl_hit (by rw [pre1]; exact decide_eq_true h)]
      show joinL [s] (acc :: spl [s] 0 [] r) = _
      have ih := join_spl1 s r []
      cases e : spl [s] 0 [] r with
      | nil => exact absurd e (spl1_ne s r [])
      | cons x xs =>
        rw [e] at ih
        show acc ++ ([s] ++ joinL [s] (x :: xs)) = _
        rw [ih, h]; rfl
    · rw [TL.spl_miss (by rw [pre1]; exact decide_eq_false h), join_spl1 s r, List.append_assoc]; rfl
theorem spl1_len (s : Nat) : ∀ (a acc : List Nat), (spl [s] 0 acc a).length = a.count s + 1
  | [], acc => by rw [TL.spl_nil]; rfl
  | c :: r, acc => by
    by_cases h : c = s
    · rw [TL.spl_hit (by rw [pre1]; exact decide_eq_true h), List.length_cons]
      show (spl [s] 0 [] r).length + 1 = _
      rw [spl1_len s r, h, List.count_cons_self]
    · rw [TL.spl_miss (by rw [pre1]; exact decide_eq_false h), spl1_len s r, List.count_cons_of_ne h]
theorem split_list {x : Str} : (Txt.split x " ").map tl = spl [32] 0 [] (tl x) := by
  have e := TL.split_spl x " " (by rw [tl_sp]; simp) (TL.kind_ok (all256 fun c hc => by rw [tl_sp] at hc; simp at hc; omega))
  rw [tl_sp] at e
  exact e
/-- the words of a text, " of ", a word -/
theorem split_of {x g : Str} (hg : 32 ∉ tl g) : Txt.split (x ++ " of " ++ g) " " = Txt.split x " " ++ ([("of" : Str), g] : List Str) := by
  refine TL.map_tl_inj ?_
  rw [List.map_append, split_list, split_list, TL.tl_append, TL.tl_append, tl_of]
  have e : tl x ++ [32, 111, 102, 32] ++ tl g = tl x ++ 32 :: ([111, 102] ++ 32 :: tl g) := by simp
  rw [e, spl1_app, spl1_app]
  refine congrArg (_ ++ ·) ?_
  have e1 : spl [32] 0 [] [111, 102] = [[111, 102]] := TL.spl_last1 (by decide)
  have e2 : spl [32] 0 [] (tl g) = [tl g] := TL.spl_last1 hg
  rw [e1, e2]
  show [[111, 102]] ++ [tl g] = [tl ("of" : Str), tl g]
  rw [tl_o]; rfl
theorem join_split (x : Str) : Txt.join " " (Txt.split x " ") = x := by
  refine TL.ext_tl ?_
  rw [tl_joinS, split_list, tl_sp, join_spl1, List.nil_append]
theorem split_len (x : Str) : (Txt.split x " ").length = (tl x).count 32 + 1 := by
  rw [← List.length_map (f := tl), split_list, spl1_len]
/-! ### the parts -/
theorem head_sp {n : Str} {c : Int} : headT n c = Txt.join " " [n, numS c] := (join2 ..).symm
theorem row_sp (r : Str × Int) : rowT r = Txt.join " " [r.1, numS r.2] := (join2 ..).symm
theorem work_sp (q : Str × Int × List Str) : workT q = Txt.join " " [q.1, numS q.2.1, namesT q.2.2] := (join3 ..).symm
theorem part_co (d : Done) : partT d = Txt.join ": " [headT d.name d.cost, rowsT d.rows] := (join2 ..).symm
theorem row_split {r : Str × Int} (h : NameOk r.1) (h2 : 0 ≤ r.2) : Txt.split (rowT r) " " = [r.1, numS r.2] := by
  rw [row_sp]
  refine split_sp (by simp) fun p hp => ?_
  have hp2 : p = r.1 ∨ p = numS r.2 := by simpa using hp
  rcases hp2 with rfl | rfl
  · exact name_no h (by decide)
  · exact num_no h2 (by decide)
theorem names_no {l : List Str} (h : ∀ n, n ∈ l → NameOk n) {c : Nat} (hc : c < 97) (h1 : c ≠ 45) (h2 : c ≠ 43) : c ∉ tl (namesT l) := by
  unfold namesT
  by_cases e : l = []
  · rw [if_pos e, tl_mi]
    simp [h1]
  · rw [if_neg e]
    exact join_no (by rw [tl_pl]; simp [h2]) fun p hp => name_no (h p hp) hc
theorem work_split {q : Str × Int × List Str} (h : NameOk q.1) (h2 : 0 ≤ q.2.1) (h3 : ∀ n, n ∈ q.2.2 → NameOk n) : Txt.split (workT q) " " = [q.1, numS q.2.1, namesT q.2.2] := by
  rw [work_sp]
  refine split_sp (by simp) fun p hp => ?_
  have hp2 : p = q.1 ∨ p = numS q.2.1 ∨ p = namesT q.2.2 := by simpa using hp
  rcases hp2 with rfl | rfl | rfl
  · exact name_no h (by decide)
  · exact num_no h2 (by decide)
  · exact names_no h3 (by decide) (by decide) (by decide)
theorem cat_no {c : Nat} {a b : Str} (h1 : c ∉ tl a) (h2 : c ∉ tl b) : c ∉ tl (a ++ b) := by
  rw [TL.tl_append]
  intro h
  rcases List.mem_append.mp h with h | h
  · exact h1 h
  · exact h2 h
theorem head_no {n : Str} {c : Int} (h : NameOk n) (h2 : 0 ≤ c) {x : Nat} (hx : x < 97) (h3 : x < 48 ∨ 57 < x) (h4 : x ≠ 32) : x ∉ tl (headT n c) :=
  cat_no (cat_no (name_no h hx) (by rw [tl_sp]; simp [h4])) (num_no h2 h3)
theorem row_no {r : Str × Int} (h : NameOk r.1) (h2 : 0 ≤ r.2) {x : Nat} (hx : x < 97) (h3 : x < 48 ∨ 57 < x) (h4 : x ≠ 32) : x ∉ tl (rowT r) := head_no h h2 hx h3 h4
theorem rows_no {rs : List (Str × Int)} (h : ∀ r, r ∈ rs → NameOk r.1 ∧ 0 ≤ r.2) {x : Nat} (hx : x < 97) (h3 : x < 48 ∨ 57 < x) (h4 : x ≠ 32) (h5 : x ≠ 44) : x ∉ tl (rowsT rs) := by
  refine join_no (by rw [tl_cs]; simp [h4, h5]) fun p hp => ?_
  obtain ⟨r, hr, rfl⟩ := List.mem_map.mp hp
  exact row_no (h r hr).1 (h r hr).2 hx h3 h4
theorem rows_split {rs : List (Str × Int)} (hne : rs ≠ []) (h : ∀ r, r ∈ rs → NameOk r.1 ∧ 0 ≤ r.2) : Txt.split (rowsT rs) ", " = rs.map rowT := by
  refine split_cs (fun e => hne (List.map_eq_nil_iff.mp e)) fun p hp => ?_
  obtain ⟨r, hr, rfl⟩ := List.mem_map.mp hp
  exact row_no (h r hr).1 (h r hr).2 (by decide) (by decide) (by decide)
theorem part_split {d : Done} (hn : NameOk d.name) (hc : 0 ≤ d.cost) (h : ∀ r, r ∈ d.rows → NameOk r.1 ∧ 0 ≤ r.2) : Txt.split (partT d) ": " = [headT d.name d.cost, rowsT d.rows] := by
  rw [part_co]
  refine split_co (by simp) fun p hp => ?_
  have hp2 : p = headT d.name d.cost ∨ p = rowsT d.rows := by simpa using hp
  rcases hp2 with rfl | rfl
  · exact head_no hn hc (by decide) (by decide) (by decide)
  · exact rows_no h (by decide) (by decide) (by decide) (by decide)
theorem part_no {d : Done} (hn : NameOk d.name) (hc : 0 ≤ d.cost) (h : ∀ r, r ∈ d.rows → NameOk r.1 ∧ 0 ≤ r.2) : 59 ∉ tl (partT d) :=
  cat_no (cat_no (head_no hn hc (by decide) (by decide) (by decide)) (by rw [tl_co]; decide)) (rows_no h (by decide) (by decide) (by decide) (by decide))
theorem parts_split {told : List Done} (hne : told ≠ []) (h : ∀ d, d ∈ told → NameOk d.name ∧ 0 ≤ d.cost ∧ ∀ r, r ∈ d.rows → NameOk r.1 ∧ 0 ≤ r.2) : Txt.split (partsT told) "; " = told.map partT := by
  refine split_sc (fun e => hne (List.map_eq_nil_iff.mp e)) fun p hp => ?_
  obtain ⟨d, hd, rfl⟩ := List.mem_map.mp hp
  obtain ⟨h1, h2, h3⟩ := h d hd
  exact part_no h1 h2 h3
theorem works_split {qs : List (Str × Int × List Str)} (hne : qs ≠ []) (h : ∀ q, q ∈ qs → NameOk q.1 ∧ 0 ≤ q.2.1 ∧ ∀ n, n ∈ q.2.2 → NameOk n) : Txt.split (Txt.join ", " (qs.map workT)) ", " = qs.map workT := by
  refine split_cs (fun e => hne (List.map_eq_nil_iff.mp e)) fun p hp => ?_
  obtain ⟨q, hq, rfl⟩ := List.mem_map.mp hp
  obtain ⟨h1, h2, h3⟩ := h q hq
  exact cat_no (cat_no (head_no h1 h2 (by decide) (by decide) (by decide)) (by rw [tl_sp]; decide)) (names_no h3 (by decide) (by decide) (by decide))
/-- three blanks at least -/
theorem parts_words {told : List Done} (hne : told ≠ []) (h : ∀ d, d ∈ told → d.rows ≠ []) : 4 ≤ (Txt.split (partsT told) " ").length := by
  rw [split_len]
  cases told with
  | nil => exact absurd rfl hne
  | cons d r =>
    have hd := h d (List.mem_cons_self ..)
    have e : ∃ t, tl (partsT (d :: r)) = tl (partT d) ++ t := by
      unfold partsT
      rw [tl_joinS]
      cases r with
      | nil => exact ⟨[], (List.append_nil _).symm⟩
      | cons d2 r => exact ⟨_, rfl⟩
    obtain ⟨t, e⟩ := e
    have e2 : ∃ t2, tl (rowsT d.rows) = tl d.rows.head!.1 ++ [32] ++ t2 := by
      unfold rowsT
      rw [tl_joinS]
      cases e3 : d.rows with
      | nil => exact absurd e3 hd
      | cons a l =>
        have er : tl (rowT a) = tl a.1 ++ [32] ++ tl (numS a.2) := by
          unfold rowT
          rw [TL.tl_append, TL.tl_append, tl_sp]
        cases l with
        | nil => exact ⟨tl (numS a.2), er⟩
        | cons b l =>
          refine ⟨tl (numS a.2) ++ (tl (", " : Str) ++ joinL (tl (", " : Str)) (tl (rowT b) :: (l.map rowT).map tl)), ?_⟩
          show tl (rowT a) ++ _ = _
          rw [er, List.append_assoc (tl a.1 ++ [32])]; rfl
    obtain ⟨t2, e2⟩ := e2
    rw [e, List.count_append]
    have e4 : tl (partT d) = tl d.name ++ [32] ++ tl (numS d.cost) ++ [58, 32] ++ (tl d.rows.head!.1 ++ [32] ++ t2) := by
      unfold partT headT
      rw [TL.tl_append, TL.tl_append, TL.tl_append, TL.tl_append, tl_sp, tl_co, e2]
    rw [e4]
    simp only [List.count_append]
    have c1 : List.count 32 ([32] : List Nat) = 1 := by decide
    have c2 : List.count 32 ([58, 32] : List Nat) = 1 := by decide
    omega
/-- two heads alike: the same name -/
theorem head_inj {n m : Str} {a b : Int} (hn : NameOk n) (hm : NameOk m) (ha : 0 ≤ a) (hb : 0 ≤ b) (e : headT n a = headT m b) : n = m ∧ numS a = numS b := by
  have e1 : Txt.split (headT n a) " " = [n, numS a] := row_split (r := (n, a)) hn ha
  have e2 : Txt.split (headT m b) " " = [m, numS b] := row_split (r := (m, b)) hm hb
  rw [e, e2] at e1
  injection e1 with h1 h2
  injection h2 with h2 _
  exact ⟨h1.symm, h2.symm⟩
/-! ### lengths -/
theorem head_len {n : Str} {c : Int} (h : NameOk n) (h2 : 0 ≤ c) (h3 : c < 10 ^ 30) : (headT n c).length ≤ 39 := by
  have e1 := name_len h
  have e2 := num_len h2 (by decide) h3
  have e3 : (" " : Str).length = 1 := by rw [TL.len_tl, tl_sp]; rfl
  unfold headT
  rw [len_cat, len_cat]
  omega
theorem rows_len {rs : List (Str × Int)} (h : ∀ r, r ∈ rs → NameOk r.1 ∧ 0 ≤ r.2 ∧ r.2 < 10 ^ 30) (h6 : rs.length ≤ 6) : (rowsT rs).length ≤ 250 := by
  have e3 : (", " : Str).length = 2 := by rw [TL.len_tl, tl_cs]; rfl
  have q := len_join_le (y := ", ") (parts := rs.map rowT) (k := 39) fun p hp => by
    obtain ⟨r, hr, rfl⟩ := List.mem_map.mp hp
    obtain ⟨h1, h2, h3⟩ := h r hr
    exact head_len h1 h2 h3
  rw [List.length_map, e3] at q
  have : rs.length * (39 + 2) ≤ 6 * 41 := Nat.mul_le_mul_right _ h6
  unfold rowsT
  omega
theorem part_len {d : Done} (hn : NameOk d.name) (hc : 0 ≤ d.cost) (hc2 : d.cost < 10 ^ 30) (h : ∀ r, r ∈ d.rows → NameOk r.1 ∧ 0 ≤ r.2 ∧ r.2 < 10 ^ 30) (h6 : d.rows.length ≤ 6) : (partT d).length ≤ 300 := by
  have e1 := head_len hn hc hc2
  have e2 := rows_len h h6
  have e3 : (": " : Str).length = 2 := by rw [TL.len_tl, tl_co]; rfl
  unfold partT
  rw [len_cat, len_cat]
  omega
theorem parts_len {told : List Done} (h : ∀ d, d ∈ told → (partT d).length ≤ 300) (h6 : told.length ≤ 6) : (partsT told).length ≤ 2000 := by
  have e3 : ("; " : Str).length = 2 := by rw [TL.len_tl, tl_sc]; rfl
  have q := len_join_le (y := "; ") (parts := told.map partT) (k := 300) fun p hp => by
    obtain ⟨d, hd, rfl⟩ := List.mem_map.mp hp
    exact h d hd
  rw [List.length_map, e3] at q
  have : told.length * (300 + 2) ≤ 6 * 302 := Nat.mul_le_mul_right _ h6
  unfold partsT
  omega
theorem namesT_len {l : List Str} (h : ∀ n, n ∈ l → NameOk n) (h6 : l.length ≤ 6) : (namesT l).length ≤ 60 := by
  unfold namesT
  by_cases e : l = []
  · rw [if_pos e, TL.len_tl, tl_mi]; decide
  · rw [if_neg e]
    have e3 : ("+" : Str).length = 1 := by rw [TL.len_tl, tl_pl]; rfl
    have q := len_join_le (y := "+") (parts := l) (k := 8) fun p hp => name_len (h p hp)
    rw [e3] at q
    have : l.length * (8 + 1) ≤ 6 * 9 := Nat.mul_le_mul_right _ h6
    omega
theorem work_len {q : Str × Int × List Str} (h : NameOk q.1) (h2 : 0 ≤ q.2.1) (h3 : q.2.1 < 10 ^ 30) (h4 : ∀ n, n ∈ q.2.2 → NameOk n) (h6 : q.2.2.length ≤ 6) : (workT q).length ≤ 110 := by
  have e1 := head_len h h2 h3
  have e2 := namesT_len h4 h6
  have e3 : (" " : Str).length = 1 := by rw [TL.len_tl, tl_sp]; rfl
  unfold workT
  rw [len_cat, len_cat]
  omega
end Ep
set_option Elab.async false
set_option linter.all false
set_option maxRecDepth 100000
set_option maxHeartbeats 4000000
/-! EpDeskA: a row read. -/
namespace Ep
open PySem PySem.Spec PyProof.Rows L2
open TL (tl numL)
def spReadWords : Sp := fun vs H Q _ => ∃ z : Str, vs = [.str z] ∧ z.length ≤ 10000 ∧ ("" : Str) ∉ Txt.split z " " ∧ ∀ p, H p = none → Q (.ref p) (upd H p (.lst ((Txt.split z " ").map V.str)))
def spReadNum : Sp := fun vs H Q _ => ∃ i : Int, vs = [.str (numS i)] ∧ 0 ≤ i ∧ i < 10 ^ 13 ∧ Q (.int i) H
def optS : Option Str → V
  | none => .non
  | some x => .str x
def formOf (z : Str) : Option Str :=
  if z ∈ (["enrol", "leave", "withdraw", "purse"] : List Str) then some "t" else if z ∈ (["want", "unwant"] : List Str) then some "tt" else
  if z = "propose" then some "tn" else if z = "give" then some "n" else if z ∈ (["close", "pot", "given", "spent", "works"] : List Str) then some "" else none
def spForm : Sp := fun vs H Q _ => ∃ z : Str, vs = [.str z] ∧ ∀ H', Same H H' → Q (optS (formOf z)) H'
/-- what a word of a sort is read as -/
def ThingOk (c : Nat) (r : Str) (v : V) : Prop := (c = 110 ∧ ∃ k : Int, r = numS k ∧ v = .int k ∧ 0 ≤ k ∧ k < 10 ^ 13) ∨ (c ≠ 110 ∧ v = .str r)
def spThings : Sp := fun vs H Q _ => ∃ (a : Addr) (word : Str) (rest : List Str) (f : Str) (things : List V), vs = [.ref a] ∧ H a = some (.lst ((word :: rest).map V.str)) ∧ formOf word = some f ∧ f.length = rest.length ∧ things.length = rest.length ∧ rest.length ≤ 100 ∧
  (∀ (i : Nat) c r v, f.cps[i]? = some c → rest[i]? = some r → things[i]? = some v → ThingOk c r v) ∧ ∀ l H', Same H H' → H l = none → H' l = some (.lst things) → Q (.ref l) H'
theorem both {c : Prop} [Decidable c] {A G : Prop} (hg : G) (h1 : c → G → A) : if c then A else G := by
  by_cases h : c
  · rw [if_pos h]
    exact h1 h hg
  · rw [if_neg h]
    exact hg
theorem walk_zips {K : PySem.W.Frag} {z : Str} {b : Addr} {ys : List V} {n : Nat} (h1 : n = z.cps.size) (h2 : n = ys.length) : Walk (Itzs K z b) n (fun H => SqL K H b ys) (fun i H v H' => ∃ T c y, v = .ref T ∧ H T = none ∧ H' = upd H T (.tup [.str ⟨#[c]⟩, y]) ∧ z.cps[i]? = some c ∧ ys[i]? = some y) :=
  ⟨fun i _ hi q => ⟨ys, q, by omega, by omega⟩, fun _ q => ⟨ys, q, by omega, by omega, .inl h1⟩, fun i H v H' _ q y => by
    obtain ⟨T, c, y, a1, a2, a3, a4, a5⟩ := y
    exact ⟨T, c, y, a1, a2, a3, a4, a5 ys q⟩⟩
theorem figure_in {c : Nat} (h : 48 ≤ c ∧ c ≤ 57) : c ∈ ("0123456789" : Str).cps.toList := by
  have q : ∀ d : Fin 10, (48 + d.val) ∈ ("0123456789" : Str).cps.toList := by decide +kernel
  have e := q ⟨c - 48, by omega⟩
  have e2 : 48 + (c - 48) = c := by omega
  rw [← e2]
  exact e
section
variable {P : Program} {w : World} {K : PySem.W.Frag} {mg : Str → Option Value} {base : Heap}
theorem sc_rw : FnScope ["row", "words"] ["row"] (defScope s_read_words) := ⟨rfl, rfl, rfl, by decide +kernel, rfl, by decide +kernel, by decide +kernel⟩
theorem ok_rw (T : Tx K mg) : Def P w K mg base CX0 1 (He.fAd K d_read_words.at_) ["row"] spReadWords := by
  obtain ⟨fd, F⟩ := T.f_read_words
  refine ⟨fd, F.ok sc_rw (fun vs H Q E h => ?_) (fun cdv A outer s H vs Q E hr h => ?_), F.bindsN (fun _ _ _ _ _ _ us hl => match us, hl with | [_], _ => rfl), F.kp⟩
  · obtain ⟨_, rfl, _⟩ := h
    rfl
  · obtain ⟨z, rfl, hz, hn, k⟩ := h
    refine ⟨_, PSs.nox (pss_cons (ps_set (i := 1) sc_rw.nd rfl (.inl rfl) (pe_split (pv 0) pe_str))
      (pss_cons (ps_if (pt_cmpR op_in_seq pe_str (pv 1) (by rfl)) (pss_one ps_never) pss_nil)
      (pss_one (ps_ret (pv 1))))), ?_⟩
    refine ⟨_, rfl, ⟨_, rfl⟩, _, _, rfl, rfl, (by decide), (by have : (10002 : Nat) ≤ sizeLine := by decide
                                                               omega), fun p np => ?_⟩
    refine ⟨_, rfl, p, _, rfl, .inl (SqL.of upd_same), rfl, flat_str _, _, rfl, ?_⟩
    rw [inV_str, decide_eq_false hn]
    exact ⟨_, rfl, k p np⟩
theorem sc_rn : FnScope ["word", "sign"] ["word"] (defScope s_read_number) := ⟨rfl, rfl, rfl, by decide +kernel, rfl, by decide +kernel, by decide +kernel⟩
theorem ok_rn (T : Tx K mg) : Def P w K mg base CX0 1 (He.fAd K d_read_number.at_) ["word"] spReadNum := by
  obtain ⟨fd, F⟩ := T.f_read_number
  refine ⟨fd, F.ok sc_rn (fun vs H Q E h => ?_) (fun cdv A outer s H vs Q E hr h => ?_), F.bindsN (fun _ _ _ _ _ _ us hl => match us, hl with | [_], _ => rfl), F.kp⟩
  · obtain ⟨_, rfl, _⟩ := h
    rfl
  · obtain ⟨i, rfl, h0, h1, k⟩ := h
    obtain ⟨t, gt⟩ := T.i_MOST_WRITTEN
    obtain ⟨t2, gt2⟩ := T.s_TEN_FIGURES
    have hl := num_len h0 (by decide) h1
    obtain ⟨c, r, e, hc⟩ := num_first h0
    have hlen : (numS i).length = r.length + 1 := by rw [TL.len_tl, e]; rfl
    have h30 : i < 10 ^ 30 := by
      have : (10 : Int) ^ 13 = 10000000000000 := by decide
      have : (10 : Int) ^ 30 = 1000000000000000000000000000000 := by decide
      omega
    refine ⟨_, PSs.nox (pss_cons (ps_if (PW.pt (pw_or (pt_cmpR op_eq (pv 0) pe_str (nomark _)) (pw_or (pt_cmpR op_gt (pe_callB call_len_str (by rfl) T.z_len PySem.boot_len (pa_cons (pv 0) pa_nil)) (pe_glob (v := .int 13) rfl gt ⟨t, rfl⟩) (nomark _))
        (pw_or1 (PW.pt (pw_and (pt_cmpR op_eq (pe_item_str (pv 0) pe_int (fun _ _ => rfl)) pe_str (nomark _)) (pw_and1 (pt_cmpR op_gt (pe_callB call_len_str (by rfl) T.z_len PySem.boot_len (pa_cons (pv 0) pa_nil)) pe_int (nomark _))))))))) (pss_one ps_never) pss_nil)
      (pss_cons (ps_for PassesOwn.never rfl (pi_str (pv 0)) (pg_name (i := 1) sc_rn.nd rfl (.inl rfl)) (pss_one (ps_if (pt_cmpR op_notIn_sign (pv 1) (pe_glob (v := .str "0123456789") rfl gt2 ⟨t2, rfl⟩) (by rfl)) (pss_one ps_never) pss_nil)))
      (pss_one (ps_ret (pe_callTy call_int_str (by rfl) T.z_int (by decide +kernel) (pa_cons (pv 0) pa_nil)))))), ?_⟩
    refine ⟨_, rfl, rfl, _, rfl, ?_⟩
    have ne : ¬ V.str (numS i) = V.str "" := fun e => by
      injection e with e
      exact num_ne h0 e
    rw [decide_eq_false ne]
    refine ⟨_, rfl, _, rfl, sz_of (by omega), _, _, rfl, rfl, _, rfl, ?_⟩
    rw [decide_eq_false (by omega)]
    have hc0 : (numS i).cps[(0 : Int).toNat]? = some c := by
      have : (tl (numS i))[0]? = some c := by rw [e]; rfl
      rw [← Array.getElem?_toList]
      exact this
    refine ⟨_, rfl, _, _, c, rfl, rfl, by decide, by decide, by omega, hc0, rfl, _, rfl, ?_⟩
    refine both ?_ (fun cc g => ?_)
    · refine ⟨_, rfl, _, rfl, ?_⟩
      refine for_it (walk_str (z := numS i)) (fun _ σ H' => H' = H ∧ ∃ v, σ = [some (.str (numS i)), v]) ⟨rfl, none, rfl⟩ (fun _ _ _ _ _ => trivial) ?_ ?_
      · rintro j x σ H1 H2 hj ⟨rfl, v, rfl⟩ ⟨rfl, c, hc, rfl⟩
        refine ⟨_, rfl, c, _, rfl, rfl, _, rfl, ?_⟩
        have hm : c ∈ tl (numS i) := by
          rw [← Array.getElem?_toList] at hc
          exact List.mem_of_getElem? hc
        rw [decide_eq_true (figure_in (num_digit h0 hm))]
        exact ⟨rfl, _, rfl⟩
      · rintro σ H1 ⟨rfl, v, rfl⟩
        exact ⟨_, rfl, _, i, rfl, (num_int h0 h30).1, (num_int h0 h30).2, k⟩
    · have e1 : V.str ⟨#[c]⟩ = V.str "0" := of_decide_eq_true cc
      have e2 : c = 48 := by
        injection e1 with e1
        have e3 : ([c] : List Nat) = [48] := congrArg tl e1
        injection e3
      refine ⟨_, rfl, _, rfl, sz_of (by omega), _, _, rfl, rfl, _, rfl, ?_⟩
      rw [decide_eq_false (by rw [hlen, hc e2]; decide)]
      exact g
theorem sc_form : FnScope ["word"] ["word"] (defScope s_form_behind) := ⟨rfl, rfl, rfl, by decide +kernel, rfl, by decide +kernel, by decide +kernel⟩
theorem ok_form (T : Tx K mg) : Def P w K mg base CX0 1 (He.fAd K d_form_behind.at_) ["word"] spForm := by
  obtain ⟨fd, F⟩ := T.f_form_behind
  refine ⟨fd, F.ok sc_form (fun vs H Q E h => ?_) (fun cdv A outer s H vs Q E hr h => ?_), F.bindsN (fun _ _ _ _ _ _ us hl => match us, hl with | [_], _ => rfl), F.kp⟩
  · obtain ⟨_, rfl, _⟩ := h
    rfl
  · obtain ⟨z, rfl, k⟩ := h
    refine ⟨_, PSs.nox (pss_cons (ps_if (pt_cmpR op_in_seq (pv 0) (pe_tup (pa_cons pe_str (pa_cons pe_str (pa_cons pe_str (pa_cons pe_str pa_nil))))) (by rfl)) (pss_one (ps_ret pe_str)) pss_nil)
      (pss_cons (ps_if (pt_cmpR op_in_seq (pv 0) (pe_tup (pa_cons pe_str (pa_cons pe_str pa_nil))) (by rfl)) (pss_one (ps_ret pe_str)) pss_nil)
      (pss_cons (ps_if (pt_cmpR op_eq (pv 0) pe_str (nomark _)) (pss_one (ps_ret pe_str)) pss_nil)
      (pss_cons (ps_if (pt_cmpR op_eq (pv 0) pe_str (nomark _)) (pss_one (ps_ret pe_str)) pss_nil)
      (pss_cons (ps_if (pt_cmpR op_in_seq (pv 0) (pe_tup (pa_cons pe_str (pa_cons pe_str (pa_cons pe_str (pa_cons pe_str (pa_cons pe_str pa_nil)))))) (by rfl)) (pss_one (ps_ret pe_str)) pss_nil)
      (pss_one (ps_ret pe_non))))))), ?_⟩
    have eqs : ∀ y : Str, decide (V.str z = V.str y) = decide (z = y) := fun y => by
      by_cases e : z = y
      · rw [e, decide_eq_true rfl, decide_eq_true rfl]
      · rw [decide_eq_false e, decide_eq_false fun q => e (V.str.inj q)]
    have k1 : ∀ {o : Option Str} (H' : Hp), formOf z = o → Same H H' → Q (optS o) H' := fun H' e s => by rw [← e]; exact k H' s
    unfold formOf at k1
    refine ⟨_, rfl, (by show 4 ≤ sizeLine; decide), fun p1 n1 => ?_⟩
    have s1 := snew (o := .tup ((["enrol", "leave", "withdraw", "purse"] : List Str).map V.str)) n1
    refine ⟨p1, (["enrol", "leave", "withdraw", "purse"] : List Str).map V.str, rfl, .inr (SqT.of upd_same), rfl, flat_str _, _, rfl, ?_⟩
    rw [inV_str]
    refine ite2 (fun c => ?_) (fun c => ?_)
    · have c := of_decide_eq_true c
      rw [if_pos c] at k1
      exact k1 _ rfl s1
    have c := fun q => c (decide_eq_true q)
    rw [if_neg c] at k1
    refine ⟨_, rfl, (by show 2 ≤ sizeLine; decide), fun p2 n2 => ?_⟩
    have s2 := s1.trans (snew (o := .tup ((["want", "unwant"] : List Str).map V.str)) n2)
    refine ⟨p2, (["want", "unwant"] : List Str).map V.str, rfl, .inr (SqT.of upd_same), rfl, flat_str _, _, rfl, ?_⟩
    rw [inV_str]
    refine ite2 (fun c => ?_) (fun c => ?_)
    · have c := of_decide_eq_true c
      rw [if_pos c] at k1
      exact k1 _ rfl s2
    have c := fun q => c (decide_eq_true q)
    rw [if_neg c] at k1
    refine ⟨_, rfl, rfl, _, rfl, ?_⟩
    rw [eqs]
    refine ite2 (fun c => ?_) (fun c => ?_)
    · have c := of_decide_eq_true c
      rw [if_pos c] at k1
      exact k1 _ rfl s2
    have c := fun q => c (decide_eq_true q)
    rw [if_neg c] at k1
    refine ⟨_, rfl, rfl, _, rfl, ?_⟩
    rw [eqs]
    refine ite2 (fun c => ?_) (fun c => ?_)
    · have c := of_decide_eq_true c
      rw [if_pos c] at k1
      exact k1 _ rfl s2
    have c := fun q => c (decide_eq_true q)
    rw [if_neg c] at k1
    refine ⟨_, rfl, (by show 5 ≤ sizeLine; decide), fun p3 n3 => ?_⟩
    have s3 := s2.trans (snew (o := .tup ((["close", "pot", "given", "spent", "works"] : List Str).map V.str)) n3)
    refine ⟨p3, (["close", "pot", "given", "spent", "works"] : List Str).map V.str, rfl, .inr (SqT.of upd_same), rfl, flat_str _, _, rfl, ?_⟩
    rw [inV_str]
    refine ite2 (fun c => ?_) (fun c => ?_)
    · have c := of_decide_eq_true c
      rw [if_pos c] at k1
      exact k1 _ rfl s3
    have c := fun q => c (decide_eq_true q)
    rw [if_neg c] at k1
    exact k1 _ rfl s3
theorem sc_things : FnScope ["words", "form", "things", "sort", "word"] ["words"] (defScope s_things_behind) := ⟨rfl, rfl, rfl, by decide +kernel, rfl, by decide +kernel, by decide +kernel⟩
theorem ok_things (T : Tx K mg) : Def P w K mg base CX0 2 (He.fAd K d_things_behind.at_) ["words"] spThings := by
  obtain ⟨fd, F⟩ := T.f_things_behind
  refine ⟨fd, F.ok sc_things (fun vs H Q E h => ?_) (fun cdv A outer s H vs Q E hr h => ?_), F.bindsN (fun _ _ _ _ _ _ us hl => match us, hl with | [_], _ => rfl), F.kp⟩
  · obtain ⟨_, _, _, _, _, rfl, _⟩ := h
    rfl
  · obtain ⟨a, word, rest, f, things, rfl, ha, hf, hl, hl2, h100, ht, k⟩ := h
    refine ⟨_, PSs.nox (pss_cons (ps_set (i := 1) sc_things.nd rfl (.inl rfl) (pe_f (ok_form T) hr pass0 T.g_form_behind (pa_cons (pe_ix ix_list (pv 0) pe_int (fun _ _ => rfl)) pa_nil)))
      (pss_cons (ps_if (PW.pt (pw_or (pt_cmpR op_isN (pv 1) pe_non (nomark _)) (pw_or1 (pt_cmpR op_ne (pe_callB call_len_str (by rfl) T.z_len PySem.boot_len (pa_cons (pv 1) pa_nil)) (pe_op op_sub (pe_callB call_len_seq (by rfl) T.z_len PySem.boot_len (pa_cons (pv 0) pa_nil)) pe_int) (nomark _))))) (pss_one ps_never) pss_nil)
      (pss_cons (ps_set (i := 2) sc_things.nd rfl (.inl rfl) (pe_lst pa_nil))
      (pss_cons (ps_for PassesOwn.never rfl (pi_zips (by rfl) T.z_zip (pa_cons (pv 1) (pa_cons (pe_slice sl_list (pv 0) (po_some pe_int) po_none) pa_nil))) (pg_tup rfl (pgs_cons (pg_name (i := 3) sc_things.nd rfl (.inl rfl)) (pgs_cons (pg_name (i := 4) sc_things.nd rfl (.inl rfl)) pgs_nil)))
        (pss_one (ps_if (pt_cmpR op_eq (pv 3) pe_str (nomark _)) (pss_one (ps_expr (pe_bm PySem.F.plainAttrs_list PySem.F.slot_list_append PySem.F.type_list_append mt_append (pv 2) (pa_cons (pe_f (ok_rn T) hr pass0 T.g_read_number (pa_cons (pv 4) pa_nil)) pa_nil))))
          (pss_one (ps_expr (pe_bm PySem.F.plainAttrs_list PySem.F.slot_list_append PySem.F.type_list_append mt_append (pv 2) (pa_cons (pv 4) pa_nil)))))))
      (pss_one (ps_ret (pv 2))))))), ?_⟩
    refine ⟨_, rfl, a, _, _, _, rfl, rfl, SqL.of ha, atI_nat (j := 0) rfl, word, rfl, fun H1 e1 => ?_⟩
    rw [hf]
    have e1a := e1 _ _ ha
    have hcs : f.cps.size = rest.length := hl
    refine ⟨_, rfl, rfl, _, rfl, ?_⟩
    rw [decide_eq_false (by intro z; cases z)]
    refine ⟨_, rfl, f, rfl, sz_of (by omega), _, rfl, a, _, rfl, .inl (SqL.of e1a), _, _, rfl, rfl, rfl, _, rfl, ?_⟩
    have el : ((word :: rest).map V.str).length = rest.length + 1 := by rw [List.length_map, List.length_cons]
    have e9 : (V.int (f.length : Int) = V.int ((((word :: rest).map V.str).length : Int) - 1)) := by
      rw [el, hl]
      exact congrArg V.int (by omega)
    rw [decide_eq_true e9]
    refine ⟨(by show 0 ≤ sizeLine; decide), fun l nl => ?_⟩
    have sl := snew (o := .lst []) nl
    refine ⟨_, rfl, _, rfl, 1, rfl, a, _, rfl, SqL.of (sl _ _ e1a), fun b nb => ?_⟩
    have sb := snew (o := .lst (cutV ((word :: rest).map V.str) (some 1) none)) nb
    have ecut : cutV ((word :: rest).map V.str) (some 1) none = rest.map V.str := by
      unfold cutV
      rw [el]
      have e1 : HT.sIx (rest.length + 1) 0 (some 1) = 1 := by unfold HT.sIx; simp
      have e2 : HT.sIx (rest.length + 1) (rest.length + 1) none = rest.length + 1 := rfl
      rw [e1, e2, List.map_cons, List.drop_succ_cons, List.drop_zero, List.take_of_length_le (by rw [List.length_map]; omega)]
    rw [ecut] at sb ⊢
    refine ⟨f, b, _, rfl, SqL.of upd_same, ?_⟩
    have nbl : b ≠ l := (ne_of_none (upd_same (H := H1) (a := l)) nb).symm
    refine for_it (walk_zips (K := K) (z := f) (b := b) (ys := rest.map V.str) (n := rest.length) hcs.symm (List.length_map ..).symm) (fun i σ H' => i ≤ rest.length ∧ (∃ v1 v2, σ = [some (.ref a), some (.str f), some (.ref l), v1, v2]) ∧ Same H (hide [l] H') ∧ hide [l] H' b = some (.lst (rest.map V.str)) ∧ H' l = some (.lst (things.take i))) ?_ ?_ ?_ ?_
    · refine ⟨Nat.zero_le _, ⟨none, none, rfl⟩, hide_into (e1.trans (sl.trans sb)) fun x hx => ?_, ?_, sb _ _ upd_same⟩
      · rw [List.mem_singleton.mp hx]
        exact e1.free nl
      · rw [hide_out (by simp [nbl])]
        exact upd_same
    · rintro i σ H' _ ⟨_, _, _, h4, _⟩
      exact SqL.of (hide_le _ _ _ _ h4)
    · rintro i x σ H3 H4 hi ⟨_, ⟨v1, v2, rfl⟩, g1, g2, g3⟩ ⟨t, c, y, rfl, ht0, rfl, hc, hy⟩
      rw [List.getElem?_map, List.getElem?_eq_getElem hi] at hy
      obtain rfl : y = V.str rest[i] := (Option.some.inj hy).symm
      have hti : things[i]? = some things[i] := List.getElem?_eq_getElem (by omega)
      have hk := ht i c rest[i] things[i] hc (List.getElem?_eq_getElem hi) hti
      have st := snew (o := .tup [.str ⟨#[c]⟩, .str rest[i]]) ht0
      refine ⟨t, _, rfl, SqT.of upd_same, rfl, _, _, rfl, _, _, rfl, rfl, _, rfl, rfl, _, rfl, ?_⟩
      have fin : Same H (hide [l] (upd (upd H3 t (.tup [.str ⟨#[c]⟩, .str rest[i]])) l (.lst (things.take i ++ [things[i]])))) ∧ hide [l] (upd (upd H3 t (.tup [.str ⟨#[c]⟩, .str rest[i]])) l (.lst (things.take i ++ [things[i]]))) b = some (.lst (rest.map V.str)) ∧
          (upd (upd H3 t (.tup [.str ⟨#[c]⟩, .str rest[i]])) l (.lst (things.take i ++ [things[i]]))) l = some (.lst (things.take (i + 1))) := by
        rw [hide_upd (List.mem_singleton.mpr rfl)]
        refine ⟨g1.trans (hide_same st), hide_same st _ _ g2, ?_⟩
        rw [upd_same, List.take_add_one, hti]; rfl
      have hlen : (things.take i).length < sizeLine := sz_lt (by rw [List.length_take]; omega)
      refine ite2 (fun cc => ?_) (fun cc => ?_)
      · have e1 : V.str ⟨#[c]⟩ = V.str "n" := of_decide_eq_true cc
        have e2 : c = 110 := by
          injection e1 with e1
          have e3 : ([c] : List Nat) = [110] := congrArg tl e1
          injection e3
        rcases hk with ⟨_, n, er, ev, n0, n1⟩ | ⟨q, _⟩
        · refine ⟨_, rfl, .inl ⟨rfl, _, SqL.of (st _ _ g3)⟩, _, rfl, n, congrArg (fun z => [V.str z]) er, n0, n1, l, _, _, rfl, rfl, st _ _ g3, hlen, hi, ⟨_, _, rfl⟩, ?_⟩
          rw [ev] at fin
          exact fin
        · exact absurd e2 q
      · rcases hk with ⟨e, _⟩ | ⟨_, ev⟩
        · refine absurd (decide_eq_true ?_) cc
          rw [e]; rfl
        · refine ⟨_, rfl, .inl ⟨rfl, _, SqL.of (st _ _ g3)⟩, _, rfl, l, _, _, rfl, rfl, st _ _ g3, hlen, hi, ⟨_, _, rfl⟩, ?_⟩
          rw [ev] at fin
          exact fin
    · rintro σ H3 ⟨_, ⟨v1, v2, rfl⟩, g1, g2, g3⟩
      rw [← hl2, List.take_length] at g3
      exact ⟨_, rfl, k l H3 (g1.trans (hide_le _ _)) (e1.free nl) g3⟩
end
end Ep
set_option Elab.async false
set_option linter.all false
set_option maxRecDepth 100000
set_option maxHeartbeats 4000000
/-! EpData: works, told rows, lists of numbers as data; the works shown. -/
namespace Ep
open PySem PySem.Spec PyProof.Rows L2
open TL (tl numL)
/-! ### data of a depth -/
def Sh (k : Nat) (d : PyData) : Prop := PyData.canLay0 d = true ∧ PyData.depth d ≤ k
theorem Sh.all {k : Nat} : ∀ {ds : List PyData}, (∀ d, d ∈ ds → Sh k d) → PyData.canLayAll0 ds = true ∧ PyData.depthAll ds ≤ k
  | [], _ => by simp [PyData.canLayAll0, PyData.depthAll]
  | d :: r, h => by
    have h1 := h d (List.mem_cons_self ..)
    have h2 := Sh.all (ds := r) fun x hx => h x (List.mem_cons_of_mem _ hx)
    simp only [PyData.canLayAll0, PyData.depthAll, h1.1, h2.1, Bool.and_self, true_and]
    have := h1.2
    have := h2.2
    omega
theorem Sh.list {k : Nat} {ds : List PyData} (h : ∀ d, d ∈ ds → Sh k d) : Sh (k + 1) (.list ds) := by
  have q := Sh.all h
  refine ⟨by simp only [PyData.canLay0]; exact q.1, ?_⟩
  simp only [PyData.depth]
  have := q.2
  omega
theorem Sh.tup {k : Nat} {ds : List PyData} (h : ∀ d, d ∈ ds → Sh k d) : Sh (k + 1) (.tuple ds) := by
  have q := Sh.all h
  refine ⟨by simp only [PyData.canLay0]; exact q.1, ?_⟩
  simp only [PyData.depth]
  have := q.2
  omega
theorem Sh.str {k : Nat} {z : Str} (h : PyData.strOk z = true) : Sh k (.str z) := ⟨by simp only [PyData.canLay0]; exact h, by simp [PyData.depth]⟩
theorem Sh.int {k : Nat} {i : Int} : Sh k (.int i) := ⟨by simp [PyData.canLay0], by simp [PyData.depth]⟩
theorem Sh.shaped {k : Nat} {d : PyData} (h : Sh k d) (hk : k ≤ 64 := by decide) : SeqAt.shaped d = true := by
  unfold SeqAt.shaped
  rw [h.1, decide_eq_true (Nat.le_trans h.2 hk)]; rfl
theorem strOk_ascii {z : Str} (h : ∀ c, c ∈ tl z → c < 256) : PyData.strOk z = true := by
  unfold PyData.strOk
  rw [← Array.all_toList]
  exact List.all_eq_true.mpr fun c hc => decide_eq_true (by have := h c hc; omega)
theorem dpAll_each {K : PySem.W.Frag} {H : Hp} {α : Type} {R : Addr → α → Prop} (f : α → PyData) (h : ∀ t q, R t q → Dp K H (.ref t) (f q)) : ∀ {ts : List Addr} {qs : List α}, Each R ts qs → DpAll K H (ts.map V.ref) (qs.map f)
  | [], [], _ => .nil
  | [], q :: qs, e => by have := e.1; simp at this
  | t :: ts, [], e => by have := e.1; simp at this
  | t :: ts, q :: qs, e => by
    refine .cons (h t q (e.2 0 t q rfl rfl)) (dpAll_each f h ⟨?_, fun i a b ha hb => e.2 (i + 1) a b ha hb⟩)
    have := e.1
    simp only [List.length_cons] at this
    omega
theorem dpAll_int {K : PySem.W.Frag} {H : Hp} : ∀ l : List Int, DpAll K H (l.map V.int) (l.map PyData.int)
  | [] => .nil
  | z :: r => .cons (.int z) (dpAll_int r)
theorem shaped_ints (l : List Int) : SeqAt.shaped (.list (l.map PyData.int)) = true :=
  (Sh.list (k := 0) fun d hd => by
    obtain ⟨i, _, rfl⟩ := List.mem_map.mp hd
    exact Sh.int).shaped
theorem shaped_nil2 : SeqAt.shaped (.list []) = true := by rfl
theorem eqv_nil2 (ds : List PyData) : PyData.eqv (.list ds) (.list []) = decide (ds = []) := by
  cases ds <;> simp [PyData.eqv, PyData.eqvAll]
/-! ### works -/
def workD (q : Str × Int × List Str) : PyData := .tuple [.str q.1, .int q.2.1, .list (q.2.2.map .str)]
def worksD (qs : List (Str × Int × List Str)) : PyData := .list (qs.map workD)
structure WOk (q : Str × Int × List Str) : Prop where
  nm : NameOk q.1
  c0 : 0 ≤ q.2.1
  c1 : q.2.1 < 10 ^ 30
  ns : ∀ n, n ∈ q.2.2 → NameOk n
  n6 : q.2.2.length ≤ 6
theorem dp_work {K : PySem.W.Frag} {H : Hp} {t : Addr} {q : Str × Int × List Str} (h : WorkAt H t q) : Dp K H (.ref t) (workD q) := by
  obtain ⟨l, h1, h2⟩ := h
  exact .tup (SqT.of h1) (.cons (.str _) (.cons (.int _) (.cons (.lst (SqL.of h2) (dpAll_str _)) .nil)))
theorem dp_works {K : PySem.W.Frag} {H : Hp} {a : Addr} {ts : List Addr} {qs : List (Str × Int × List Str)} (h : H a = some (.lst (ts.map V.ref))) (e : Each (WorkAt H) ts qs) : Dp K H (.ref a) (worksD qs) :=
  .lst (SqL.of h) (dpAll_each workD (fun _ _ => dp_work) e)
theorem sh_strs {k : Nat} {l : List Str} (h : ∀ z, z ∈ l → NameOk z) : Sh (k + 1) (.list (l.map PyData.str)) := Sh.list fun d hd => by
  obtain ⟨z, hz, rfl⟩ := List.mem_map.mp hd
  exact Sh.str (strOk_name (h z hz))
theorem sh_work {q : Str × Int × List Str} (h : WOk q) : Sh 2 (workD q) := Sh.tup fun d hd => by
  have hd2 : d = .str q.1 ∨ d = .int q.2.1 ∨ d = .list (q.2.2.map .str) := by simpa using hd
  rcases hd2 with rfl | rfl | rfl
  · exact Sh.str (strOk_name h.nm)
  · exact Sh.int
  · exact sh_strs h.ns
theorem sh_works {qs : List (Str × Int × List Str)} (h : ∀ q, q ∈ qs → WOk q) : Sh 3 (worksD qs) := Sh.list fun d hd => by
  obtain ⟨q, hq, rfl⟩ := List.mem_map.mp hd
  exact sh_work (h q hq)
/-! ### told works -/
def doneD (d : Done) : PyData := .tuple [.str d.name, .int d.cost, .list (d.rows.map fun r => .tuple [.str r.1, .int r.2])]
structure DOk (d : Done) : Prop where
  nm : NameOk d.name
  c0 : 0 ≤ d.cost
  c1 : d.cost < 10 ^ 30
  rs : ∀ r, r ∈ d.rows → NameOk r.1 ∧ 0 ≤ r.2 ∧ r.2 < 10 ^ 30
  r6 : d.rows.length ≤ 6
theorem dp_row {K : PySem.W.Frag} {H : Hp} {t : Addr} {r : Str × Int} (h : RowAt H t r) : Dp K H (.ref t) (.tuple [.str r.1, .int r.2]) := .tup (SqT.of h) (.cons (.str _) (.cons (.int _) .nil))
theorem dp_done {K : PySem.W.Frag} {H : Hp} {t : Addr} {d : Done} (h : DoneAt H t d) : Dp K H (.ref t) (doneD d) := by
  obtain ⟨l, rs, h1, h2, h3⟩ := h
  exact .tup (SqT.of h1) (.cons (.str _) (.cons (.int _) (.cons (.lst (SqL.of h2) (dpAll_each (fun r : Str × Int => .tuple [.str r.1, .int r.2]) (fun _ _ => dp_row) h3)) .nil)))
theorem sh_done {d : Done} (h : DOk d) : Sh 3 (doneD d) := Sh.tup fun e he => by
  have hd2 : e = .str d.name ∨ e = .int d.cost ∨ e = .list (d.rows.map fun r => .tuple [.str r.1, .int r.2]) := by simpa using he
  rcases hd2 with rfl | rfl | rfl
  · exact Sh.str (strOk_name h.nm)
  · exact Sh.int
  · refine Sh.list fun e he => ?_
    obtain ⟨r, hr, rfl⟩ := List.mem_map.mp he
    refine Sh.tup (k := 0) fun e he => ?_
    have hd3 : e = .str r.1 ∨ e = .int r.2 := by simpa using he
    rcases hd3 with rfl | rfl
    · exact Sh.str (strOk_name (h.rs r hr).1)
    · exact Sh.int
theorem str_shape {z : Str} {i : Int} {x : Str} : (V.str z = V.str x) ↔ z = x := ⟨fun q => V.str.inj q, fun q => by rw [q]⟩
theorem sl_2000 {n m : Nat} (h : n + m ≤ 100000) : n + m ≤ sizeLine := sz_of h
/-! ### the works shown, the closing shown -/
def spShowWorks : Sp := fun vs H Q _ => ∃ (a : Addr) (ts : List Addr) (qs : List (Str × Int × List Str)), vs = [.ref a] ∧ H a = some (.lst (ts.map V.ref)) ∧ Each (WorkAt H) ts qs ∧ (∀ q, q ∈ qs → WOk q) ∧ qs.length ≤ 6 ∧ ∀ H', Same H H' → Q (.str (worksT qs)) H'
def spShowClosed : Sp := fun vs H Q _ => ∃ (u lt : Addr) (ts : List Addr) (told : List Done) (G : Int), vs = [.ref u] ∧ H u = some (.tup [.ref lt, .int G]) ∧ H lt = some (.lst (ts.map V.ref)) ∧ Each (DoneAt H) ts told ∧ (∀ d, d ∈ told → DOk d) ∧ told.length ≤ 6 ∧ 0 ≤ G ∧ G < 10 ^ 30 ∧
  ∀ H', Same H H' → Q (.str (closeT told G)) H'
section
variable {P : Program} {w : World} {K : PySem.W.Frag} {mg : Str → Option Value} {base : Heap}
theorem sc_sw : FnScope ["works", "parts", "work", "cost", "names", "wanters"] ["works"] (defScope s_show_works) := ⟨rfl, rfl, rfl, by decide +kernel, rfl, by decide +kernel, by decide +kernel⟩
theorem ok_sw (T : Tx K mg) : Def P w K mg base CX0 1 (He.fAd K d_show_works.at_) ["works"] spShowWorks := by
  obtain ⟨fd, F⟩ := T.f_show_works
  refine ⟨fd, F.ok sc_sw (fun vs H Q E h => ?_) (fun cdv A outer s H vs Q E hr h => ?_), F.bindsN (fun _ _ _ _ _ _ us hl => match us, hl with | [_], _ => rfl), F.kp⟩
  · obtain ⟨_, _, _, rfl, _⟩ := h
    rfl
  · obtain ⟨a, ts, qs, rfl, ha, hE, hok, h6, k⟩ := h
    have hu64 : _ + 64 < cLine := Nat.lt_trans (Nat.lt_succ_self _) (hu65 hr)
    refine ⟨_, PSs.nox (pss_cons (ps_if (pt_cmpR (op_eqD hu64) (pv 0) (pe_lst pa_nil) (nomark _)) (pss_one (ps_ret pe_str)) pss_nil)
      (pss_cons (ps_set (i := 1) sc_sw.nd rfl (.inl rfl) (pe_lst pa_nil))
      (pss_cons (ps_for PassesOwn.never rfl (pi_list (pv 0)) (pg_tup rfl (pgs_cons (pg_name (i := 2) sc_sw.nd rfl (.inl rfl)) (pgs_cons (pg_name (i := 3) sc_sw.nd rfl (.inl rfl)) (pgs_cons (pg_name (i := 4) sc_sw.nd rfl (.inl rfl)) pgs_nil))))
        (pss_cons (ps_set (i := 5) sc_sw.nd rfl (.inl rfl) pe_str)
        (pss_cons (ps_if (pt_cmpR (op_neD hu64) (pv 4) (pe_lst pa_nil) (nomark _)) (pss_one (ps_set (i := 5) sc_sw.nd rfl (.inl rfl) (pe_join pe_str (pv 4)))) pss_nil)
        (pss_one (ps_expr (pe_bm PySem.F.plainAttrs_list PySem.F.slot_list_append PySem.F.type_list_append mt_append (pv 1) (pa_cons
          (pe_op op_add_str (pe_op op_add_str (pe_op op_add_str (pe_op op_add_str (pv 2) pe_str) (pe_callTy call_str_int (by rfl) T.z_str (by decide +kernel) (pa_cons (pv 3) pa_nil))) pe_str) (pv 5)) pa_nil)))))))
      (pss_one (ps_ret (pe_join pe_str (pv 1))))))), ?_⟩
    refine ⟨_, rfl, Nat.zero_le _, fun n0 nn0 => ?_⟩
    have t0 := snew (o := .lst []) nn0
    refine ⟨worksD qs, .list [], dp_works (t0 _ _ ha) (hE.mono fun _ _ _ _ z => z.mono t0), .lst (SqL.of upd_same) .nil, (sh_works hok).shaped, shaped_nil2, _, rfl, ?_⟩
    unfold worksD
    rw [eqv_nil2]
    by_cases c0 : qs = []
    · rw [decide_eq_true (by rw [c0]; rfl)]
      have e : worksT qs = "none" := by unfold worksT; rw [if_pos c0]
      rw [e] at k
      exact k _ t0
    rw [decide_eq_false (fun e => c0 (List.map_eq_nil_iff.mp e))]
    refine ⟨Nat.zero_le _, fun l nl => ?_⟩
    have t1 := t0.trans (snew (o := .lst []) nl)
    refine ⟨_, rfl, a, rfl, ⟨_, SqL.of (t1 _ _ ha)⟩, ?_⟩
    refine for_it (walk_list (K := K) (a := a) (xs := ts.map V.ref)) (fun i σ H' => i ≤ qs.length ∧ (∃ v1 v2 v3 v4, σ = [some (.ref a), some (.ref l), v1, v2, v3, v4]) ∧ Same H (hide [l] H') ∧ H' l = some (.lst (((qs.take i).map workT).map V.str))) ?_ ?_ ?_ ?_
    · exact ⟨Nat.zero_le _, ⟨none, none, none, none, rfl⟩, hide_into t1 fun x hx => (by rw [List.mem_singleton.mp hx]; exact t0.free nl), upd_same⟩
    · rintro i σ H' _ ⟨_, _, g1, _⟩
      exact SqL.of (hide_le _ _ _ _ (g1 _ _ ha))
    · rintro i x σ H3 H4 hi ⟨_, ⟨v1, v2, v3, v4, rfl⟩, g1, g3⟩ ⟨rfl, hx⟩
      rw [List.length_map] at hi
      have hx2 : (ts.map V.ref)[i]? = some x := hx
      rw [List.getElem?_map, List.getElem?_eq_getElem hi] at hx2
      obtain rfl : x = V.ref ts[i] := (Option.some.inj hx2).symm
      obtain ⟨q, hq, lq, w1, w2⟩ := hE.left (List.getElem?_eq_getElem hi)
      have mq := hok q (List.mem_of_getElem? hq)
      have le : Same H H4 := g1.trans (hide_le _ _)
      have hiq : i < qs.length := (List.getElem?_eq_some_iff.mp hq).1
      refine ⟨ts[i], _, rfl, SqT.of (le _ _ w1), rfl, _, _, rfl, _, _, rfl, _, _, rfl, rfl, _, rfl, ?_⟩
      refine ⟨Nat.zero_le _, fun n2 nn2 => ?_⟩
      have t2 := snew (o := .lst []) nn2
      have nl2 : l ≠ n2 := ne_of_none g3 nn2
      refine ⟨.list (q.2.2.map .str), .list [], .lst (SqL.of (t2 _ _ (le _ _ w2))) (dpAll_str _), .lst (SqL.of upd_same) .nil, (sh_strs (k := 0) mq.ns).shaped, shaped_nil2, _, rfl, ?_⟩
      rw [eqv_nil2]
      have e1 := head_len mq.nm mq.c0 mq.c1
      have e2 := namesT_len mq.ns mq.n6
      have e3 : (" " : Str).length = 1 := by rw [TL.len_tl, tl_sp]; rfl
      have e4 := name_len mq.nm
      have e5 := num_len mq.c0 (by decide) mq.c1
      have hnn : l ∉ ([] : List Addr) := by simp
      have g1' : Same H (hide [l] (upd (upd H4 n2 (.lst [])) l (.lst (((qs.take i).map workT).map V.str ++ [.str (workT q)])))) := by
        rw [hide_upd (List.mem_singleton.mpr rfl)]
        exact g1.trans (hide_same t2)
      have g3' : (upd (upd H4 n2 (.lst [])) l (.lst (((qs.take i).map workT).map V.str ++ [.str (workT q)]))) l = some (.lst (((qs.take (i + 1)).map workT).map V.str)) := by
        rw [upd_same, List.take_add_one, hq, List.map_append, List.map_append]; rfl
      have gl := t2 _ _ g3
      have hlen : ((((qs.take i).map workT).map V.str)).length < sizeLine := sz_lt (by rw [List.length_map, List.length_map, List.length_take]; omega)
      have L1 : q.1.length + (" " : Str).length ≤ sizeLine := sz_of (by omega)
      have L2 : (q.1 ++ " " : Str).length + (numS q.2.1).length ≤ sizeLine := sz_of (by rw [len_cat]; omega)
      have L3 : (headT q.1 q.2.1).length + (" " : Str).length ≤ sizeLine := sz_of (by omega)
      have L4 : (headT q.1 q.2.1 ++ " " : Str).length + (namesT q.2.2).length ≤ sizeLine := sz_of (by rw [len_cat]; omega)
      have LG := log_ok mq.c0 mq.c1
      by_cases cn : q.2.2 = []
      · rw [decide_eq_true (by rw [cn]; rfl)]
        have en : namesT q.2.2 = "-" := by unfold namesT; rw [if_pos cn]
        rw [en] at L4
        refine ⟨_, rfl, .inl ⟨rfl, _, SqL.of gl⟩, _, rfl, _, _, rfl, rfl, L1, _, rfl, _, rfl, LG, _, _, rfl, rfl, L2, _, _, rfl, rfl, L3, _, rfl, _, _, rfl, rfl, L4, l, _, _, rfl, rfl, gl, hlen, hiq, ⟨_, _, _, _, rfl⟩, ?_⟩
        unfold workT at g1' g3'
        rw [en] at g1' g3'
        exact ⟨g1', g3'⟩
      · rw [decide_eq_false (fun e => cn (List.map_eq_nil_iff.mp e))]
        have en : namesT q.2.2 = Txt.join "+" q.2.2 := by unfold namesT; rw [if_neg cn]
        rw [en] at L4
        have hs := sum_len_le (parts := q.2.2) (k := 8) fun p hp => name_len (mq.ns p hp)
        have hj : (q.2.2.map (·.length)).sum + q.2.2.length * ("+" : Str).length ≤ 16777216 := by
          have e3 : ("+" : Str).length = 1 := by rw [TL.len_tl, tl_pl]; rfl
          have := mq.n6
          have : q.2.2.length * 8 ≤ 6 * 8 := Nat.mul_le_mul_right _ mq.n6
          rw [e3]
          omega
        refine ⟨⟨_, rfl⟩, _, rfl, "+", lq, q.2.2, rfl, rfl, .inl (SqL.of (t2 _ _ (le _ _ w2))), hj, ?_⟩
        refine ⟨_, rfl, .inl ⟨rfl, _, SqL.of gl⟩, _, rfl, _, _, rfl, rfl, L1, _, rfl, _, rfl, LG, _, _, rfl, rfl, L2, _, _, rfl, rfl, L3, _, rfl, _, _, rfl, rfl, L4, l, _, _, rfl, rfl, gl, hlen, hiq, ⟨_, _, _, _, rfl⟩, ?_⟩
        unfold workT at g1' g3'
        rw [en] at g1' g3'
        exact ⟨g1', g3'⟩
    · rintro σ H3 ⟨_, ⟨v1, v2, v3, v4, rfl⟩, g1, g3⟩
      rw [List.length_map, hE.1, List.take_length] at g3
      have e : worksT qs = Txt.join ", " (qs.map workT) := by unfold worksT; rw [if_neg c0]
      rw [e] at k
      have hs := sum_len_le (parts := qs.map workT) (k := 110) fun p hp => by
        obtain ⟨q, hq, rfl⟩ := List.mem_map.mp hp
        have mq := hok q hq
        exact work_len mq.nm mq.c0 mq.c1 mq.ns mq.n6
      have e3 : (", " : Str).length = 2 := by rw [TL.len_tl, tl_cs]; rfl
      refine ⟨⟨_, rfl⟩, _, rfl, ", ", l, qs.map workT, rfl, rfl, .inl (SqL.of g3), ?_, k H3 (g1.trans (hide_le _ _))⟩
      rw [List.length_map] at hs ⊢
      rw [e3]
      have : qs.length * 110 ≤ 6 * 110 := Nat.mul_le_mul_right _ h6
      omega
end
end Ep
set_option Elab.async false
set_option linter.all false
set_option maxRecDepth 100000
set_option maxHeartbeats 4000000
/-! EpDataB: a closing shown. -/
namespace Ep
open PySem PySem.Spec PyProof.Rows L2
open TL (tl numL)
section
variable {P : Program} {w : World} {K : PySem.W.Frag} {mg : Str → Option Value} {base : Heap}
theorem sc_shc : FnScope ["told", "works", "grains", "parts", "work", "cost", "rows", "paid", "name", "part"] ["told"] (defScope s_show_closed) := ⟨rfl, rfl, rfl, by decide +kernel, rfl, by decide +kernel, by decide +kernel⟩
theorem ok_shc (T : Tx K mg) : Def P w K mg base CX0 1 (He.fAd K d_show_closed.at_) ["told"] spShowClosed := by
  obtain ⟨fd, F⟩ := T.f_show_closed
  refine ⟨fd, F.ok sc_shc (fun vs H Q E h => ?_) (fun cdv A outer s H vs Q E hr h => ?_), F.bindsN (fun _ _ _ _ _ _ us hl => match us, hl with | [_], _ => rfl), F.kp⟩
  · obtain ⟨_, _, _, _, _, rfl, _⟩ := h
    rfl
  · obtain ⟨u, lt, ts, told, G, rfl, hu0, ha, hE, hok, h6, G0, G1, k⟩ := h
    have hu64 : _ + 64 < cLine := Nat.lt_trans (Nat.lt_succ_self _) (hu65 hr)
    refine ⟨_, PSs.nox (pss_cons (ps_asg (pv 0) (pg_tup rfl (pgs_cons (pg_name (i := 1) sc_shc.nd rfl (.inl rfl)) (pgs_cons (pg_name (i := 2) sc_shc.nd rfl (.inl rfl)) pgs_nil))))
      (pss_cons (ps_if (pt_cmpR (op_eqD hu64) (pv 1) (pe_lst pa_nil) (nomark _)) (pss_one (ps_ret pe_str)) pss_nil)
      (pss_cons (ps_set (i := 3) sc_shc.nd rfl (.inl rfl) (pe_lst pa_nil))
      (pss_cons (ps_for PassesOwn.never rfl (pi_list (pv 1)) (pg_tup rfl (pgs_cons (pg_name (i := 4) sc_shc.nd rfl (.inl rfl)) (pgs_cons (pg_name (i := 5) sc_shc.nd rfl (.inl rfl)) (pgs_cons (pg_name (i := 6) sc_shc.nd rfl (.inl rfl)) pgs_nil))))
        (pss_cons (ps_set (i := 7) sc_shc.nd rfl (.inl rfl) (pe_join pe_str (pe_lc (own := [("name", 8), ("part", 9)]) (g := gTup K 2 (gCons (gName 8) (gCons (gName 9) gNil))) (tt := tYes)
            (te := tOp (fun x y H Q => ∃ i j, x = .str i ∧ y = .str j ∧ i.length + j.length ≤ sizeLine ∧ Q (.str (i ++ j)) H) (tOp (fun x y H Q => ∃ i j, x = .str i ∧ y = .str j ∧ i.length + j.length ≤ sizeLine ∧ Q (.str (i ++ j)) H) (tVar 8) (tC (.str " "))) (tCB (fun xs H Q => ∃ i, xs = [.int i] ∧ i.natAbs.log2 < 1920 ∧ Q (.str (toString i)) H) (tCons (tVar 9) tNil))) rfl sc_shc.nd (pi_list (pv 6))
            (blkOk_by (N := ["told", "works", "grains", "parts", "work", "cost", "rows", "paid", "name", "part"]) (sc := defScope s_show_closed) (by decide +kernel))
            (fun _ _ _ _ _ => pg_tup (by rfl) (pgs_cons (pg_name (i := 8) sc_shc.nd rfl (Or.inl rfl)) (pgs_cons (pg_name (i := 9) sc_shc.nd rfl (Or.inl rfl)) pgs_nil))) (fun _ _ _ _ _ => pts_nil)
            (fun _ _ _ _ _ => pe_op op_add_str (pe_op op_add_str (pv 8) pe_str) (pe_callTy call_str_int (by rfl) T.z_str (by decide +kernel) (pa_cons (pv 9) pa_nil))))))
        (pss_one (ps_expr (pe_bm PySem.F.plainAttrs_list PySem.F.slot_list_append PySem.F.type_list_append mt_append (pv 3) (pa_cons
          (pe_op op_add_str (pe_op op_add_str (pe_op op_add_str (pe_op op_add_str (pv 4) pe_str) (pe_callTy call_str_int (by rfl) T.z_str (by decide +kernel) (pa_cons (pv 5) pa_nil))) pe_str) (pv 7)) pa_nil))))))
      (pss_one (ps_ret (pe_op op_add_str (pe_op op_add_str (pe_join pe_str (pv 3)) pe_str) (pe_callTy call_str_int (by rfl) T.z_str (by decide +kernel) (pa_cons (pv 2) pa_nil))))))))), ?_⟩
    refine ⟨_, rfl, u, _, rfl, SqT.of hu0, rfl, _, _, rfl, _, _, rfl, rfl, ?_⟩
    refine ⟨_, rfl, Nat.zero_le _, fun n0 nn0 => ?_⟩
    have t0 := snew (o := .lst []) nn0
    refine ⟨.list (told.map doneD), .list [], .lst (SqL.of (t0 _ _ ha)) (dpAll_each doneD (fun _ _ => dp_done) (hE.mono fun _ _ _ _ z => z.mono t0)), .lst (SqL.of upd_same) .nil, (Sh.list (k := 3) fun d hd => ?_).shaped, shaped_nil2, _, rfl, ?_⟩
    · obtain ⟨q, hq, rfl⟩ := List.mem_map.mp hd
      exact sh_done (hok q hq)
    rw [eqv_nil2]
    by_cases c0 : told = []
    · rw [decide_eq_true (by rw [c0]; rfl)]
      have e : closeT told G = "none" := by unfold closeT; rw [if_pos c0]
      rw [e] at k
      exact k _ t0
    rw [decide_eq_false (fun e => c0 (List.map_eq_nil_iff.mp e))]
    refine ⟨Nat.zero_le _, fun l nl => ?_⟩
    have t1 := t0.trans (snew (o := .lst []) nl)
    have e3 : (" " : Str).length = 1 := by rw [TL.len_tl, tl_sp]; rfl
    have e3c : (": " : Str).length = 2 := by rw [TL.len_tl, tl_co]; rfl
    have e3s : ("; " : Str).length = 2 := by rw [TL.len_tl, tl_sc]; rfl
    have e3k : (", " : Str).length = 2 := by rw [TL.len_tl, tl_cs]; rfl
    have e3o : (" of " : Str).length = 4 := by rw [TL.len_tl, tl_of]; rfl
    refine ⟨_, rfl, lt, rfl, ⟨_, SqL.of (t1 _ _ ha)⟩, ?_⟩
    refine for_it (walk_list (K := K) (a := lt) (xs := ts.map V.ref)) (fun i σ H' => i ≤ told.length ∧ (∃ v4 v5 v6 v7, σ = [some (.ref u), some (.ref lt), some (.int G), some (.ref l), v4, v5, v6, v7, none, none]) ∧ Same H (hide [l] H') ∧ H' l = some (.lst (((told.take i).map partT).map V.str))) ?_ ?_ ?_ ?_
    · exact ⟨Nat.zero_le _, ⟨none, none, none, none, rfl⟩, hide_into t1 fun x hx => (by rw [List.mem_singleton.mp hx]; exact t0.free nl), upd_same⟩
    · rintro i σ H' _ ⟨_, _, g1, _⟩
      exact SqL.of (hide_le _ _ _ _ (g1 _ _ ha))
    · rintro i x σ H3 H4 hi ⟨_, ⟨v4, v5, v6, v7, rfl⟩, g1, g3⟩ ⟨rfl, hx⟩
      rw [List.length_map] at hi
      have hx2 : (ts.map V.ref)[i]? = some x := hx
      rw [List.getElem?_map, List.getElem?_eq_getElem hi] at hx2
      obtain rfl : x = V.ref ts[i] := (Option.some.inj hx2).symm
      obtain ⟨d, hd, lr, rs, w1, w2, w3⟩ := hE.left (List.getElem?_eq_getElem hi)
      have md := hok d (List.mem_of_getElem? hd)
      have le : Same H H4 := g1.trans (hide_le _ _)
      have hiq : i < told.length := (List.getElem?_eq_some_iff.mp hd).1
      have hr6 := md.r6
      refine ⟨ts[i], _, rfl, SqT.of (le _ _ w1), rfl, _, _, rfl, _, _, rfl, _, _, rfl, rfl, ?_⟩
      refine ⟨⟨_, rfl⟩, _, rfl, lr, rfl, ⟨_, SqL.of (le _ _ w2)⟩, fun D hD => ?_⟩
      refine lc_it (walk_list (K := K) (a := lr) (xs := rs.map V.ref)) (fun j H' => j ≤ d.rows.length ∧ Same H4 H' ∧ H' D = some (.lst (((d.rows.take j).map rowT).map V.str))) ⟨Nat.zero_le _, snew hD, upd_same⟩ ?_ ?_ ?_
      · rintro j H' _ ⟨_, s1, _⟩
        exact SqL.of (s1 _ _ (le _ _ w2))
      · rintro j x H5 H6 hj ⟨_, s1, hL⟩ ⟨rfl, hx⟩
        rw [List.length_map] at hj
        have hx2 : (rs.map V.ref)[j]? = some x := hx
        rw [List.getElem?_map, List.getElem?_eq_getElem hj] at hx2
        obtain rfl : x = V.ref rs[j] := (Option.some.inj hx2).symm
        obtain ⟨r, hr1, hr2⟩ := w3.left (List.getElem?_eq_getElem hj)
        have mr := md.rs r (List.mem_of_getElem? hr1)
        have hjq : j < d.rows.length := (List.getElem?_eq_some_iff.mp hr1).1
        have f1 := name_len mr.1
        have f2 := num_len mr.2.1 (by decide) mr.2.2
        have M1 : r.1.length + (" " : Str).length ≤ sizeLine := sz_of (by omega)
        have M2 : (r.1 ++ " " : Str).length + (numS r.2).length ≤ sizeLine := sz_of (by rw [len_cat]; omega)
        refine ⟨rs[j], _, rfl, SqT.of (s1 _ _ (le _ _ hr2)), rfl, _, _, rfl, _, _, rfl, rfl, rfl, _, rfl, _, _, rfl, rfl, M1, _, rfl, _, rfl, log_ok mr.2.1 mr.2.2, _, _, rfl, rfl, M2, ?_⟩
        refine ⟨_, hL, sz_lt (by rw [List.length_map, List.length_map, List.length_take]; omega), hjq, smut s1 hD, ?_⟩
        rw [upd_same, List.take_add_one, hr1, List.map_append, List.map_append]; rfl
      · rintro H5 ⟨_, s1, hL⟩
        rw [List.length_map, w3.1, List.take_length] at hL
        have hs := sum_len_le (parts := d.rows.map rowT) (k := 39) fun p hp => by
          obtain ⟨r, hr, rfl⟩ := List.mem_map.mp hp
          obtain ⟨h1, h2, h3⟩ := md.rs r hr
          exact head_len h1 h2 h3
        have hj : ((d.rows.map rowT).map (·.length)).sum + (d.rows.map rowT).length * (", " : Str).length ≤ 16777216 := by
          rw [List.length_map] at hs ⊢
          rw [e3k]
          have : d.rows.length * 39 ≤ 6 * 39 := Nat.mul_le_mul_right _ hr6
          omega
        refine ⟨", ", D, d.rows.map rowT, rfl, rfl, .inl (SqL.of hL), hj, ?_⟩
        have gl := s1 _ _ g3
        have f1 := name_len md.nm
        have f2 := num_len md.c0 (by decide) md.c1
        have f3 := head_len md.nm md.c0 md.c1
        have f4 := rows_len md.rs md.r6
        have L1 : d.name.length + (" " : Str).length ≤ sizeLine := sz_of (by omega)
        have L2 : (d.name ++ " " : Str).length + (numS d.cost).length ≤ sizeLine := sz_of (by rw [len_cat]; omega)
        have L3 : (headT d.name d.cost).length + (": " : Str).length ≤ sizeLine := sz_of (by omega)
        have L4 : (headT d.name d.cost ++ ": " : Str).length + (rowsT d.rows).length ≤ sizeLine := sz_of (by rw [len_cat]; omega)
        refine ⟨_, rfl, .inl ⟨rfl, _, SqL.of gl⟩, _, rfl, _, _, rfl, rfl, L1, _, rfl, _, rfl, log_ok md.c0 md.c1, _, _, rfl, rfl, L2, _, _, rfl, rfl, L3, _, rfl, _, _, rfl, rfl, L4, l, _, _, rfl, rfl, gl, sz_lt (by rw [List.length_map, List.length_map, List.length_take]; omega), hiq, ⟨_, _, _, _, rfl⟩, ?_, ?_⟩
        · rw [hide_upd (List.mem_singleton.mpr rfl)]
          exact g1.trans (hide_same s1)
        · rw [upd_same, List.take_add_one, hd, List.map_append, List.map_append]; rfl
    · rintro σ H3 ⟨_, ⟨v4, v5, v6, v7, rfl⟩, g1, g3⟩
      rw [List.length_map, hE.1, List.take_length] at g3
      have e : closeT told G = partsT told ++ " of " ++ numS G := by unfold closeT; rw [if_neg c0]
      rw [e] at k
      have hp : ∀ d, d ∈ told → (partT d).length ≤ 300 := fun d hd => part_len (hok d hd).nm (hok d hd).c0 (hok d hd).c1 (hok d hd).rs (hok d hd).r6
      have hs := sum_len_le (parts := told.map partT) (k := 300) fun p hp2 => by
        obtain ⟨d, hd, rfl⟩ := List.mem_map.mp hp2
        exact hp d hd
      have hpl := parts_len hp h6
      have hG := num_len G0 (by decide) G1
      refine ⟨⟨_, rfl⟩, _, rfl, "; ", l, told.map partT, rfl, rfl, .inl (SqL.of g3), ?_, _, _, rfl, rfl, sz_of (show (partsT told).length + (" of " : Str).length ≤ 100000 by omega), _, rfl, _, rfl, log_ok G0 G1, _, _, rfl, rfl, sz_of (show (partsT told ++ " of " : Str).length + (numS G).length ≤ 100000 by rw [len_cat]; omega), k H3 (g1.trans (hide_le _ _))⟩
      rw [List.length_map] at hs ⊢
      rw [e3s]
      have : told.length * 300 ≤ 6 * 300 := Nat.mul_le_mul_right _ h6
      omega
end
end Ep
set_option Elab.async false
set_option linter.all false
set_option maxRecDepth 100000
set_option maxHeartbeats 4000000
/-! EpCmd: rows as commands; the deeds keep a chest in order. -/
namespace Ep
open PySem PySem.Spec PyProof.Rows L2
open TL (tl numL)
/-! ### the deeds keep order -/
section
variable {s : Ch}
theorem Ch.enrol_names (s : Ch) (n : Str) : (s.enrol n).names = s.names ++ [n] := by
  unfold Ch.names Ch.enrol
  rw [List.map_append]; rfl
theorem ok_enrolS (O : s.Ok) {n : Str} (h : NameOk n) (hn : n ∉ s.names) (h6 : s.people.length < 6) : (s.enrol n).Ok where
  p6 := by
    show (s.people ++ [(n, 0)]).length ≤ 6
    rw [List.length_append]
    exact h6
  w6 := O.w6
  pnd := by
    rw [s.enrol_names]
    exact List.nodup_append.mpr ⟨O.pnd, by simp, fun a ha b hb e => hn (by rw [← List.mem_singleton.mp hb, ← e]; exact ha)⟩
  wnd := O.wnd
  pok := fun m hm => by
    rw [s.enrol_names] at hm
    rcases List.mem_append.mp hm with h1 | h1
    · exact O.pok m h1
    · rw [List.mem_singleton.mp h1]; exact h
  wok := O.wok
  pos := fun q hq => by
    rcases List.mem_append.mp (show q ∈ s.people ++ [(n, 0)] from hq) with h1 | h1
    · exact O.pos q h1
    · rw [List.mem_singleton.mp h1]; exact Int.le_refl _
  cost := O.cost
  wish := fun q hq => ⟨(O.wish q hq).1, fun m hm => by rw [s.enrol_names]; exact List.mem_append_left _ ((O.wish q hq).2 m hm)⟩
  well := O.well
  out := O.out
  sum := by
    have e := O.sum
    show s.gifts = s.outlay + s.well + ((s.people ++ [((n, 0) : Str × Int)]).map (·.2)).sum
    rw [List.map_append, List.sum_append]
    show s.gifts = s.outlay + s.well + (s.purses + 0)
    omega
theorem Ch.leave_names (s : Ch) (n : Str) : (s.leave n).names = s.names.filter fun m => decide (m ≠ n) := map_filter_key (fun q : Str × Int => q.1) n s.people
theorem Ch.purse_of (O : s.Ok) {q : Str × Int} (h : q ∈ s.people) : s.purse q.1 = q.2 := by
  unfold Ch.purse
  rw [find_key (fun q : Str × Int => q.1) O.pnd h]; rfl
theorem Ch.purse_pos (O : s.Ok) (n : Str) : 0 ≤ s.purse n := by
  unfold Ch.purse
  cases e : s.people.find? fun q => decide (q.1 = n) with
  | none => exact Int.le_refl _
  | some q => exact O.pos q (List.mem_of_find?_eq_some e)
theorem sum_leave (n : Str) : ∀ {l : List (Str × Int)}, (l.map (·.1)).Nodup → ((l.filter fun q => decide (q.1 ≠ n)).map (·.2)).sum + ((l.find? fun q => decide (q.1 = n)).map (·.2)).getD 0 = (l.map (·.2)).sum
  | [], _ => rfl
  | a :: r, h => by
    obtain ⟨h1, h2⟩ := List.nodup_cons.mp h
    have ih := sum_leave n h2
    by_cases c : a.1 = n
    · rw [List.filter_cons, if_neg (by simp [c]), List.find?_cons, decide_eq_true c]
      have e : (r.filter fun q => decide (q.1 ≠ n)) = r := filter_all fun q hq => decide_eq_true fun e => h1 (List.mem_map.mpr ⟨q, hq, (show q.1 = a.1 by rw [c, ← e])⟩)
      rw [e, List.map_cons, List.sum_cons]
      show (r.map (·.2)).sum + a.2 = _
      omega
    · rw [List.filter_cons, if_pos (by simp [c]), List.find?_cons, decide_eq_false c, List.map_cons, List.map_cons, List.sum_cons, List.sum_cons]
      show a.2 + ((r.filter fun q => decide (q.1 ≠ n)).map (·.2)).sum + ((r.find? fun q => decide (q.1 = n)).map (·.2)).getD 0 = a.2 + (r.map (·.2)).sum
      omega
theorem ok_leaveS (O : s.Ok) (n : Str) : (s.leave n).Ok where
  p6 := Nat.le_trans (List.length_filter_le ..) O.p6
  w6 := by
    show (s.plans.map _).length ≤ 6
    rw [List.length_map]
    exact O.w6
  pnd := by rw [s.leave_names]; exact nd_filter _ O.pnd
  wnd := by
    show ((s.plans.map fun q => q.upd fun l => l.filter fun m => decide (m ≠ n)).map (·.name)).Nodup
    rw [names_upd]
    exact O.wnd
  pok := fun m hm => by
    rw [s.leave_names] at hm
    exact O.pok m (List.mem_filter.mp hm).1
  wok := fun m hm => by
    have hm2 : m ∈ ((s.plans.map fun q => q.upd fun l => l.filter fun m => decide (m ≠ n)).map (·.name)) := hm
    rw [names_upd] at hm2
    exact O.wok m hm2
  pos := fun q hq => O.pos q (List.mem_filter.mp hq).1
  cost := fun q hq => by
    obtain ⟨q0, h0, rfl⟩ := List.mem_map.mp hq
    exact O.cost q0 h0
  wish := fun q hq => by
    obtain ⟨q0, h0, rfl⟩ := List.mem_map.mp hq
    refine ⟨nd_filter _ (O.wish q0 h0).1, fun m hm => ?_⟩
    obtain ⟨h1, h2⟩ := List.mem_filter.mp (show m ∈ q0.wish.filter _ from hm)
    rw [s.leave_names]
    exact List.mem_filter.mpr ⟨(O.wish q0 h0).2 m h1, h2⟩
  well := by
    have := O.well
    have := Ch.purse_pos O n
    show 0 ≤ s.well + s.purse n
    omega
  out := O.out
  sum := by
    have e := O.sum
    have e2 := sum_leave n O.pnd
    show s.gifts = s.outlay + (s.well + s.purse n) + ((s.people.filter fun q => decide (q.1 ≠ n)).map (·.2)).sum
    have e3 : s.purses = (s.people.map (·.2)).sum := rfl
    have e4 : s.purse n = ((s.people.find? fun q => decide (q.1 = n)).map (·.2)).getD 0 := rfl
    omega
theorem sum_give (e : Int) : ∀ l : List (Str × Int), ((l.map fun q => (q.1, q.2 + e)).map (·.2)).sum = (l.map (·.2)).sum + (l.length : Int) * e
  | [] => by simp
  | a :: r => by
    have ih := sum_give e r
    rw [List.map_cons, List.map_cons, List.sum_cons, List.map_cons, List.sum_cons, List.length_cons, ih]
    have : ((r.length + 1 : Nat) : Int) * e = (r.length : Int) * e + e := by
      rw [show ((r.length + 1 : Nat) : Int) = (r.length : Int) + 1 by omega, Int.add_mul, Int.one_mul]
    omega
theorem Ch.give_names (s : Ch) (c : Int) : (s.give c).names = s.names := by
  unfold Ch.give
  split
  · rfl
  · unfold Ch.names
    rw [List.map_map]; rfl
theorem Ch.give_plans (s : Ch) (c : Int) : (s.give c).plans = s.plans := by unfold Ch.give; split <;> rfl
theorem Ch.give_gifts (s : Ch) (c : Int) : (s.give c).gifts = s.gifts + c := by unfold Ch.give; split <;> rfl
theorem ok_giveS (O : s.Ok) {c : Int} (c0 : 0 ≤ c) : (s.give c).Ok := by
  have hn := s.give_names c
  have hp := s.give_plans c
  have e := O.sum
  have hw := O.well
  by_cases h0 : s.people = []
  · have eg : s.give c = { s with gifts := s.gifts + c, well := s.well + c } := by unfold Ch.give; rw [if_pos h0]
    rw [eg]
    exact ⟨O.p6, O.w6, O.pnd, O.wnd, O.pok, O.wok, O.pos, O.cost, O.wish, (by show 0 ≤ s.well + c; omega), O.out, (by show s.gifts + c = s.outlay + (s.well + c) + s.purses; omega)⟩
  · have eg : s.give c = { s with people := s.people.map (fun q => (q.1, q.2 + (s.well + c) / (s.people.length : Int))), gifts := s.gifts + c, well := (s.well + c) % (s.people.length : Int) } := by unfold Ch.give; rw [if_neg h0]
    have hl : 0 < (s.people.length : Int) := by
      have : s.people.length ≠ 0 := fun q => h0 (List.length_eq_zero_iff.mp q)
      omega
    have hd : 0 ≤ (s.well + c) / (s.people.length : Int) := Int.ediv_nonneg (by omega) (by omega)
    refine ⟨?_, ?_, ?_, ?_, ?_, ?_, ?_, ?_, ?_, ?_, ?_, ?_⟩
    · rw [eg]
      show (s.people.map _).length ≤ 6
      rw [List.length_map]
      exact O.p6
    · rw [hp]; exact O.w6
    · rw [hn]; exact O.pnd
    · unfold Ch.works; rw [hp]; exact O.wnd
    · rw [hn]; exact O.pok
    · unfold Ch.works; rw [hp]; exact O.wok
    · intro q hq
      rw [eg] at hq
      obtain ⟨q0, h0, rfl⟩ := List.mem_map.mp hq
      have := O.pos q0 h0
      show 0 ≤ q0.2 + _
      omega
    · rw [hp]; exact O.cost
    · rw [hp, hn]; exact O.wish
    · rw [eg]
      exact Int.emod_nonneg _ (by omega)
    · rw [eg]; exact O.out
    · rw [eg]
      show s.gifts + c = s.outlay + (s.well + c) % (s.people.length : Int) + ((s.people.map fun q => (q.1, q.2 + (s.well + c) / (s.people.length : Int))).map (·.2)).sum
      rw [sum_give]
      have e3 : s.purses = (s.people.map (·.2)).sum := rfl
      have := Int.mul_ediv_add_emod (s.well + c) (s.people.length : Int)
      omega
theorem ok_proposeS (O : s.Ok) {z : Str} {c : Int} (h : NameOk z) (hn : z ∉ s.works) (h6 : s.plans.length < 6) (c1 : 1 ≤ c) (c2 : c ≤ 1000000000) : (s.propose z c).Ok where
  p6 := O.p6
  w6 := by
    show (s.plans ++ [_]).length ≤ 6
    rw [List.length_append]
    exact h6
  pnd := O.pnd
  wnd := by
    show ((s.plans ++ [(⟨z, c, []⟩ : Plan)]).map (·.name)).Nodup
    rw [List.map_append]
    exact List.nodup_append.mpr ⟨O.wnd, by simp, fun a ha b hb e => hn (by
      have : b = z := by simpa using hb
      rw [← this, ← e]; exact ha)⟩
  pok := O.pok
  wok := fun m hm => by
    have hm2 : m ∈ (s.plans ++ [(⟨z, c, []⟩ : Plan)]).map (·.name) := hm
    rw [List.map_append] at hm2
    rcases List.mem_append.mp hm2 with h1 | h1
    · exact O.wok m h1
    · have : m = z := by simpa using h1
      rw [this]; exact h
  pos := O.pos
  cost := fun q hq => by
    rcases List.mem_append.mp (show q ∈ s.plans ++ [_] from hq) with h1 | h1
    · exact O.cost q h1
    · rw [List.mem_singleton.mp h1]; exact ⟨c1, c2⟩
  wish := fun q hq => by
    rcases List.mem_append.mp (show q ∈ s.plans ++ [_] from hq) with h1 | h1
    · exact O.wish q h1
    · rw [List.mem_singleton.mp h1]; exact ⟨List.nodup_nil, fun n hn => by cases hn⟩
  well := O.well
  out := O.out
  sum := O.sum
theorem Ch.withdraw_works (s : Ch) (z : Str) : (s.withdraw z).works = s.works.filter fun m => decide (m ≠ z) := map_filter_key (fun q : Plan => q.name) z s.plans
theorem ok_withdrawS (O : s.Ok) (z : Str) : (s.withdraw z).Ok where
  p6 := O.p6
  w6 := Nat.le_trans (List.length_filter_le ..) O.w6
  pnd := O.pnd
  wnd := by rw [s.withdraw_works]; exact nd_filter _ O.wnd
  pok := O.pok
  wok := fun m hm => by
    rw [s.withdraw_works] at hm
    exact O.wok m (List.mem_filter.mp hm).1
  pos := O.pos
  cost := fun q hq => O.cost q (List.mem_filter.mp hq).1
  wish := fun q hq => O.wish q (List.mem_filter.mp hq).1
  well := O.well
  out := O.out
  sum := O.sum
theorem ok_onPlan (O : s.Ok) (z : Str) (f : List Str → List Str) (hf : ∀ l, l.Nodup → (∀ n, n ∈ l → n ∈ s.names) → (f l).Nodup ∧ ∀ n, n ∈ f l → n ∈ s.names) : ({ s with plans := s.plans.map (onPlan z f) } : Ch).Ok where
  p6 := O.p6
  w6 := by
    show (s.plans.map _).length ≤ 6
    rw [List.length_map]
    exact O.w6
  pnd := O.pnd
  wnd := by
    show ((s.plans.map (onPlan z f)).map (·.name)).Nodup
    rw [names_onPlan]
    exact O.wnd
  pok := O.pok
  wok := fun m hm => by
    have hm2 : m ∈ (s.plans.map (onPlan z f)).map (·.name) := hm
    rw [names_onPlan] at hm2
    exact O.wok m hm2
  pos := O.pos
  cost := fun q hq => by
    obtain ⟨q0, h0, rfl⟩ := List.mem_map.mp hq
    rw [onPlan_cost]
    exact O.cost q0 h0
  wish := fun q hq => by
    obtain ⟨q0, h0, rfl⟩ := List.mem_map.mp hq
    have w := O.wish q0 h0
    unfold onPlan
    split
    · exact hf _ w.1 w.2
    · exact w
  well := O.well
  out := O.out
  sum := O.sum
theorem ok_wantS (O : s.Ok) {n : Str} (z : Str) (hn : n ∈ s.names) : (s.want n z).Ok := ok_onPlan O z _ fun l h1 h2 => by
  unfold addN
  by_cases c : n ∈ l
  · rw [if_pos c]
    exact ⟨h1, h2⟩
  · rw [if_neg c]
    refine ⟨List.nodup_append.mpr ⟨h1, by simp, fun a ha b hb e => c (by rw [← List.mem_singleton.mp hb, ← e]; exact ha)⟩, fun m hm => ?_⟩
    rcases List.mem_append.mp hm with h | h
    · exact h2 m h
    · rw [List.mem_singleton.mp h]; exact hn
theorem ok_unwantS (O : s.Ok) (n z : Str) : (s.unwant n z).Ok := ok_onPlan O z _ fun l h1 h2 => ⟨nd_filter _ h1, fun m hm => h2 m (List.mem_filter.mp hm).1⟩
end
theorem ok_nilS : Ch.nil.Ok := ⟨by decide, by decide, List.nodup_nil, List.nodup_nil, fun _ h => (by cases h), fun _ h => (by cases h), fun _ h => (by cases h), fun _ h => (by cases h), fun _ h => (by cases h), by decide, by decide, by decide⟩
/-! ### rows -/
inductive Cmd
  | enrol (n : Str) | leave (n : Str) | give (c : Int) | propose (z : Str) (c : Int) | withdraw (z : Str) | want (n z : Str) | unwant (n z : Str)
  | close | works | pot | given | spent | purse (n : Str)
def Cmd.word : Cmd → Str
  | .enrol _ => "enrol" | .leave _ => "leave" | .give _ => "give" | .propose _ _ => "propose" | .withdraw _ => "withdraw" | .want _ _ => "want" | .unwant _ _ => "unwant"
  | .close => "close" | .works => "works" | .pot => "pot" | .given => "given" | .spent => "spent" | .purse _ => "purse"
def Cmd.rest : Cmd → List Str
  | .enrol n => [n] | .leave n => [n] | .give c => [numS c] | .propose z c => [z, numS c] | .withdraw z => [z] | .want n z => [n, z] | .unwant n z => [n, z]
  | .purse n => [n] | _ => []
def Cmd.things : Cmd → List V
  | .enrol n => [.str n] | .leave n => [.str n] | .give c => [.int c] | .propose z c => [.str z, .int c] | .withdraw z => [.str z] | .want n z => [.str n, .str z] | .unwant n z => [.str n, .str z]
  | .purse n => [.str n] | _ => []
def Cmd.form : Cmd → Str
  | .enrol _ => "t" | .leave _ => "t" | .give _ => "n" | .propose _ _ => "tn" | .withdraw _ => "t" | .want _ _ => "tt" | .unwant _ _ => "tt" | .purse _ => "t" | _ => ""
def Cmd.row (c : Cmd) : Str := Txt.join " " (c.word :: c.rest)
/-- names in a row are words -/
def Cmd.Words : Cmd → Prop
  | .enrol n => NameOk n | .leave n => NameOk n | .give c => 0 ≤ c ∧ c ≤ 1000000000 | .propose z c => NameOk z ∧ 1 ≤ c ∧ c ≤ 1000000000 | .withdraw z => NameOk z | .want n z => NameOk n ∧ NameOk z | .unwant n z => NameOk n ∧ NameOk z
  | .purse n => NameOk n | _ => True
def Cmd.Fine (s : Ch) : Cmd → Prop
  | .enrol n => n ∉ s.names | .leave n => n ∈ s.names | .give _ => True | .propose z _ => z ∉ s.works | .withdraw z => z ∈ s.works | .want n z => n ∈ s.names ∧ z ∈ s.works | .unwant n z => n ∈ s.names ∧ z ∈ s.works
  | .purse n => n ∈ s.names | _ => True
def Cmd.Bad (s : Ch) : Cmd → Prop
  | .enrol n => n ∈ s.names | .want n z => n ∉ s.names ∨ z ∉ s.works | _ => False
def Cmd.Says (s : Ch) : Cmd → Str → Ch → Prop
  | .enrol n, x, s' => x = "ok" ∧ s' = s.enrol n
  | .leave n, x, s' => x = "ok" ∧ s' = s.leave n
  | .give c, x, s' => x = "ok" ∧ s' = s.give c
  | .propose z c, x, s' => x = "ok" ∧ s' = s.propose z c
  | .withdraw z, x, s' => x = "ok" ∧ s' = s.withdraw z
  | .want n z, x, s' => x = "ok" ∧ s' = s.want n z
  | .unwant n z, x, s' => x = "ok" ∧ s' = s.unwant n z
  | .close, x, s' => ∃ told G, CloseOk s s' told G ∧ x = closeT told G
  | .works, x, s' => x = worksT s.told ∧ s' = s
  | .pot, x, s' => x = numS s.well ∧ s' = s
  | .given, x, s' => x = numS s.gifts ∧ s' = s
  | .spent, x, s' => x = numS s.outlay ∧ s' = s
  | .purse n, x, s' => x = numS (s.purse n) ∧ s' = s
theorem lit_no32 {z : Str} (h : (tl z).all (fun c => decide (c ≠ 32)) = true) : 32 ∉ tl z := fun m => by
  have := List.all_eq_true.mp h 32 m
  simp at this
theorem Cmd.word_no (c : Cmd) : 32 ∉ tl c.word := by
  cases c <;> exact lit_no32 (by rw [Cmd.word, tl_lit]; rfl)
theorem name_ne {z : Str} (h : NameOk z) : z ≠ "" := fun e => by
  have := h.1
  rw [e] at this
  exact absurd this (by decide)
theorem Cmd.rest_ok {c : Cmd} (h : c.Words) : ∀ p, p ∈ c.rest → 32 ∉ tl p ∧ p ≠ "" ∧ p.length ≤ 13 := by
  have nm : ∀ {z : Str}, NameOk z → 32 ∉ tl z ∧ z ≠ "" ∧ z.length ≤ 13 := fun h => ⟨name_no h (by decide), name_ne h, Nat.le_trans (name_len h) (by decide)⟩
  have nu : ∀ {i : Int}, 0 ≤ i → i ≤ 1000000000 → 32 ∉ tl (numS i) ∧ numS i ≠ "" ∧ (numS i).length ≤ 13 := fun h h2 => ⟨num_no h (by decide), num_ne h, num_len h (by decide) (by
    have : (10 : Int) ^ 13 = 10000000000000 := by decide
    omega)⟩
  intro p hp
  cases c with
  | enrol n => rw [List.mem_singleton.mp hp]; exact nm h
  | leave n => rw [List.mem_singleton.mp hp]; exact nm h
  | give n => rw [List.mem_singleton.mp hp]; exact nu h.1 h.2
  | propose z n =>
    have hp2 : p = z ∨ p = numS n := by simpa [Cmd.rest] using hp
    rcases hp2 with e | e
    · rw [e]; exact nm h.1
    · rw [e]; exact nu (by have := h.2.1; omega) h.2.2
  | withdraw z => rw [List.mem_singleton.mp hp]; exact nm h
  | want n z =>
    have hp2 : p = n ∨ p = z := by simpa [Cmd.rest] using hp
    rcases hp2 with e | e
    · rw [e]; exact nm h.1
    · rw [e]; exact nm h.2
  | unwant n z =>
    have hp2 : p = n ∨ p = z := by simpa [Cmd.rest] using hp
    rcases hp2 with e | e
    · rw [e]; exact nm h.1
    · rw [e]; exact nm h.2
  | purse n => rw [List.mem_singleton.mp hp]; exact nm h
  | _ => cases hp
theorem Cmd.word_ne (c : Cmd) : c.word ≠ "" := by cases c <;> (rw [Cmd.word]; decide)
theorem Cmd.word_len (c : Cmd) : c.word.length ≤ 13 := by cases c <;> (rw [Cmd.word]; decide)
theorem Cmd.row_split {c : Cmd} (h : c.Words) : Txt.split c.row " " = c.word :: c.rest := split_sp (by simp) fun p hp => by
  rcases List.mem_cons.mp hp with e | e
  · rw [e]; exact c.word_no
  · exact (Cmd.rest_ok h p e).1
theorem Cmd.row_len {c : Cmd} (h : c.Words) : c.row.length ≤ 100 := by
  have q := len_join_le (y := " ") (parts := c.word :: c.rest) (k := 13) fun p hp => by
    rcases List.mem_cons.mp hp with e | e
    · rw [e]; exact c.word_len
    · exact (Cmd.rest_ok h p e).2.2
  have e3 : (" " : Str).length = 1 := by rw [TL.len_tl, tl_sp]; rfl
  have e4 : (c.word :: c.rest).length ≤ 3 := by cases c <;> (simp [Cmd.rest])
  rw [e3] at q
  have : (c.word :: c.rest).length * (13 + 1) ≤ 3 * 14 := Nat.mul_le_mul_right _ e4
  unfold Cmd.row
  omega
theorem Cmd.form_of (c : Cmd) : formOf c.word = some c.form := by
  cases c <;> (simp only [Cmd.word, Cmd.form]; decide +kernel)
theorem Cmd.form_len (c : Cmd) : c.form.length = c.rest.length := by cases c <;> rfl
theorem Cmd.things_len (c : Cmd) : c.things.length = c.rest.length := by cases c <;> rfl
end Ep
set_option Elab.async false
set_option linter.all false
set_option maxRecDepth 100000
set_option maxHeartbeats 4000000
/-! EpDesk: a desk in the heap, its making, its deeds. -/
namespace Ep
open PySem PySem.Spec PyProof.Rows L2
open TL (tl numL)
/-- a desk at d stands beside what H0 tells -/
def DeskAt (K : PySem.W.Frag) (H0 H : Hp) (d : Addr) (s : Ch) : Prop := ∃ (p dx : Addr) (A : CA), H d = some (.ins (cD K) dx [("chest", .ref p)]) ∧ H0 d = none ∧ d ≠ p ∧ ChestAt K H0 H p s A
section
variable {K : PySem.W.Frag} {H H' H0 H1 : Hp} {d p dx : Addr} {s s' : Ch} {A A' : CA}
theorem DeskAt.base (h : DeskAt K H0 H d s) : Same H0 H := by
  obtain ⟨_, _, _, _, _, _, R⟩ := h
  exact R.base
theorem DeskAt.mono (e : Same H H') (h : DeskAt K H0 H d s) : DeskAt K H0 H' d s := by
  obtain ⟨p, dx, A, h1, h2, h3, R⟩ := h
  exact ⟨p, dx, A, e _ _ h1, h2, h3, R.mono e⟩
theorem DeskAt.narrow (e : Same H1 H0) (h : DeskAt K H0 H d s) : DeskAt K H1 H d s := by
  obtain ⟨p, dx, A, h1, h2, h3, R⟩ := h
  exact ⟨p, dx, A, h1, e.free h2, h3, R.narrow e⟩
theorem ChestAt.notin (h : ChestAt K H0 H p s A) {a C dx : Addr} {fs : List (Str × V)} (o : H a = some (.ins C dx fs)) (n : a ≠ p) : a ∉ fpC p A := fun m => by
  have m2 : a = p ∨ a = A.pe ∨ a = A.he ∨ a = A.pl ∨ a = A.pr ∨ a = A.wi ∨ a ∈ A.ws.map (·.2) := by
    unfold fpC at m
    simpa only [List.mem_cons] using m
  rcases m2 with e | e | e | e | e | e | e
  · exact n e
  · rw [e, h.pe] at o; cases o
  · rw [e, h.he] at o; cases o
  · rw [e, h.pl] at o; cases o
  · rw [e, h.pr] at o; cases o
  · rw [e, h.wi] at o; cases o
  · obtain ⟨q, hq, rfl⟩ := List.mem_map.mp e
    rw [h.wish q hq] at o; cases o
theorem ChestAt.keep (R : ChestAt K H0 H p s A) (f : ∀ a, a ∈ fpC p A → H' a = H a) (e : Same H1 H') (n : ∀ a, a ∈ fpC p A → H1 a = none) : ChestAt K H1 H' p s A := by
  have g : ∀ {a : Addr} {o : HO}, a ∈ fpC p A → H a = some o → H' a = some o := fun m q => by rw [f _ m]; exact q
  obtain ⟨dy, o⟩ := R.obj
  exact ⟨⟨⟨dy, g in0 o⟩, g in1 R.pe, g in2 R.he, g in3 R.pl, g in4 R.pr, g in5 R.wi, R.ws, fun q hq => g (in6 (List.mem_map.mpr ⟨q, hq, rfl⟩)) (R.wish q hq)⟩, e, n, R.nl, R.nd⟩
/-- the chest changed, all else stands -/
theorem desk_step (h1 : H d = some (.ins (cD K) dx [("chest", .ref p)])) (h2 : H0 d = none) (h3 : d ≠ p) (R : ChestAt K H0 H p s A) (R' : ChestAt K (hide (fpC p A) H) H' p s' A') : DeskAt K H0 H' d s' := by
  have nd := R.notin h1 h3
  refine ⟨p, dx, A', R'.base _ _ (by rw [hide_out nd]; exact h1), h2, h3, R'.narrow (hide_into R.base fun a ha => R.new a ha)⟩
/-- all but the desk as the base -/
theorem DeskAt.wide (h : DeskAt K H0 H d s) : ∃ S : List Addr, (∀ a, a ∈ S → H0 a = none) ∧ (∀ a, a ∈ S → ∃ o, H a = some o) ∧ ∀ H', (∀ a, a ∈ S → H' a = H a) → DeskAt K (hide S H') H' d s := by
  obtain ⟨p, dx, A, h1, h2, h3, R⟩ := h
  refine ⟨d :: fpC p A, fun a ha => ?_, fun a ha => ?_, fun H' e => ?_⟩
  · rcases List.mem_cons.mp ha with q | q
    · rw [q]; exact h2
    · exact R.new a q
  · rcases List.mem_cons.mp ha with q | q
    · rw [q]; exact ⟨_, h1⟩
    · have m2 : a = p ∨ a = A.pe ∨ a = A.he ∨ a = A.pl ∨ a = A.pr ∨ a = A.wi ∨ a ∈ A.ws.map (·.2) := by
        unfold fpC at q
        simpa only [List.mem_cons] using q
      rcases m2 with e | e | e | e | e | e | e
      · obtain ⟨dx, o⟩ := R.obj; rw [e]; exact ⟨_, o⟩
      · rw [e]; exact ⟨_, R.pe⟩
      · rw [e]; exact ⟨_, R.he⟩
      · rw [e]; exact ⟨_, R.pl⟩
      · rw [e]; exact ⟨_, R.pr⟩
      · rw [e]; exact ⟨_, R.wi⟩
      · obtain ⟨r, hr, rfl⟩ := List.mem_map.mp e
        exact ⟨_, R.wish r hr⟩
  · exact ⟨p, dx, A, by rw [e _ (List.mem_cons_self ..)]; exact h1, hide_in (List.mem_cons_self ..), h3, R.keep (fun a ha => e a (List.mem_cons_of_mem _ ha)) (hide_le _ _) fun a ha => hide_in (List.mem_cons_of_mem _ ha)⟩
/-- a known thing changes -/
theorem DeskAt.hold {a : Addr} {o o' : HO} (h : DeskAt K H0 H d s) (ha : H0 a = some o) : DeskAt K (upd H0 a o') (upd H a o') d s := by
  obtain ⟨S, s1, s2, s3⟩ := h.wide
  have na : a ∉ S := fun m => by rw [s1 a m] at ha; cases ha
  refine (s3 (upd H a o') fun b hb => upd_ne fun e => na (by rw [← e]; exact hb)).narrow fun b u hb => ?_
  by_cases c : b = a
  · rw [c, upd_same] at hb
    rw [c, hide_out na, upd_same]
    exact hb
  · rw [upd_ne c] at hb
    have nb : b ∉ S := fun m => by rw [s1 b m] at hb; cases hb
    rw [hide_out nb, upd_ne c]
    exact h.base _ _ hb
/-- what is new stands in the base, too -/
theorem DeskAt.grow (h : DeskAt K H0 H d s) (e : Same H H') : ∃ H0', Same H0 H0' ∧ DeskAt K H0' H' d s ∧ ∀ a o, H a = none → H' a = some o → H0' a = some o := by
  obtain ⟨S, s1, s2, s3⟩ := h.wide
  refine ⟨hide S H', hide_into (h.base.trans e) s1, s3 H' fun a ha => ?_, fun a o h1 h2 => ?_⟩
  · obtain ⟨o, q⟩ := s2 a ha
    rw [q]
    exact e _ _ q
  · rw [hide_out fun m => by
      obtain ⟨o, q⟩ := s2 a m
      rw [h1] at q
      cases q]
    exact h2
/-- everything known changes as it likes -/
theorem DeskAt.frame (h : DeskAt K H0 H d s) {H0' : Hp} (e1 : ∀ a o, H0 a = none → H a = some o → H' a = some o) (e2 : Same H0' H') (e3 : ∀ a o, H0 a = none → H a = some o → H0' a = none) : DeskAt K H0' H' d s := by
  obtain ⟨S, s1, s2, s3⟩ := h.wide
  refine (s3 H' fun a ha => ?_).narrow (hide_into e2 fun a ha => ?_)
  · obtain ⟨o, q⟩ := s2 a ha
    rw [q]
    exact e1 a o (s1 a ha) q
  · obtain ⟨o, q⟩ := s2 a ha
    exact e3 a o (s1 a ha) q
end
/-! ### promises -/
def spDesk (K : PySem.W.Frag) : Sp := fun vs H Q _ => ∃ (H0 : Hp) (d dx : Addr), vs = [.ref d] ∧ Same H0 H ∧ H0 d = none ∧ H d = some (.ins (cD K) dx []) ∧ ∀ H', DeskAt K H0 H' d Ch.nil → Q .non H'
def Cmd.Deed : Cmd → Prop
  | .close => False | .works => False | .pot => False | .given => False | .spent => False | .purse _ => False | _ => True
def spDone (K : PySem.W.Frag) : Sp := fun vs H Q E => ∃ (H0 : Hp) (d t : Addr) (s : Ch) (c : Cmd), vs = [.ref d, .str c.word, .ref t] ∧ DeskAt K H0 H d s ∧ H t = some (.lst c.things) ∧ s.Ok ∧ c.Deed ∧ c.Words ∧
  ((c.Fine s ∧ ∀ x s' H', c.Says s x s' → DeskAt K H0 H' d s' → Q .non H') ∨ (c.Bad s ∧ ∀ C, PySem.W.exmOne K (.ref C) (.ref (He.ga K "PurseError")) = some true → E (.ref C) none H))
section
variable {P : Program} {w : World} {K : PySem.W.Frag} {mg : Str → Option Value} {base : Heap}
theorem sc_dinit : FnScope ["self"] ["self"] (defScope s_Desk_init) := ⟨rfl, rfl, rfl, by decide +kernel, rfl, by decide +kernel, by decide +kernel⟩
theorem ok_dinit (T : Tx K mg) : Def P w K mg base CX0 3 (He.fAd K d_Desk_init.at_) ["self"] (spDesk K) := by
  obtain ⟨fd, F⟩ := T.f_Desk_init
  obtain ⟨fd2, F2, b2, kp2⟩ := ok_chest (P := P) (w := w) (base := base) T
  refine ⟨fd, F.ok sc_dinit (fun vs H Q E h => ?_) (fun cdv A outer s H vs Q E hr h => ?_), F.bindsN (fun _ _ _ _ _ _ us hl => match us, hl with | [_], _ => rfl), F.kp⟩
  · obtain ⟨_, _, _, rfl, _⟩ := h
    rfl
  · obtain ⟨H0, d, dx, rfl, s0, d0, hd, k⟩ := h
    refine ⟨_, PSs.nox (pss_one (ps_fld (pv 0) (pe_make0 T.mk_Chest F2 hr (by rfl) T.g_Chest b2 .nil pass0) rfl)), ?_⟩
    intro x xd nx nxd ne
    have ex : d ≠ x := ne_of_none hd nx
    have exd : d ≠ xd := ne_of_none hd nxd
    have sx : Same H (upd (upd H xd (.own x)) x (.ins (cC K) xd [])) := (snew nxd).trans (snew (by rw [upd_ne ne.symm]; exact nx))
    refine ⟨H0, x, xd, rfl, s0.trans sx, s0.free nx, upd_same, fun H' A C fr => ⟨rfl, ?_⟩⟩
    have hd' : H' d = some (.ins (cD K) dx []) := fr d _ (sx _ _ hd) ex
    refine ⟨_, rfl, d, _, dx, _, rfl, hd', T.cl_Desk, T.n_chest, (by show 0 < 1000; decide), ?_⟩
    have nd := C.notin hd' ex
    exact k _ ⟨x, dx, A, upd_same, d0, ex, C.keep (fun a ha => upd_ne fun e => nd (by rw [← e]; exact ha)) (smut C.base d0) C.new⟩
theorem wordF {x y : Str} (h : x ≠ y) : decide (V.str x = V.str y) = false := decide_eq_false fun e => h (V.str.inj e)
theorem sc_done : FnScope ["self", "word", "things"] ["self", "word", "things"] (defScope s_Desk_done_by) := ⟨rfl, rfl, rfl, by decide +kernel, rfl, by decide +kernel, by decide +kernel⟩
theorem ok_done (T : Tx K mg) : Def P w K mg base (L2.CX P w) 4 (He.fAd K d_Desk_done_by.at_) ["self", "word", "things"] (spDone K) := by
  obtain ⟨fd, F⟩ := T.f_Desk_done_by
  refine ⟨fd, F.ok sc_done (fun vs H Q E h => ?_) (fun cdv A outer s H vs Q E hr h => ?_), F.bindsN (fun _ _ _ _ _ _ us hl => match us, hl with | [_, _, _], _ => rfl), F.kp⟩
  · obtain ⟨_, _, _, _, _, rfl, _⟩ := h
    rfl
  · obtain ⟨H0, d, t, s, c, rfl, D, ht, O, cd, cw, k⟩ := h
    obtain ⟨p, dx, A, h1, h2, h3, R⟩ := D
    obtain ⟨dc, oc⟩ := R.obj
    refine ⟨_, pss_one (ps_if (pt_cmpR op_eq (pv 1) pe_str (nomark _)) (pss_one (ps_expr (pe_m (E := E) (ok_enrol T) hr (passX rfl rfl rfl rfl) T.cl_Chest T.m_enrol (pe_fld (pv 0) rfl) (pa_cons (pe_ix ix_list (pv 2) pe_int (fun _ _ => rfl)) pa_nil))))
      (pss_one (ps_if (pt_cmpR op_eq (pv 1) pe_str (nomark _)) (pss_one (ps_expr (pe_m (E := E0) (ok_leave T) hr pass0 T.cl_Chest T.m_leave (pe_fld (pv 0) rfl) (pa_cons (pe_ix ix_list (pv 2) pe_int (fun _ _ => rfl)) pa_nil))))
      (pss_one (ps_if (pt_cmpR op_eq (pv 1) pe_str (nomark _)) (pss_one (ps_expr (pe_m (E := E0) (ok_give T) hr pass0 T.cl_Chest T.m_give (pe_fld (pv 0) rfl) (pa_cons (pe_ix ix_list (pv 2) pe_int (fun _ _ => rfl)) pa_nil))))
      (pss_one (ps_if (pt_cmpR op_eq (pv 1) pe_str (nomark _)) (pss_one (ps_expr (pe_m (E := E0) (ok_propose T) hr pass0 T.cl_Chest T.m_propose (pe_fld (pv 0) rfl) (pa_cons (pe_ix ix_list (pv 2) pe_int (fun _ _ => rfl)) (pa_cons (pe_ix ix_list (pv 2) pe_int (fun _ _ => rfl)) pa_nil)))))
      (pss_one (ps_if (pt_cmpR op_eq (pv 1) pe_str (nomark _)) (pss_one (ps_expr (pe_m (E := E0) (ok_withdraw T) hr pass0 T.cl_Chest T.m_withdraw (pe_fld (pv 0) rfl) (pa_cons (pe_ix ix_list (pv 2) pe_int (fun _ _ => rfl)) pa_nil))))
      (pss_one (ps_if (pt_cmpR op_eq (pv 1) pe_str (nomark _)) (pss_one (ps_expr (pe_m (E := E) (ok_want T) hr (passX rfl rfl rfl rfl) T.cl_Chest T.m_want (pe_fld (pv 0) rfl) (pa_cons (pe_ix ix_list (pv 2) pe_int (fun _ _ => rfl)) (pa_cons (pe_ix ix_list (pv 2) pe_int (fun _ _ => rfl)) pa_nil)))))
      (pss_one (ps_expr (pe_m (E := E0) (ok_unwant T) hr pass0 T.cl_Chest T.m_unwant (pe_fld (pv 0) rfl) (pa_cons (pe_ix ix_list (pv 2) pe_int (fun _ _ => rfl)) (pa_cons (pe_ix ix_list (pv 2) pe_int (fun _ _ => rfl)) pa_nil)))))))))))))))), ?_⟩
    have RW := R.wide
    cases c with
    | enrol n =>
      refine ⟨_, rfl, rfl, _, rfl, ?_⟩
      rw [show decide (V.str (Cmd.enrol n).word = V.str "enrol") = true from decide_eq_true rfl]
      refine ⟨_, rfl, d, _, dx, _, _, rfl, h1, T.cl_Desk, T.n_chest, rfl, p, dc, _, rfl, oc, rfl, _, rfl, t, _, _, _, rfl, rfl, SqL.of ht, atI_nat (j := 0) rfl, ?_⟩
      refine ⟨_, p, s, A, n, rfl, RW, O, cw, fun hn H' A' C => ?_, fun hn => ?_⟩
      · rcases k with ⟨_, k⟩ | ⟨kb, _⟩
        · exact k "ok" _ _ ⟨rfl, rfl⟩ (desk_step h1 h2 h3 R C)
        · exact absurd kb hn
      · rcases k with ⟨kf, _⟩ | ⟨_, k⟩
        · exact absurd hn kf
        · exact k _ T.e_Twice
    | leave n =>
      refine ⟨_, rfl, rfl, _, rfl, ?_⟩
      rw [wordF (show (Cmd.leave n).word ≠ "enrol" by rw [Cmd.word]; decide)]
      refine ⟨_, rfl, rfl, _, rfl, ?_⟩
      rw [show decide (V.str (Cmd.leave n).word = V.str "leave") = true from decide_eq_true rfl]
      rcases k with ⟨kf, k⟩ | ⟨kb, _⟩
      · refine ⟨_, rfl, d, _, dx, _, _, rfl, h1, T.cl_Desk, T.n_chest, rfl, p, dc, _, rfl, oc, rfl, _, rfl, t, _, _, _, rfl, rfl, SqL.of ht, atI_nat (j := 0) rfl, ?_⟩
        exact ⟨_, p, s, A, n, rfl, RW, O, kf, fun H' A' C => k "ok" _ _ ⟨rfl, rfl⟩ (desk_step h1 h2 h3 R C)⟩
      · exact kb.elim
    | give n =>
      refine ⟨_, rfl, rfl, _, rfl, ?_⟩
      rw [wordF (show (Cmd.give n).word ≠ "enrol" by rw [Cmd.word]; decide)]
      refine ⟨_, rfl, rfl, _, rfl, ?_⟩
      rw [wordF (show (Cmd.give n).word ≠ "leave" by rw [Cmd.word]; decide)]
      refine ⟨_, rfl, rfl, _, rfl, ?_⟩
      rw [show decide (V.str (Cmd.give n).word = V.str "give") = true from decide_eq_true rfl]
      rcases k with ⟨kf, k⟩ | ⟨kb, _⟩
      · refine ⟨_, rfl, d, _, dx, _, _, rfl, h1, T.cl_Desk, T.n_chest, rfl, p, dc, _, rfl, oc, rfl, _, rfl, t, _, _, _, rfl, rfl, SqL.of ht, atI_nat (j := 0) rfl, ?_⟩
        exact ⟨_, p, s, A, n, rfl, RW, O, cw.1, cw.2, fun H' A' C => k "ok" _ _ ⟨rfl, rfl⟩ (desk_step h1 h2 h3 R C)⟩
      · exact kb.elim
    | propose z n =>
      refine ⟨_, rfl, rfl, _, rfl, ?_⟩
      rw [wordF (show (Cmd.propose z n).word ≠ "enrol" by rw [Cmd.word]; decide)]
      refine ⟨_, rfl, rfl, _, rfl, ?_⟩
      rw [wordF (show (Cmd.propose z n).word ≠ "leave" by rw [Cmd.word]; decide)]
      refine ⟨_, rfl, rfl, _, rfl, ?_⟩
      rw [wordF (show (Cmd.propose z n).word ≠ "give" by rw [Cmd.word]; decide)]
      refine ⟨_, rfl, rfl, _, rfl, ?_⟩
      rw [show decide (V.str (Cmd.propose z n).word = V.str "propose") = true from decide_eq_true rfl]
      rcases k with ⟨kf, k⟩ | ⟨kb, _⟩
      · refine ⟨_, rfl, d, _, dx, _, _, rfl, h1, T.cl_Desk, T.n_chest, rfl, p, dc, _, rfl, oc, rfl, _, rfl, t, _, _, _, rfl, rfl, SqL.of ht, atI_nat (j := 0) rfl, _, rfl, t, _, _, _, rfl, rfl, SqL.of ht, atI_nat (j := 1) rfl, ?_⟩
        exact ⟨_, p, s, A, z, n, rfl, RW, O, cw.1, kf, cw.2.1, cw.2.2, fun H' A' C => k "ok" _ _ ⟨rfl, rfl⟩ (desk_step h1 h2 h3 R C)⟩
      · exact kb.elim
    | withdraw z =>
      refine ⟨_, rfl, rfl, _, rfl, ?_⟩
      rw [wordF (show (Cmd.withdraw z).word ≠ "enrol" by rw [Cmd.word]; decide)]
      refine ⟨_, rfl, rfl, _, rfl, ?_⟩
      rw [wordF (show (Cmd.withdraw z).word ≠ "leave" by rw [Cmd.word]; decide)]
      refine ⟨_, rfl, rfl, _, rfl, ?_⟩
      rw [wordF (show (Cmd.withdraw z).word ≠ "give" by rw [Cmd.word]; decide)]
      refine ⟨_, rfl, rfl, _, rfl, ?_⟩
      rw [wordF (show (Cmd.withdraw z).word ≠ "propose" by rw [Cmd.word]; decide)]
      refine ⟨_, rfl, rfl, _, rfl, ?_⟩
      rw [show decide (V.str (Cmd.withdraw z).word = V.str "withdraw") = true from decide_eq_true rfl]
      rcases k with ⟨kf, k⟩ | ⟨kb, _⟩
      · refine ⟨_, rfl, d, _, dx, _, _, rfl, h1, T.cl_Desk, T.n_chest, rfl, p, dc, _, rfl, oc, rfl, _, rfl, t, _, _, _, rfl, rfl, SqL.of ht, atI_nat (j := 0) rfl, ?_⟩
        exact ⟨_, p, s, A, z, rfl, RW, ⟨O.wnd, O.wok⟩, kf, fun H' A' C => k "ok" _ _ ⟨rfl, rfl⟩ (desk_step h1 h2 h3 R C)⟩
      · exact kb.elim
    | want n z =>
      refine ⟨_, rfl, rfl, _, rfl, ?_⟩
      rw [wordF (show (Cmd.want n z).word ≠ "enrol" by rw [Cmd.word]; decide)]
      refine ⟨_, rfl, rfl, _, rfl, ?_⟩
      rw [wordF (show (Cmd.want n z).word ≠ "leave" by rw [Cmd.word]; decide)]
      refine ⟨_, rfl, rfl, _, rfl, ?_⟩
      rw [wordF (show (Cmd.want n z).word ≠ "give" by rw [Cmd.word]; decide)]
      refine ⟨_, rfl, rfl, _, rfl, ?_⟩
      rw [wordF (show (Cmd.want n z).word ≠ "propose" by rw [Cmd.word]; decide)]
      refine ⟨_, rfl, rfl, _, rfl, ?_⟩
      rw [wordF (show (Cmd.want n z).word ≠ "withdraw" by rw [Cmd.word]; decide)]
      refine ⟨_, rfl, rfl, _, rfl, ?_⟩
      rw [show decide (V.str (Cmd.want n z).word = V.str "want") = true from decide_eq_true rfl]
      refine ⟨_, rfl, d, _, dx, _, _, rfl, h1, T.cl_Desk, T.n_chest, rfl, p, dc, _, rfl, oc, rfl, _, rfl, t, _, _, _, rfl, rfl, SqL.of ht, atI_nat (j := 0) rfl, _, rfl, t, _, _, _, rfl, rfl, SqL.of ht, atI_nat (j := 1) rfl, ?_⟩
      refine ⟨_, p, s, A, n, z, rfl, RW, O, fun hn hz H' A' C => ?_, fun hn => ?_, fun hn hz => ?_⟩
      · rcases k with ⟨_, k⟩ | ⟨kb, _⟩
        · exact k "ok" _ _ ⟨rfl, rfl⟩ (desk_step h1 h2 h3 R C)
        · rcases kb with kb | kb
          · exact absurd hn kb
          · exact absurd hz kb
      · rcases k with ⟨kf, _⟩ | ⟨_, k⟩
        · exact absurd kf.1 hn
        · exact k _ T.e_NoVoter
      · rcases k with ⟨kf, _⟩ | ⟨_, k⟩
        · exact absurd kf.2 hz
        · exact k _ T.e_NoWork
    | unwant n z =>
      refine ⟨_, rfl, rfl, _, rfl, ?_⟩
      rw [wordF (show (Cmd.unwant n z).word ≠ "enrol" by rw [Cmd.word]; decide)]
      refine ⟨_, rfl, rfl, _, rfl, ?_⟩
      rw [wordF (show (Cmd.unwant n z).word ≠ "leave" by rw [Cmd.word]; decide)]
      refine ⟨_, rfl, rfl, _, rfl, ?_⟩
      rw [wordF (show (Cmd.unwant n z).word ≠ "give" by rw [Cmd.word]; decide)]
      refine ⟨_, rfl, rfl, _, rfl, ?_⟩
      rw [wordF (show (Cmd.unwant n z).word ≠ "propose" by rw [Cmd.word]; decide)]
      refine ⟨_, rfl, rfl, _, rfl, ?_⟩
      rw [wordF (show (Cmd.unwant n z).word ≠ "withdraw" by rw [Cmd.word]; decide)]
      refine ⟨_, rfl, rfl, _, rfl, ?_⟩
      rw [wordF (show (Cmd.unwant n z).word ≠ "want" by rw [Cmd.word]; decide)]
      rcases k with ⟨kf, k⟩ | ⟨kb, _⟩
      · refine ⟨_, rfl, d, _, dx, _, _, rfl, h1, T.cl_Desk, T.n_chest, rfl, p, dc, _, rfl, oc, rfl, _, rfl, t, _, _, _, rfl, rfl, SqL.of ht, atI_nat (j := 0) rfl, _, rfl, t, _, _, _, rfl, rfl, SqL.of ht, atI_nat (j := 1) rfl, ?_⟩
        exact ⟨_, p, s, A, n, z, rfl, RW, O, kf.1, kf.2, fun H' A' C => k "ok" _ _ ⟨rfl, rfl⟩ (desk_step h1 h2 h3 R C)⟩
      · exact kb.elim
    | _ => exact cd.elim
end
end Ep
set_option Elab.async false
set_option linter.all false
set_option maxRecDepth 100000
set_option maxHeartbeats 4000000
/-! EpSay: what a desk says. -/
namespace Ep
open PySem PySem.Spec PyProof.Rows L2
open TL (tl numL)
theorem le_sum_mem {l : List Int} (h : ∀ x, x ∈ l → 0 ≤ x) {x : Int} (hx : x ∈ l) : x ≤ l.sum := by
  induction l with
  | nil => cases hx
  | cons a r ih =>
    have ha := h a (List.mem_cons_self ..)
    have hs : 0 ≤ r.sum := by
      clear ih hx
      induction r with
      | nil => exact Int.le_refl _
      | cons b t ih =>
        have hb := h b (by simp)
        have := ih fun y hy => h y (by
          rcases List.mem_cons.mp hy with e | e
          · rw [e]; simp
          · simp [e])
        rw [List.sum_cons]
        omega
    rw [List.sum_cons]
    rcases List.mem_cons.mp hx with e | e
    · rw [e]; omega
    · have := ih (fun y hy => h y (List.mem_cons_of_mem _ hy)) e
      omega
section
variable {s s' : Ch} {told : List Done} {G : Int}
theorem close_dok (O : s.Ok) (C : CloseOk s s' told G) : (∀ d, d ∈ told → DOk d) ∧ told.length ≤ 6 := by
  refine ⟨fun d hd => ?_, ?_⟩
  · obtain ⟨q, hq, en, ec, hr⟩ := C.work d hd
    have c := O.cost q hq
    have g2 := C.g2
    have g1 := C.g1
    have b30 : (10 : Int) ^ 30 = 1000000000000000000000000000000 := by decide
    have bound : d.cost * G ≤ 1000000000 * 2799360000000 := Int.mul_le_mul (by omega) g2 (by omega) (by decide)
    refine ⟨by rw [← en]; exact O.wok _ (List.mem_map.mpr ⟨q, hq, rfl⟩), by omega, by omega, fun r hrm => ?_, ?_⟩
    · have m := hr r hrm
      have p := C.rpos d hd r hrm
      have le := le_sum_mem (l := d.rows.map (·.2)) (fun x hx => by
        obtain ⟨r2, h2, rfl⟩ := List.mem_map.mp hx
        have := C.rpos d hd r2 h2
        omega) (List.mem_map.mpr ⟨r, hrm, rfl⟩)
      rw [C.rsum d hd] at le
      exact ⟨O.pok _ (List.mem_filter.mp m).1, by omega, by omega⟩
    · have z := pigeon (C.rnd d hd) (m := s.names) fun n hn => by
        obtain ⟨r, hrm, rfl⟩ := List.mem_map.mp hn
        exact (List.mem_filter.mp (hr r hrm)).1
      have e1 : s.names.length = s.people.length := List.length_map ..
      have := O.p6
      rw [List.length_map] at z
      omega
  · have z := pigeon C.nd (m := s.works) fun n hn => by
      obtain ⟨d, hd, rfl⟩ := List.mem_map.mp hn
      obtain ⟨q, hq, en, _⟩ := C.work d hd
      rw [← en]
      exact List.mem_map.mpr ⟨q, hq, rfl⟩
    have e1 : s.works.length = s.plans.length := List.length_map ..
    have := O.w6
    rw [List.length_map] at z
    omega
theorem told_wok (O : s.Ok) : (∀ q, q ∈ s.told → WOk q) ∧ s.told.length ≤ 6 := by
  refine ⟨fun q hq => ?_, ?_⟩
  · obtain ⟨p, hp, rfl⟩ := List.mem_map.mp hq
    have c := O.cost p hp
    have b30 : (10 : Int) ^ 30 = 1000000000000000000000000000000 := by decide
    refine ⟨O.wok _ (List.mem_map.mpr ⟨p, hp, rfl⟩), by show 0 ≤ p.cost; omega, by show p.cost < 10 ^ 30; omega, fun n hn => O.pok n (List.mem_filter.mp hn).1, ?_⟩
    have z := List.length_filter_le (fun n => decide (n ∈ p.wish)) s.names
    have e1 : s.names.length = s.people.length := List.length_map ..
    have := O.p6
    show (s.names.filter _).length ≤ 6
    omega
  · unfold Ch.told
    rw [List.length_map]
    exact O.w6
theorem ok_bounds (O : s.Ok) (hg : s.gifts ≤ 1000000000000) : (0 ≤ s.well ∧ s.well < 10 ^ 30) ∧ (0 ≤ s.gifts ∧ s.gifts < 10 ^ 30) ∧ (0 ≤ s.outlay ∧ s.outlay < 10 ^ 30) ∧ ∀ n, 0 ≤ s.purse n ∧ s.purse n < 10 ^ 30 := by
  have b30 : (10 : Int) ^ 30 = 1000000000000000000000000000000 := by decide
  have e := O.sum
  have w := O.well
  have o := O.out
  have ps : 0 ≤ s.purses := by
    unfold Ch.purses
    have : ∀ l : List (Str × Int), (∀ q, q ∈ l → 0 ≤ q.2) → 0 ≤ (l.map (·.2)).sum := fun l => by
      induction l with
      | nil => intro _; exact Int.le_refl _
      | cons a r ih =>
        intro h
        have h1 := h a (List.mem_cons_self ..)
        have h2 := ih fun q hq => h q (List.mem_cons_of_mem _ hq)
        rw [List.map_cons, List.sum_cons]
        omega
    exact this _ O.pos
  refine ⟨⟨w, by omega⟩, ⟨by omega, by omega⟩, ⟨o, by omega⟩, fun n => ?_⟩
  have p := Ch.purse_pos O n
  refine ⟨p, ?_⟩
  unfold Ch.purse
  cases e2 : s.people.find? fun q => decide (q.1 = n) with
  | none => show (0 : Int) < _; omega
  | some q =>
    have m := List.mem_of_find?_eq_some e2
    have le := le_sum_mem (l := s.people.map (·.2)) (fun x hx => by
      obtain ⟨r2, h2, rfl⟩ := List.mem_map.mp hx
      exact O.pos r2 h2) (List.mem_map.mpr ⟨q, m, rfl⟩)
    have e3 : s.purses = (s.people.map (·.2)).sum := rfl
    show q.2 < _
    omega
end
def spAsked (K : PySem.W.Frag) : Sp := fun vs H Q _ => ∃ (H0 : Hp) (d t : Addr) (s : Ch) (c : Cmd), vs = [.ref d, .str c.word, .ref t] ∧ DeskAt K H0 H d s ∧ H t = some (.lst c.things) ∧ s.Ok ∧ s.gifts ≤ 1000000000000 ∧ ¬ c.Deed ∧ c.Fine s ∧
  ∀ x s' H', c.Says s x s' → DeskAt K H0 H' d s' → Q (.str x) H'
def spSay (K : PySem.W.Frag) : Sp := fun vs H Q E => ∃ (H0 : Hp) (d : Addr) (s : Ch) (c : Cmd), vs = [.ref d, .str c.row] ∧ DeskAt K H0 H d s ∧ s.Ok ∧ s.gifts ≤ 1000000000000 ∧ c.Words ∧
  ((c.Fine s ∧ ∀ x s' H', c.Says s x s' → DeskAt K H0 H' d s' → Q (.str x) H') ∨ (c.Bad s ∧ ∀ C H', PySem.W.exmOne K (.ref C) (.ref (He.ga K "PurseError")) = some true → DeskAt K H0 H' d s → E (.ref C) none H'))
section
variable {P : Program} {w : World} {K : PySem.W.Frag} {mg : Str → Option Value} {base : Heap}
theorem sc_asked : FnScope ["self", "word", "things", "name", "purse"] ["self", "word", "things"] (defScope s_Desk_asked_of) := ⟨rfl, rfl, rfl, by decide +kernel, rfl, by decide +kernel, by decide +kernel⟩
theorem ok_asked (T : Tx K mg) : Def P w K mg base CX0 9 (He.fAd K d_Desk_asked_of.at_) ["self", "word", "things"] (spAsked K) := by
  obtain ⟨fd, F⟩ := T.f_Desk_asked_of
  refine ⟨fd, F.ok sc_asked (fun vs H Q E h => ?_) (fun cdv A outer s H vs Q E hr h => ?_), F.bindsN (fun _ _ _ _ _ _ us hl => match us, hl with | [_, _, _], _ => rfl), F.kp⟩
  · obtain ⟨_, _, _, _, _, rfl, _⟩ := h
    rfl
  · obtain ⟨H0, d, t, s, c, rfl, D, ht, O, hg, cd, cf, k⟩ := h
    obtain ⟨p, dx, A, h1, h2, h3, R⟩ := D
    obtain ⟨dc, oc⟩ := R.obj
    refine ⟨_, PSs.nox (pss_cons (ps_if (pt_cmpR op_eq (pv 1) pe_str (nomark _)) (pss_one (ps_ret (pe_f (ok_shc T) hr pass0 T.g_show_closed (pa_cons (pe_m0 (ok_close T) hr pass0 T.cl_Chest T.m_close (pe_fld (pv 0) rfl)) pa_nil)))) pss_nil)
      (pss_cons (ps_if (pt_cmpR op_eq (pv 1) pe_str (nomark _)) (pss_one (ps_ret (pe_f (ok_sw T) hr pass0 T.g_show_works (pa_cons (pe_m0 (ok_works T) hr pass0 T.cl_Chest T.m_works (pe_fld (pv 0) rfl)) pa_nil)))) pss_nil)
      (pss_cons (ps_if (pt_cmpR op_eq (pv 1) pe_str (nomark _)) (pss_one (ps_ret (pe_callTy call_str_int (by rfl) T.z_str (by decide +kernel) (pa_cons (pe_m0 (ok_pot T) hr pass0 T.cl_Chest T.m_pot (pe_fld (pv 0) rfl)) pa_nil)))) pss_nil)
      (pss_cons (ps_if (pt_cmpR op_eq (pv 1) pe_str (nomark _)) (pss_one (ps_ret (pe_callTy call_str_int (by rfl) T.z_str (by decide +kernel) (pa_cons (pe_m0 (ok_given T) hr pass0 T.cl_Chest T.m_given (pe_fld (pv 0) rfl)) pa_nil)))) pss_nil)
      (pss_cons (ps_if (pt_cmpR op_eq (pv 1) pe_str (nomark _)) (pss_one (ps_ret (pe_callTy call_str_int (by rfl) T.z_str (by decide +kernel) (pa_cons (pe_m0 (ok_spent T) hr pass0 T.cl_Chest T.m_spent (pe_fld (pv 0) rfl)) pa_nil)))) pss_nil)
      (pss_cons (ps_for PassesOwn.never rfl (pi_list (pe_m0 (ok_voters T) hr pass0 T.cl_Chest T.m_voters (pe_fld (pv 0) rfl))) (pg_tup rfl (pgs_cons (pg_name (i := 3) sc_asked.nd rfl (.inl rfl)) (pgs_cons (pg_name (i := 4) sc_asked.nd rfl (.inl rfl)) pgs_nil)))
        (pss_one (ps_if (pt_cmpR op_eq (pv 3) (pe_ix ix_list (pv 2) pe_int (fun _ _ => rfl)) (nomark _)) (pss_one (ps_ret (pe_callTy call_str_int (by rfl) T.z_str (by decide +kernel) (pa_cons (pv 4) pa_nil)))) pss_nil)))
      (pss_one ps_never))))))), ?_⟩
    have RW := R.wide
    have B := ok_bounds O hg
    have same : ∀ {H' : Hp}, Same H H' → DeskAt K H0 H' d s := fun e => DeskAt.mono e ⟨p, dx, A, h1, h2, h3, R⟩
    cases c with
    | close =>
      refine ⟨_, rfl, rfl, _, rfl, ?_⟩
      rw [show decide (V.str Cmd.close.word = V.str "close") = true from decide_eq_true rfl]
      refine ⟨_, rfl, d, _, dx, _, _, rfl, h1, T.cl_Desk, T.n_chest, rfl, p, dc, _, rfl, oc, rfl, ?_⟩
      refine ⟨_, p, s, A, rfl, RW, O, hg, fun u H' s' A' told G lt ts C CO hu hl hE => ?_⟩
      have dk := close_dok O CO
      have g1 := CO.g1
      have g2 := CO.g2
      have b30 : (10 : Int) ^ 30 = 1000000000000000000000000000000 := by decide
      refine ⟨u, lt, ts, told, G, rfl, hu, hl, hE, dk.1, dk.2, by omega, by omega, fun H2 e2 => ?_⟩
      exact k _ s' H2 ⟨told, G, CO, rfl⟩ ((desk_step h1 h2 h3 R C).mono e2)
    | works =>
      refine ⟨_, rfl, rfl, _, rfl, ?_⟩
      rw [wordF (show Cmd.works.word ≠ "close" by rw [Cmd.word]; decide)]
      refine ⟨_, rfl, rfl, _, rfl, ?_⟩
      rw [show decide (V.str Cmd.works.word = V.str "works") = true from decide_eq_true rfl]
      refine ⟨_, rfl, d, _, dx, _, _, rfl, h1, T.cl_Desk, T.n_chest, rfl, p, dc, _, rfl, oc, rfl, ?_⟩
      refine ⟨p, s, A, rfl, R.toChestR, O, fun l H' ts e hl hl2 hE => ?_⟩
      have wk := told_wok O
      exact ⟨l, ts, s.told, rfl, hl2, hE, wk.1, wk.2, fun H2 e2 => k _ s H2 ⟨rfl, rfl⟩ (same (e.trans e2))⟩
    | pot =>
      refine ⟨_, rfl, rfl, _, rfl, ?_⟩
      rw [wordF (show Cmd.pot.word ≠ "close" by rw [Cmd.word]; decide)]
      refine ⟨_, rfl, rfl, _, rfl, ?_⟩
      rw [wordF (show Cmd.pot.word ≠ "works" by rw [Cmd.word]; decide)]
      refine ⟨_, rfl, rfl, _, rfl, ?_⟩
      rw [show decide (V.str Cmd.pot.word = V.str "pot") = true from decide_eq_true rfl]
      refine ⟨_, rfl, d, _, dx, _, _, rfl, h1, T.cl_Desk, T.n_chest, rfl, p, dc, _, rfl, oc, rfl, ?_⟩
      exact ⟨p, s, A, rfl, R.toChestR, _, rfl, log_ok B.1.1 B.1.2, k _ s H ⟨rfl, rfl⟩ (same fun _ _ q => q)⟩
    | given =>
      refine ⟨_, rfl, rfl, _, rfl, ?_⟩
      rw [wordF (show Cmd.given.word ≠ "close" by rw [Cmd.word]; decide)]
      refine ⟨_, rfl, rfl, _, rfl, ?_⟩
      rw [wordF (show Cmd.given.word ≠ "works" by rw [Cmd.word]; decide)]
      refine ⟨_, rfl, rfl, _, rfl, ?_⟩
      rw [wordF (show Cmd.given.word ≠ "pot" by rw [Cmd.word]; decide)]
      refine ⟨_, rfl, rfl, _, rfl, ?_⟩
      rw [show decide (V.str Cmd.given.word = V.str "given") = true from decide_eq_true rfl]
      refine ⟨_, rfl, d, _, dx, _, _, rfl, h1, T.cl_Desk, T.n_chest, rfl, p, dc, _, rfl, oc, rfl, ?_⟩
      exact ⟨p, s, A, rfl, R.toChestR, _, rfl, log_ok B.2.1.1 B.2.1.2, k _ s H ⟨rfl, rfl⟩ (same fun _ _ q => q)⟩
    | spent =>
      refine ⟨_, rfl, rfl, _, rfl, ?_⟩
      rw [wordF (show Cmd.spent.word ≠ "close" by rw [Cmd.word]; decide)]
      refine ⟨_, rfl, rfl, _, rfl, ?_⟩
      rw [wordF (show Cmd.spent.word ≠ "works" by rw [Cmd.word]; decide)]
      refine ⟨_, rfl, rfl, _, rfl, ?_⟩
      rw [wordF (show Cmd.spent.word ≠ "pot" by rw [Cmd.word]; decide)]
      refine ⟨_, rfl, rfl, _, rfl, ?_⟩
      rw [wordF (show Cmd.spent.word ≠ "given" by rw [Cmd.word]; decide)]
      refine ⟨_, rfl, rfl, _, rfl, ?_⟩
      rw [show decide (V.str Cmd.spent.word = V.str "spent") = true from decide_eq_true rfl]
      refine ⟨_, rfl, d, _, dx, _, _, rfl, h1, T.cl_Desk, T.n_chest, rfl, p, dc, _, rfl, oc, rfl, ?_⟩
      exact ⟨p, s, A, rfl, R.toChestR, _, rfl, log_ok B.2.2.1.1 B.2.2.1.2, k _ s H ⟨rfl, rfl⟩ (same fun _ _ q => q)⟩
    | purse n =>
      refine ⟨_, rfl, rfl, _, rfl, ?_⟩
      rw [wordF (show (Cmd.purse n).word ≠ "close" by rw [Cmd.word]; decide)]
      refine ⟨_, rfl, rfl, _, rfl, ?_⟩
      rw [wordF (show (Cmd.purse n).word ≠ "works" by rw [Cmd.word]; decide)]
      refine ⟨_, rfl, rfl, _, rfl, ?_⟩
      rw [wordF (show (Cmd.purse n).word ≠ "pot" by rw [Cmd.word]; decide)]
      refine ⟨_, rfl, rfl, _, rfl, ?_⟩
      rw [wordF (show (Cmd.purse n).word ≠ "given" by rw [Cmd.word]; decide)]
      refine ⟨_, rfl, rfl, _, rfl, ?_⟩
      rw [wordF (show (Cmd.purse n).word ≠ "spent" by rw [Cmd.word]; decide)]
      refine ⟨_, rfl, d, _, dx, _, _, rfl, h1, T.cl_Desk, T.n_chest, rfl, p, dc, _, rfl, oc, rfl, ?_⟩
      refine ⟨p, s, A, rfl, R.toChestR, O, fun l H' ts e hl hl2 hE => ?_⟩
      obtain ⟨j, hj1, hj2⟩ := place_of (show n ∈ s.names from cf)
      have hjl : j < s.people.length := by
        have := (List.getElem?_eq_some_iff.mp hj1).1
        rw [s.nlen] at this
        exact this
      refine ⟨l, rfl, ⟨_, SqL.of hl2⟩, ?_⟩
      refine for_it (walk_list (K := K) (a := l) (xs := ts.map V.ref)) (fun i σ H2 => i ≤ j ∧ H2 = H' ∧ ∃ v1 v2, σ = [some (.ref d), some (.str (Cmd.purse n).word), some (.ref t), v1, v2]) ⟨Nat.zero_le _, rfl, none, none, rfl⟩ ?_ ?_ ?_
      · rintro i σ H2 _ ⟨_, rfl, _⟩
        exact SqL.of hl2
      · rintro i x σ H2 H3 hi ⟨hij, rfl, v1, v2, rfl⟩ ⟨rfl, hx⟩
        rw [List.length_map] at hi
        have hx2 : (ts.map V.ref)[i]? = some x := hx
        rw [List.getElem?_map, List.getElem?_eq_getElem hi] at hx2
        obtain rfl : x = V.ref ts[i] := (Option.some.inj hx2).symm
        obtain ⟨q, hq1, hq2⟩ := hE.left (List.getElem?_eq_getElem hi)
        refine ⟨ts[i], _, rfl, SqT.of hq2, rfl, _, _, rfl, _, _, rfl, rfl, _, rfl, _, rfl, t, _, _, _, rfl, rfl, SqL.of (e _ _ ht), atI_nat (j := 0) rfl, rfl, _, rfl, ?_⟩
        have hn : s.names[i]? = some q.1 := by
          unfold Ch.names
          rw [List.getElem?_map, hq1]; rfl
        by_cases c : i = j
        · subst c
          have eq : q.1 = n := by
            rw [hj1] at hn
            exact (Option.some.inj hn).symm
          rw [decide_eq_true (show V.str q.1 = V.str n by rw [eq])]
          have pq := Ch.purse_of O (List.mem_of_getElem? hq1)
          rw [eq] at pq
          have bq := B.2.2.2 n
          rw [pq] at bq
          refine ⟨_, rfl, _, rfl, log_ok bq.1 bq.2, ?_⟩
          exact k _ s _ ⟨congrArg numS pq.symm, rfl⟩ (same e)
        · rw [wordF (hj2 i (by omega) q.1 hn)]
          exact ⟨by omega, rfl, _, _, rfl⟩
      · rintro σ H2 ⟨hij, _⟩
        rw [List.length_map, hE.1] at hij
        omega
    | _ => exact absurd trivial cd
theorem sc_say : FnScope ["self", "row", "words", "things"] ["self", "row"] (defScope s_Desk_say) := ⟨rfl, rfl, rfl, by decide +kernel, rfl, by decide +kernel, by decide +kernel⟩
theorem deed_word (c : Cmd) : (c.word ∈ (["close", "purse", "pot", "given", "spent", "works"] : List Str)) ↔ ¬ c.Deed := by
  cases c <;> simp only [Cmd.word, Cmd.Deed] <;> decide +kernel
theorem things_ok {c : Cmd} (h : c.Words) : ∀ (i : Nat) x r v, c.form.cps[i]? = some x → c.rest[i]? = some r → c.things[i]? = some v → ThingOk x r v := by
  have b13 : (10 : Int) ^ 13 = 10000000000000 := by decide
  have f0 : ("" : Str).cps[0]? = none := by decide +kernel
  have t0 : ∀ i : Nat, ("t" : Str).cps[i]? = ([116] : List Nat)[i]? := fun i => by rw [← Array.getElem?_toList]; rfl
  have n0 : ∀ i : Nat, ("n" : Str).cps[i]? = ([110] : List Nat)[i]? := fun i => by rw [← Array.getElem?_toList]; rfl
  have tt0 : ∀ i : Nat, ("tt" : Str).cps[i]? = ([116, 116] : List Nat)[i]? := fun i => by rw [← Array.getElem?_toList]; rfl
  have tn0 : ∀ i : Nat, ("tn" : Str).cps[i]? = ([116, 110] : List Nat)[i]? := fun i => by rw [← Array.getElem?_toList]; rfl
  have one : ∀ (i : Nat) x r v (z : Str), ("t" : Str).cps[i]? = some x → ([z] : List Str)[i]? = some r → ([V.str z] : List V)[i]? = some v → ThingOk x r v := fun i x r v z h1 h2 h3 => by
    rw [t0] at h1
    match i, h1, h2, h3 with
    | 0, h1, h2, h3 =>
      cases h1; cases h2; cases h3
      exact .inr ⟨by decide, rfl⟩
    | i + 1, h1, _, _ => simp at h1
  have two : ∀ (i : Nat) x r v (z y : Str), ("tt" : Str).cps[i]? = some x → ([z, y] : List Str)[i]? = some r → ([V.str z, V.str y] : List V)[i]? = some v → ThingOk x r v := fun i x r v z y h1 h2 h3 => by
    rw [tt0] at h1
    match i, h1, h2, h3 with
    | 0, h1, h2, h3 =>
      cases h1; cases h2; cases h3
      exact .inr ⟨by decide, rfl⟩
    | 1, h1, h2, h3 =>
      cases h1; cases h2; cases h3
      exact .inr ⟨by decide, rfl⟩
    | i + 2, h1, _, _ => simp at h1
  intro i x r v h1 h2 h3
  cases c with
  | enrol n => exact one i x r v n h1 h2 h3
  | leave n => exact one i x r v n h1 h2 h3
  | withdraw n => exact one i x r v n h1 h2 h3
  | purse n => exact one i x r v n h1 h2 h3
  | want n z => exact two i x r v n z h1 h2 h3
  | unwant n z => exact two i x r v n z h1 h2 h3
  | give n =>
    rw [Cmd.form, n0] at h1
    match i, h1, h2, h3 with
    | 0, h1, h2, h3 =>
      cases h1; cases h2; cases h3
      exact .inl ⟨rfl, n, rfl, rfl, h.1, by have := h.2; omega⟩
    | i + 1, h1, _, _ => simp at h1
  | propose z n =>
    rw [Cmd.form, tn0] at h1
    match i, h1, h2, h3 with
    | 0, h1, h2, h3 =>
      cases h1; cases h2; cases h3
      exact .inr ⟨by decide, rfl⟩
    | 1, h1, h2, h3 =>
      cases h1; cases h2; cases h3
      exact .inl ⟨rfl, n, rfl, rfl, by have := h.2.1; omega, by have := h.2.2; omega⟩
    | i + 2, h1, _, _ => simp at h1
  | _ => simp [Cmd.rest] at h2
theorem ok_say (T : Tx K mg) : Def P w K mg base (L2.CX P w) 10 (He.fAd K d_Desk_say.at_) ["self", "row"] (spSay K) := by
  obtain ⟨fd, F⟩ := T.f_Desk_say
  refine ⟨fd, F.ok sc_say (fun vs H Q E h => ?_) (fun cdv A outer s H vs Q E hr h => ?_), F.bindsN (fun _ _ _ _ _ _ us hl => match us, hl with | [_, _], _ => rfl), F.kp⟩
  · obtain ⟨_, _, _, _, rfl, _⟩ := h
    rfl
  · obtain ⟨H0, d, s, c, rfl, D, O, hg, cw, k⟩ := h
    obtain ⟨p, dx, A, h1, h2, h3, R⟩ := id D
    refine ⟨_, pss_cons (ps_set (i := 2) sc_say.nd rfl (.inl rfl) (pe_f (ok_rw T) hr pass0 T.g_read_words (pa_cons (pv 1) pa_nil)))
      (pss_cons (ps_set (i := 3) sc_say.nd rfl (.inl rfl) (pe_f (ok_things T) hr pass0 T.g_things_behind (pa_cons (pv 2) pa_nil)))
      (pss_cons (ps_if (pt_cmpR op_in_seq (pe_ix ix_list (pv 2) pe_int (fun _ _ => rfl)) (pe_tup (pa_cons pe_str (pa_cons pe_str (pa_cons pe_str (pa_cons pe_str (pa_cons pe_str (pa_cons pe_str pa_nil))))))) (by rfl))
        (pss_one (ps_ret (pe_m (E := E0) (ok_asked T) hr pass0 T.cl_Desk T.m_asked_of (pv 0) (pa_cons (pe_ix ix_list (pv 2) pe_int (fun _ _ => rfl)) (pa_cons (pv 3) pa_nil))))) pss_nil)
      (pss_cons (ps_expr (pe_m (E := E) (ok_done T) hr (passX rfl rfl rfl rfl) T.cl_Desk T.m_done_by (pv 0) (pa_cons (pe_ix ix_list (pv 2) pe_int (fun _ _ => rfl)) (pa_cons (pv 3) pa_nil))))
      (pss_one (ps_ret pe_str))))), ?_⟩
    have hw := Cmd.row_split cw
    refine ⟨_, rfl, c.row, rfl, Nat.le_trans (Cmd.row_len cw) (by decide), ?_, fun a na => ?_⟩
    · rw [hw]
      intro m
      rcases List.mem_cons.mp m with e | e
      · exact c.word_ne e.symm
      · exact (Cmd.rest_ok cw _ e).2.1 rfl
    rw [hw]
    have sa := snew (o := .lst ((c.word :: c.rest).map V.str)) na
    refine ⟨_, rfl, a, c.word, c.rest, c.form, c.things, rfl, upd_same, c.form_of, c.form_len, c.things_len, ?_, things_ok cw, fun l H1 e1 nl hl => ?_⟩
    · have : (c.word :: c.rest).length ≤ 3 := by cases c <;> (simp [Cmd.rest])
      rw [List.length_cons] at this
      omega
    have e01 := sa.trans e1
    have ha := e1 _ _ (upd_same (H := H) (a := a))
    refine ⟨_, rfl, a, _, _, _, rfl, rfl, SqL.of ha, atI_nat (j := 0) rfl, (by show 6 ≤ sizeLine; decide), fun q nq => ?_⟩
    have sq := snew (o := .tup ((["close", "purse", "pot", "given", "spent", "works"] : List Str).map V.str)) nq
    refine ⟨q, (["close", "purse", "pot", "given", "spent", "works"] : List Str).map V.str, rfl, .inr (SqT.of upd_same), rfl, flat_str _, _, rfl, ?_⟩
    rw [inV_str]
    have D2 := D.mono (e01.trans sq)
    have o2 := e01.trans sq _ _ h1
    have ha2 := sq _ _ ha
    have hl2 := sq _ _ hl
    refine ite2 (fun cc => ?_) (fun cc => ?_)
    · have nd := (deed_word c).mp (of_decide_eq_true cc)
      refine ⟨_, rfl, d, dx, _, rfl, o2, rfl, _, rfl, a, _, _, _, rfl, rfl, SqL.of ha2, atI_nat (j := 0) rfl, _, rfl, ?_⟩
      rcases k with ⟨kf, k⟩ | ⟨kb, _⟩
      · exact ⟨H0, d, l, s, c, rfl, D2, hl2, O, hg, nd, kf, k⟩
      · cases c <;> first | exact kb.elim | exact absurd trivial nd
    · have dd : c.Deed := Classical.byContradiction fun n => cc (decide_eq_true ((deed_word c).mpr n))
      refine ⟨_, rfl, d, dx, _, rfl, o2, rfl, _, rfl, a, _, _, _, rfl, rfl, SqL.of ha2, atI_nat (j := 0) rfl, _, rfl, ?_⟩
      refine ⟨H0, d, l, s, c, rfl, D2, hl2, O, dd, cw, ?_⟩
      rcases k with ⟨kf, k⟩ | ⟨kb, k⟩
      · refine .inl ⟨kf, fun x s' H' hs D' => ?_⟩
        have ex : x = "ok" := by cases c <;> first | exact hs.1 | exact dd.elim
        subst ex
        exact k _ s' H' hs D'
      · exact .inr ⟨kb, fun C hC => k C _ hC D2⟩
end
end Ep
set_option Elab.async false
set_option linter.all false
set_option maxRecDepth 100000
set_option maxHeartbeats 4000000
/-! EpLawA: the law's numbers, spins, names. -/
namespace Ep
open PySem PySem.Spec PyProof.Rows L2
open TL (tl numL)
theorem sql_mono {K : PySem.W.Frag} {H H' : Hp} {a : Addr} {xs : List V} (e : Same H H') (h : SqL K H a xs) : SqL K H' a xs :=
  h.elim (fun q => .inl (q.elim (fun q => .inl (e _ _ q)) fun ⟨o, q⟩ => .inr ⟨o, e _ _ q⟩)) .inr
def spNth (K : PySem.W.Frag) : Sp := fun vs H Q _ => ∃ (a : Addr) (xs : List Int), vs = [.ref a, .int 1] ∧ SqL K H a (xs.map V.int) ∧ xs.length ≤ 100 ∧ ∀ (c : Int) H', Same H H' → Q (.int c) H'
def spinF (cell : Int) (k : Nat) : Int :=
  (cell % 900900929 + 2503 * (k : Int) + 77) * (cell % 900900929 + 2503 * (k : Int) + 77) * (cell % 900900929 + 2503 * (k : Int) + 77 + 31 * (k : Int)) / 13 % 700700003
theorem spinF_pos (c : Int) (k : Nat) : 0 ≤ spinF c k ∧ spinF c k < 700700003 := ⟨Int.emod_nonneg _ (by decide), Int.emod_lt_of_pos _ (by decide)⟩
def spSpins : Sp := fun vs H Q _ => ∃ (c : Int) (n : Nat), vs = [.int c, .int n] ∧ n ≤ 9 ∧ ∀ l H', Same H H' → H l = none → LV H' l n (spinF c) → Q (.ref l) H'
def spAmount : Sp := fun vs H Q _ => ∃ x g : Int, vs = [.int x, .int g] ∧ 0 ≤ x ∧ x < 700700003 ∧ 0 ≤ g ∧ g ≤ 1000000000000 ∧ ∀ r : Int, 0 ≤ r → Q (.int r) H
def spNumber : Sp := fun vs H Q _ => ∃ i : Int, vs = [.str (numS i)] ∧ 0 ≤ i ∧ i < 10 ^ 30 ∧ ∀ H', Same H H' → Q (.int i) H'
section
variable {P : Program} {w : World} {K : PySem.W.Frag} {mg : Str → Option Value} {base : Heap}
theorem sc_nth : FnScope ["script", "k", "cell"] ["script", "k"] (defScope s_law_nth) := ⟨rfl, rfl, rfl, by decide +kernel, rfl, by decide +kernel, by decide +kernel⟩
theorem ok_nth (T : Tx K mg) : Def P w K mg base CX0 1 (He.fAd K d_law_nth.at_) ["script", "k"] (spNth K) := by
  obtain ⟨fd, F⟩ := T.f_law_nth
  refine ⟨fd, F.ok sc_nth (fun vs H Q E h => ?_) (fun cdv A outer s H vs Q E hr h => ?_), F.bindsN (fun _ _ _ _ _ _ us hl => match us, hl with | [_, _], _ => rfl), F.kp⟩
  · obtain ⟨_, _, rfl, _⟩ := h
    rfl
  · obtain ⟨a, xs, rfl, ha, h100, k⟩ := h
    refine ⟨_, PSs.nox (pss_cons (ps_for PassesOwn.never rfl (pi_list (pe_slice sl_list (pv 0) (po_some (pv 1)) (po_some (pe_op op_add (pv 1) pe_int)))) (pg_name (i := 2) sc_nth.nd rfl (.inl rfl)) (pss_one (ps_ret (pv 2))))
      (pss_one (ps_ret pe_int))), ?_⟩
    refine ⟨_, rfl, _, rfl, 1, rfl, _, rfl, _, _, rfl, rfl, 1 + 1, rfl, a, _, rfl, ha, fun b nb => ?_⟩
    have sb := snew (o := .lst (cutV (xs.map V.int) (some 1) (some (1 + 1)))) nb
    refine ⟨b, rfl, ⟨_, SqL.of upd_same⟩, ?_⟩
    refine for_it (walk_list (K := K) (a := b) (xs := cutV (xs.map V.int) (some 1) (some (1 + 1)))) (fun i σ H' => i = 0 ∧ H' = upd H b (.lst (cutV (xs.map V.int) (some 1) (some (1 + 1)))) ∧ σ = [some (.ref a), some (.int 1), none]) ⟨rfl, rfl, rfl⟩ ?_ ?_ ?_
    · rintro i σ H' _ ⟨_, rfl, _⟩
      exact SqL.of upd_same
    · rintro i x σ H1 H2 hi ⟨rfl, rfl, rfl⟩ ⟨rfl, hx⟩
      have hm : x ∈ xs.map V.int := by
        have m := List.mem_of_getElem? hx
        unfold cutV at m
        exact List.mem_of_mem_drop (List.mem_of_mem_take m)
      obtain ⟨c, _, rfl⟩ := List.mem_map.mp hm
      exact ⟨_, rfl, k c _ sb⟩
    · rintro σ H1 ⟨_, rfl, rfl⟩
      exact k 0 _ sb
theorem sc_spins : FnScope ["cell", "many", "spins", "k", "turn"] ["cell", "many"] (defScope s_law_spins) := ⟨rfl, rfl, rfl, by decide +kernel, rfl, by decide +kernel, by decide +kernel⟩
theorem ok_spins (T : Tx K mg) : Def P w K mg base CX0 1 (He.fAd K d_law_spins.at_) ["cell", "many"] spSpins := by
  obtain ⟨fd, F⟩ := T.f_law_spins
  refine ⟨fd, F.ok sc_spins (fun vs H Q E h => ?_) (fun cdv A outer s H vs Q E hr h => ?_), F.bindsN (fun _ _ _ _ _ _ us hl => match us, hl with | [_, _], _ => rfl), F.kp⟩
  · obtain ⟨_, _, rfl, _⟩ := h
    rfl
  · obtain ⟨c, n, rfl, hn, k⟩ := h
    refine ⟨_, PSs.nox (pss_cons (ps_set (i := 2) sc_spins.nd rfl (.inl rfl) (pe_lst pa_nil))
      (pss_cons (ps_for PassesOwn.never rfl (pi_range1 rfl T.z_range (pa_cons (pv 1) pa_nil)) (pg_name (i := 3) sc_spins.nd rfl (.inl rfl))
        (pss_cons (ps_set (i := 4) sc_spins.nd rfl (.inl rfl) (pe_op op_add (pe_op op_add (pe_op op_mod (pv 0) pe_int) (pe_op op_mul pe_int (pv 3))) pe_int))
        (pss_one (ps_expr (pe_bm PySem.F.plainAttrs_list PySem.F.slot_list_append PySem.F.type_list_append mt_append (pv 2) (pa_cons
          (pe_op op_mod (pe_op op_fdiv (pe_op op_mul (pe_op op_mul (pv 4) (pv 4)) (pe_op op_add (pv 4) (pe_op op_mul pe_int (pv 3)))) pe_int) pe_int) pa_nil))))))
      (pss_one (ps_ret (pv 2))))), ?_⟩
    refine ⟨Nat.zero_le _, fun l nl => ?_⟩
    refine ⟨_, rfl, (n : Int), rfl, by omega, by omega, ?_⟩
    have en : ((n : Int)).toNat = n := by omega
    refine for_it (walk_range (lo := 0) (n := (n : Int).toNat)) (fun i σ H' => i ≤ n ∧ (∃ v1 v2, σ = [some (.int c), some (.int n), some (.ref l), v1, v2]) ∧ Same H H' ∧ LV H' l i (spinF c)) ⟨Nat.zero_le _, ⟨none, none, rfl⟩, snew nl, upd_same⟩ (fun _ _ _ _ _ => trivial) ?_ ?_
    · rintro i x σ H1 H2 hi ⟨_, ⟨v1, v2, rfl⟩, s1, hL⟩ ⟨rfl, hx⟩
      rw [en] at hi
      obtain rfl : x = V.int (i : Int) := hx.trans (congrArg V.int (by omega))
      have m0 : 0 ≤ c % 900900929 := Int.emod_nonneg _ (by decide)
      have m1 : c % 900900929 < 900900929 := Int.emod_lt_of_pos _ (by decide)
      have t0 : 0 ≤ c % 900900929 + 2503 * (i : Int) + 77 := by omega
      have t1 : c % 900900929 + 2503 * (i : Int) + 77 ≤ 1000000000 := by omega
      have tt := Int.mul_le_mul t1 t1 t0 (by decide)
      have tt0 := Int.mul_nonneg t0 t0
      refine ⟨_, rfl, _, _, rfl, rfl, (by show (0 : Int) < 900900929; decide), _, rfl, _, _, rfl, rfl, .inl ⟨by decide, by decide⟩, _, _, rfl, rfl, _, _, rfl, rfl, ?_⟩
      refine ⟨_, rfl, .inl ⟨rfl, _, SqL.of hL⟩, _, rfl, _, rfl, _, _, rfl, rfl, .inl ⟨by omega, by omega⟩, _, rfl, _, rfl, _, _, rfl, rfl, .inl ⟨by decide, by decide⟩, _, _, rfl, rfl, _, _, rfl, rfl, .inl ⟨by omega, by omega⟩, _, _, rfl, rfl, ⟨by decide, by decide⟩, _, _, rfl, rfl, (by show (0 : Int) < 700700003; decide), l, _, _, rfl, rfl, hL, sz_lt (by rw [vec_length]; omega), ?_⟩
      refine ⟨by omega, ⟨_, _, rfl⟩, smut s1 nl, ?_⟩
      unfold LV
      rw [upd_same, vec_succ]; rfl
    · rintro σ H1 ⟨_, ⟨v1, v2, rfl⟩, s1, hL⟩
      rw [en] at hL
      exact ⟨_, rfl, k l H1 s1 nl hL⟩
theorem sc_amount : FnScope ["x", "given"] ["x", "given"] (defScope s_law_amount) := ⟨rfl, rfl, rfl, by decide +kernel, rfl, by decide +kernel, by decide +kernel⟩
theorem ok_amount (T : Tx K mg) : Def P w K mg base CX0 1 (He.fAd K d_law_amount.at_) ["x", "given"] spAmount := by
  obtain ⟨fd, F⟩ := T.f_law_amount
  refine ⟨fd, F.ok sc_amount (fun vs H Q E h => ?_) (fun cdv A outer s H vs Q E hr h => ?_), F.bindsN (fun _ _ _ _ _ _ us hl => match us, hl with | [_, _], _ => rfl), F.kp⟩
  · obtain ⟨_, _, rfl, _⟩ := h
    rfl
  · obtain ⟨x, g, rfl, x0, x1, g0, g1, k⟩ := h
    refine ⟨_, PSs.nox (pss_cons (ps_if (pt_cmpR op_eq (pe_op op_mod (pv 0) pe_int) pe_int (nomark _)) (pss_one (ps_ret (pe_op op_fdiv (pe_op op_mul (pv 1) (pe_op op_mod (pe_op op_fdiv (pv 0) pe_int) pe_int)) pe_int))) pss_nil)
      (pss_cons (ps_if (pt_cmpR op_eq (pe_op op_mod (pv 0) pe_int) pe_int (nomark _)) (pss_one (ps_ret (pe_op op_mod (pe_op op_fdiv (pv 0) pe_int) pe_int))) pss_nil)
      (pss_one (ps_ret (pe_op op_mod (pe_op op_mul (pv 0) pe_int) (pe_op op_pow pe_int pe_int)))))), ?_⟩
    have third : (0 : Int) < 10 ^ (9 : Int).toNat := by decide
    refine ⟨_, rfl, _, _, rfl, rfl, (by show (0 : Int) < 3; decide), rfl, _, rfl, ?_⟩
    refine ite2 (fun _ => ?_) (fun _ => ?_)
    · refine ⟨_, rfl, _, rfl, _, _, rfl, rfl, ⟨by decide, by decide⟩, _, _, rfl, rfl, (by show (0 : Int) < 40; decide), _, _, rfl, rfl, .inl ⟨by omega, by omega⟩, _, _, rfl, rfl, ⟨by decide, by decide⟩, k _ ?_⟩
      exact Int.ediv_nonneg (Int.mul_nonneg g0 (Int.emod_nonneg _ (by decide))) (by decide)
    refine ⟨_, rfl, _, _, rfl, rfl, (by show (0 : Int) < 3; decide), rfl, _, rfl, ?_⟩
    refine ite2 (fun _ => ?_) (fun _ => ?_)
    · exact ⟨_, rfl, _, _, rfl, rfl, ⟨by decide, by decide⟩, _, _, rfl, rfl, (by show (0 : Int) < 60; decide), k _ (Int.emod_nonneg _ (by decide))⟩
    · exact ⟨_, rfl, _, _, rfl, rfl, .inl ⟨by omega, by omega⟩, _, _, rfl, rfl, ⟨by decide, by decide, by decide⟩, _, _, rfl, rfl, third, k _ (Int.emod_nonneg _ (by decide))⟩
theorem sc_number : FnScope ["word", "sign"] ["word"] (defScope s_law_number) := ⟨rfl, rfl, rfl, by decide +kernel, rfl, by decide +kernel, by decide +kernel⟩
theorem ok_number (T : Tx K mg) : Def P w K mg base CX0 1 (He.fAd K d_law_number.at_) ["word"] spNumber := by
  obtain ⟨fd, F⟩ := T.f_law_number
  refine ⟨fd, F.ok sc_number (fun vs H Q E h => ?_) (fun cdv A outer s H vs Q E hr h => ?_), F.bindsN (fun _ _ _ _ _ _ us hl => match us, hl with | [_], _ => rfl), F.kp⟩
  · obtain ⟨_, rfl, _⟩ := h
    rfl
  · obtain ⟨i, rfl, h0, h1, k⟩ := h
    have hu64 : _ + 64 < cLine := Nat.lt_trans (Nat.lt_succ_self _) (hu65 hr)
    have hl := num_len h0 (by decide) h1
    obtain ⟨c, r, e, hc⟩ := num_first h0
    have hlen : (numS i).length = r.length + 1 := by rw [TL.len_tl, e]; rfl
    refine ⟨_, PSs.nox (pss_cons (ps_if (PW.pt (pw_or (pt_cmpR op_eq (pv 0) pe_str (nomark _)) (pw_or (pt_cmpR op_gt (pe_callB call_len_str (by rfl) T.z_len PySem.boot_len (pa_cons (pv 0) pa_nil)) pe_int (nomark _))
        (pw_or1 (pt_cmpR (op_neD hu64) (pe_lc (own := [("sign", 1)]) (g := gName 1) (tt := tTest (tOp (fun x y H Q => ∃ (c : Nat) (z : Str), x = .str ⟨#[c]⟩ ∧ y = .str z ∧ Q (.bl (!decide (c ∈ z.cps.toList))) H) (tVar 1) (tC (.str "0123456789")))) (te := tVar 1) rfl sc_number.nd (pi_str (pv 0))
          (blkOk_by (N := ["word", "sign"]) (sc := defScope s_law_number) (by decide +kernel)) (fun _ _ _ _ _ => pg_name (i := 1) sc_number.nd rfl (Or.inl rfl)) (fun _ _ _ _ _ => pts_one (pt_cmpR op_notIn_sign (pv 1) pe_str (by rfl))) (fun _ _ _ _ _ => pv 1)) (pe_lst pa_nil) (nomark _)))))) (pss_one (ps_ret pe_non)) pss_nil)
      (pss_cons (ps_if (PW.pt (pw_and (pt_cmpR op_gt (pe_callB call_len_str (by rfl) T.z_len PySem.boot_len (pa_cons (pv 0) pa_nil)) pe_int (nomark _)) (pw_and1 (pt_cmpR op_eq (pe_item_str (pv 0) pe_int (fun _ _ => rfl)) pe_str (nomark _))))) (pss_one (ps_ret pe_non)) pss_nil)
      (pss_one (ps_ret (pe_callTy call_int_str (by rfl) T.z_int (by decide +kernel) (pa_cons (pv 0) pa_nil)))))), ?_⟩
    refine ⟨_, rfl, rfl, _, rfl, ?_⟩
    have ne : ¬ V.str (numS i) = V.str "" := fun e => by
      injection e with e
      exact num_ne h0 e
    rw [decide_eq_false ne]
    refine ⟨_, rfl, _, rfl, sz_of (by omega), _, _, rfl, rfl, _, rfl, ?_⟩
    rw [decide_eq_false (by omega)]
    refine ⟨_, rfl, _, rfl, fun D nD => ?_⟩
    refine lc_it (walk_str (z := numS i)) (fun _ H' => H' = upd H D (.lst [])) rfl (fun _ _ _ _ => trivial) ?_ ?_
    · rintro j x H1 H2 hj rfl ⟨rfl, c, hc, rfl⟩
      refine ⟨rfl, _, rfl, c, _, rfl, rfl, _, rfl, ?_⟩
      have hm : c ∈ tl (numS i) := by
        rw [← Array.getElem?_toList] at hc
        exact List.mem_of_getElem? hc
      rw [decide_eq_true (figure_in (num_digit h0 hm))]
      rfl
    · rintro H1 rfl
      have sD := snew (o := .lst []) nD
      refine ⟨Nat.zero_le _, fun n0 nn0 => ?_⟩
      have t0 := snew (o := .lst []) nn0
      refine ⟨.list [], .list [], .lst (SqL.of (t0 _ _ upd_same)) .nil, .lst (SqL.of upd_same) .nil, shaped_nil2, shaped_nil2, _, rfl, ?_⟩
      rw [eqv_nil2]
      have fin := k _ (sD.trans t0)
      have hq := num_int h0 h1
      refine ⟨_, rfl, _, rfl, sz_of (by omega), _, _, rfl, rfl, _, rfl, ?_⟩
      refine ite2 (fun c1 => ?_) (fun c1 => ?_)
      · have c1 := of_decide_eq_true c1
        have hc0 : (numS i).cps[(0 : Int).toNat]? = some c := by
          have : (tl (numS i))[0]? = some c := by rw [e]; rfl
          rw [← Array.getElem?_toList]
          exact this
        refine ⟨_, rfl, _, _, c, rfl, rfl, by decide, by decide, by omega, hc0, rfl, _, rfl, ?_⟩
        have nz : ¬ V.str ⟨#[c]⟩ = V.str "0" := fun e1 => by
          injection e1 with e1
          have e3 : ([c] : List Nat) = [48] := congrArg tl e1
          injection e3 with e3
          rw [hlen, hc e3] at c1
          exact absurd c1 (by decide)
        rw [decide_eq_false nz]
        exact ⟨_, rfl, _, i, rfl, hq.1, hq.2, fin⟩
      · exact ⟨_, rfl, _, i, rfl, hq.1, hq.2, fin⟩
end
end Ep
set_option Elab.async false
set_option linter.all false
set_option maxRecDepth 100000
set_option maxHeartbeats 4000000
/-! EpLawB: the law's names. -/
namespace Ep
open PySem PySem.Spec PyProof.Rows L2
open TL (tl numL joinL)
def ofL (l : List Nat) : Str := ⟨l.toArray⟩
theorem tl_ofL (l : List Nat) : tl (ofL l) = l := List.toList_toArray
theorem ofL_len (l : List Nat) : (ofL l).length = l.length := by rw [TL.len_tl, tl_ofL]
theorem ofL_cat (a b : List Nat) : ofL a ++ ofL b = ofL (a ++ b) := TL.ext_tl (by rw [TL.tl_append, tl_ofL, tl_ofL, tl_ofL])
theorem ofL_inj {a b : List Nat} (h : ofL a = ofL b) : a = b := by rw [← tl_ofL a, h, tl_ofL]
theorem joinL_nil : ∀ l : List (List Nat), joinL [] l = l.flatten
  | [] => rfl
  | [p] => (by simp [joinL])
  | p :: q :: r => by
    show p ++ ([] ++ joinL [] (q :: r)) = _
    rw [joinL_nil (q :: r), List.nil_append]; rfl
theorem sIx_at {n j d : Nat} (h : j ≤ n) : HT.sIx n d (some (j : Int)) = j := by
  rw [HT.sIx_nat]
  omega
theorem cut_to {l : List Nat} {j : Nat} (h : j ≤ l.length) : cutS (ofL l) none (some (j : Int)) = ofL (l.take j) := by
  unfold cutS
  rw [ofL_len, HT.sIx_none, sIx_at h]
  refine TL.ext_tl ?_
  rw [tl_ofL]
  show (((tl (ofL l)).drop 0).take (j - 0)).toArray.toList = _
  rw [tl_ofL]
  simp
theorem cut_from {l : List Nat} {j : Nat} (h : j ≤ l.length) : cutS (ofL l) (some (j : Int)) none = ofL (l.drop j) := by
  unfold cutS
  rw [ofL_len, sIx_at h]
  refine TL.ext_tl ?_
  rw [tl_ofL]
  show (((tl (ofL l)).drop j).take (l.length - j)).toArray.toList = _
  rw [tl_ofL, List.toList_toArray, List.take_of_length_le (l := l.drop j) (i := l.length - j) (by rw [List.length_drop]; omega)]
/-! ### a name -/
def ltr (y : Int) : Nat := 97 + (y % 26).toNat
theorem ltr_ok (y : Int) : 97 ≤ ltr y ∧ ltr y ≤ 122 := by
  unfold ltr
  have h0 : 0 ≤ y % 26 := Int.emod_nonneg _ (by decide)
  have h1 : y % 26 < 26 := Int.emod_lt_of_pos _ (by decide)
  omega
theorem ltr_at {y : Int} : ("abcdefghijklmnopqrstuvwxyz" : Str).cps[(y % 26).toNat]? = some (ltr y) := by
  have h0 : 0 ≤ y % 26 := Int.emod_nonneg _ (by decide)
  have h1 : y % 26 < 26 := Int.emod_lt_of_pos _ (by decide)
  have q : ∀ d : Fin 26, ("abcdefghijklmnopqrstuvwxyz" : Str).cps[d.val]? = some (97 + d.val) := by decide +kernel
  have e := q ⟨(y % 26).toNat, by omega⟩
  exact e
def wordL (c : Int) : List Nat := vec 7 fun i => ltr (spinF c i)
def nameL (c : Int) (k : Nat) : List Nat :=
  if spinF c 8 % 4 = 0 then [ltr (spinF c 7 + (k : Int) / 8)] ++ (wordL c).take (k % 8)
  else if spinF c 8 % 4 = 1 then (wordL c).drop (7 - k % 8) ++ [ltr (spinF c 7 + (k : Int) / 8)]
  else
    ((wordL c).take (spinF c 8 / 4 % 8).toNat).take (spinF c 8 / 32 % (((wordL c).take (spinF c 8 / 4 % 8).toNat).length + 1)).toNat ++ [ltr (spinF c 7 + (k : Int))]
      ++ ((wordL c).take (spinF c 8 / 4 % 8).toNat).drop (spinF c 8 / 32 % (((wordL c).take (spinF c 8 / 4 % 8).toNat).length + 1)).toNat
def nameF (c : Int) (k : Nat) : Str := ofL (nameL c k)
theorem wordL_len (c : Int) : (wordL c).length = 7 := by unfold wordL; rw [vec_length]
theorem wordL_ok {c : Int} {x : Nat} (h : x ∈ wordL c) : 97 ≤ x ∧ x ≤ 122 := by
  obtain ⟨i, _, rfl⟩ := vec_mem.mp h
  exact ltr_ok _
theorem nameF_ok (c : Int) (k : Nat) : NameOk (nameF c k) := by
  have key : 1 ≤ (nameL c k).length ∧ (nameL c k).length ≤ 8 ∧ ∀ x, x ∈ nameL c k → 97 ≤ x ∧ x ≤ 122 := by
    have wl := wordL_len c
    unfold nameL
    by_cases h0 : spinF c 8 % 4 = 0
    · rw [if_pos h0]
      refine ⟨by simp, by rw [List.length_append, List.length_take, wl]; simp <;> omega, fun x hx => ?_⟩
      rcases List.mem_append.mp hx with h | h
      · rw [List.mem_singleton.mp h]; exact ltr_ok _
      · exact wordL_ok (List.mem_of_mem_take h)
    rw [if_neg h0]
    by_cases h1 : spinF c 8 % 4 = 1
    · rw [if_pos h1]
      refine ⟨by simp, by rw [List.length_append, List.length_drop, wl]; simp <;> omega, fun x hx => ?_⟩
      rcases List.mem_append.mp hx with h | h
      · exact wordL_ok (List.mem_of_mem_drop h)
      · rw [List.mem_singleton.mp h]; exact ltr_ok _
    rw [if_neg h1]
    generalize (spinF c 8 / 32 % (((wordL c).take (spinF c 8 / 4 % 8).toNat).length + 1)).toNat = at_
    have wl2 : ((wordL c).take (spinF c 8 / 4 % 8).toNat).length ≤ 7 := by rw [List.length_take, wl]; omega
    refine ⟨by simp <;> omega, by rw [List.length_append, List.length_append, List.length_take, List.length_drop]; simp at wl2 ⊢ <;> omega, fun x hx => ?_⟩
    rcases List.mem_append.mp hx with h | h
    · rcases List.mem_append.mp h with h | h
      · exact wordL_ok (List.mem_of_mem_take (List.mem_of_mem_take h))
      · rw [List.mem_singleton.mp h]; exact ltr_ok _
    · exact wordL_ok (List.mem_of_mem_take (List.mem_of_mem_drop h))
  unfold NameOk nameF ofL
  rw [List.toList_toArray]
  exact key
theorem nameF_inj (c : Int) {j k : Nat} (hj : j < 8) (hk : k < 8) (e : nameF c j = nameF c k) : j = k := by
  have e1 : nameL c j = nameL c k := ofL_inj e
  have wl := wordL_len c
  unfold nameL at e1
  by_cases h0 : spinF c 8 % 4 = 0
  · rw [if_pos h0, if_pos h0] at e1
    have := congrArg List.length e1
    rw [List.length_append, List.length_append, List.length_take, List.length_take, wl] at this
    simp at this
    omega
  rw [if_neg h0, if_neg h0] at e1
  by_cases h1 : spinF c 8 % 4 = 1
  · rw [if_pos h1, if_pos h1] at e1
    have := congrArg List.length e1
    rw [List.length_append, List.length_append, List.length_drop, List.length_drop, wl] at this
    simp at this
    omega
  rw [if_neg h1, if_neg h1] at e1
  have e2 := List.append_cancel_right e1
  have e3 := List.append_cancel_left e2
  injection e3 with e3
  unfold ltr at e3
  have a0 : 0 ≤ (spinF c 7 + (j : Int)) % 26 := Int.emod_nonneg _ (by decide)
  have b0 : 0 ≤ (spinF c 7 + (k : Int)) % 26 := Int.emod_nonneg _ (by decide)
  omega
def spLawName : Sp := fun vs H Q _ => ∃ (c : Int) (k : Nat), vs = [.int c, .int k] ∧ k ≤ 8 ∧ ∀ H', Same H H' → Q (.str (nameF c k)) H'
section
variable {P : Program} {w : World} {K : PySem.W.Frag} {mg : Str → Option Value} {base : Heap}
theorem sc_lname : FnScope ["cell", "k", "letters", "xs", "word", "at", "x"] ["cell", "k"] (defScope s_law_name) := ⟨rfl, rfl, rfl, by decide +kernel, rfl, by decide +kernel, by decide +kernel⟩
theorem ok_lname (T : Tx K mg) : Def P w K mg base CX0 2 (He.fAd K d_law_name.at_) ["cell", "k"] spLawName := by
  obtain ⟨fd, F⟩ := T.f_law_name
  refine ⟨fd, F.ok sc_lname (fun vs H Q E h => ?_) (fun cdv A outer s H vs Q E hr h => ?_), F.bindsN (fun _ _ _ _ _ _ us hl => match us, hl with | [_, _], _ => rfl), F.kp⟩
  · obtain ⟨_, _, rfl, _⟩ := h
    rfl
  · obtain ⟨c, k, rfl, hk, kk⟩ := h
    refine ⟨_, PSs.nox (pss_cons (ps_set (i := 2) sc_lname.nd rfl (.inr rfl) pe_str)
      (pss_cons (ps_set (i := 3) sc_lname.nd rfl (.inl rfl) (pe_f (ok_spins T) hr pass0 T.g_law_spins (pa_cons (pv 0) (pa_cons pe_int pa_nil))))
      (pss_cons (ps_set (i := 4) sc_lname.nd rfl (.inl rfl) (pe_join pe_str (pe_lc (own := [("x", 6)]) (g := gName 6) (tt := tYes)
        (te := tOp (fun x y H Q => ∃ z i c, x = .str z ∧ y = .int i ∧ 0 ≤ i ∧ i < 2 ^ 63 ∧ i < z.length ∧ z.cps[i.toNat]? = some c ∧ Q (.str ⟨#[c]⟩) H) (tVar 2) (tOp (rI (fun _ j => 0 < j) fun i j => .int (i % j)) (tVar 6) (tC (.int 26)))) rfl sc_lname.nd (pi_list (pe_slice sl_list (pv 3) po_none (po_some pe_int)))
        (blkOk_by (N := ["cell", "k", "letters", "xs", "word", "at", "x"]) (sc := defScope s_law_name) (by decide +kernel)) (fun _ _ _ _ _ => pg_name (i := 6) sc_lname.nd rfl (Or.inl rfl)) (fun _ _ _ _ _ => pts_nil)
        (fun _ _ _ _ _ => pe_item_str (pv 2) (pe_op op_mod (pv 6) pe_int) (fun _ _ => rfl)))))
      (pss_cons (ps_if (pt_cmpR op_eq (pe_op op_mod (pe_ix ix_list (pv 3) pe_int (fun _ _ => rfl)) pe_int) pe_int (nomark _)) (pss_one (ps_ret (pe_op op_add_str (pe_item_str (pv 2) (pe_op op_mod (pe_op op_add (pe_ix ix_list (pv 3) pe_int (fun _ _ => rfl)) (pe_op op_fdiv (pv 1) pe_int)) pe_int) (fun _ _ => rfl)) (pe_slice sl_str (pv 4) po_none (po_some (pe_op op_mod (pv 1) pe_int)))))) pss_nil)
      (pss_cons (ps_if (pt_cmpR op_eq (pe_op op_mod (pe_ix ix_list (pv 3) pe_int (fun _ _ => rfl)) pe_int) pe_int (nomark _)) (pss_one (ps_ret (pe_op op_add_str (pe_slice sl_str (pv 4) (po_some (pe_op op_sub pe_int (pe_op op_mod (pv 1) pe_int))) po_none) (pe_item_str (pv 2) (pe_op op_mod (pe_op op_add (pe_ix ix_list (pv 3) pe_int (fun _ _ => rfl)) (pe_op op_fdiv (pv 1) pe_int)) pe_int) (fun _ _ => rfl))))) pss_nil)
      (pss_cons (ps_set (i := 4) sc_lname.nd rfl (.inl rfl) (pe_slice sl_str (pv 4) po_none (po_some (pe_op op_mod (pe_op op_fdiv (pe_ix ix_list (pv 3) pe_int (fun _ _ => rfl)) pe_int) pe_int))))
      (pss_cons (ps_set (i := 5) sc_lname.nd rfl (.inl rfl) (pe_op op_mod (pe_op op_fdiv (pe_ix ix_list (pv 3) pe_int (fun _ _ => rfl)) pe_int) (pe_op op_add (pe_callB call_len_str (by rfl) T.z_len PySem.boot_len (pa_cons (pv 4) pa_nil)) pe_int)))
      (pss_one (ps_ret (pe_op op_add_str (pe_op op_add_str (pe_slice sl_str (pv 4) po_none (po_some (pv 5))) (pe_item_str (pv 2) (pe_op op_mod (pe_op op_add (pe_ix ix_list (pv 3) pe_int (fun _ _ => rfl)) (pv 1)) pe_int) (fun _ _ => rfl))) (pe_slice sl_str (pv 4) (po_some (pv 5)) po_none))))))))))), ?_⟩
    have h1n := fun (j : Int) => (Int.emod_nonneg j (by decide : (26 : Int) ≠ 0))
    have h1l := fun (j : Int) => (Int.emod_lt_of_pos j (by decide : (0 : Int) < 26))
    have hlen : ((("abcdefghijklmnopqrstuvwxyz" : Str).length : Nat) : Int) = 26 := by decide +kernel
    have p26 : (0 : Int) < 26 := by decide
    have p4 : (0 : Int) < 4 := by decide
    have p8 : (0 : Int) < 8 := by decide
    refine ⟨_, rfl, c, 9, rfl, Nat.le_refl _, fun l H1 s1 nl hl => ?_⟩
    refine ⟨⟨_, rfl⟩, _, rfl, 7, rfl, l, _, rfl, SqL.of hl, fun b nb => ?_⟩
    have ecut : cutV (vec 9 fun i => V.int (spinF c i)) none (some 7) = vec 7 fun i => V.int (spinF c i) := by rfl
    rw [ecut]
    have s2 := snew (o := .lst (vec 7 fun i => V.int (spinF c i))) nb
    refine ⟨b, rfl, ⟨_, SqL.of upd_same⟩, fun D nD => ?_⟩
    refine lc_it (walk_list (K := K) (a := b) (xs := vec 7 fun i => V.int (spinF c i))) (fun i H' => i ≤ 7 ∧ Same (upd H1 b (.lst (vec 7 fun i => V.int (spinF c i)))) H' ∧ H' D = some (.lst (vec i fun j => V.str ⟨#[ltr (spinF c j)]⟩))) ⟨Nat.zero_le _, snew nD, upd_same⟩ ?_ ?_ ?_
    · rintro i H' _ ⟨_, s3, _⟩
      exact SqL.of (s3 _ _ upd_same)
    · rintro i x H2 H3 hi ⟨_, s3, hL⟩ ⟨rfl, hx⟩
      rw [vec_length] at hi
      obtain rfl : x = V.int (spinF c i) := (vec_get_some hx).2
      refine ⟨rfl, _, rfl, _, rfl, _, _, rfl, rfl, p26, _, _, ltr (spinF c i), rfl, rfl, h1n _, Int.lt_trans (h1l _) (by decide), by rw [hlen]; exact h1l _, ltr_at, ?_⟩
      refine ⟨_, hL, sz_lt (by rw [vec_length]; omega), hi, smut s3 nD, ?_⟩
      rw [upd_same, vec_succ]
    · rintro H2 ⟨_, s3, hL⟩
      rw [vec_length] at hL
      have hL2 : H2 D = some (.lst ((vec 7 fun j => (⟨#[ltr (spinF c j)]⟩ : Str)).map V.str)) := by
        rw [vec_map]
        exact hL
      refine ⟨"", D, vec 7 fun j => (⟨#[ltr (spinF c j)]⟩ : Str), rfl, rfl, .inl (SqL.of hL2), ?_, ?_⟩
      · have := sum_len_le (parts := vec 7 fun j => (⟨#[ltr (spinF c j)]⟩ : Str)) (k := 1) fun p hp => by
          obtain ⟨i, _, rfl⟩ := vec_mem.mp hp
          exact Nat.le_refl _
        rw [vec_length] at this ⊢
        have e0 : ("" : Str).length = 0 := by rw [TL.len_tl, tl_em]; rfl
        rw [e0]
        omega
      have ew : Txt.join "" (vec 7 fun j => (⟨#[ltr (spinF c j)]⟩ : Str)) = ofL (wordL c) := by
        refine TL.ext_tl ?_
        rw [tl_joinS, tl_em, joinL_nil, tl_ofL]
        rfl
      rw [ew]
      have sA : Same H H2 := s1.trans (s2.trans s3)
      have hx := s3 _ _ (s2 _ _ hl)
      have hk' : k ≤ 8 := hk
      have ek8 : (k : Int) % 8 = ((k % 8 : Nat) : Int) := by omega
      have wl := wordL_len c
      have ofw : (ofL (wordL c)).length ≤ sizeLine := sz_of (by rw [ofL_len, wl]; decide)
      have fin : ∀ z, z = nameL c k → Q (.str (ofL z)) H2 := fun z e => by rw [e]; exact kk H2 sA
      have one : ∀ y, (⟨#[ltr y]⟩ : Str) = ofL [ltr y] := fun _ => rfl
      refine ⟨_, rfl, l, _, _, _, rfl, rfl, SqL.of hx, atI_vec (k := 8) (by decide), _, _, rfl, rfl, p4, rfl, _, rfl, ?_⟩
      unfold nameL at fin
      have d4 : ∀ (z y : Int), decide (V.int z = V.int y) = decide (z = y) := fun z y => by
        by_cases e : z = y
        · rw [e, decide_eq_true rfl, decide_eq_true rfl]
        · rw [decide_eq_false e, decide_eq_false fun q => e (V.int.inj q)]
      rw [d4]
      refine ite2 (fun cc => ?_) (fun cc => ?_)
      · have cc := of_decide_eq_true cc
        rw [if_pos cc] at fin
        refine ⟨_, rfl, _, rfl, l, _, _, _, rfl, rfl, SqL.of hx, atI_vec (k := 7) (by decide), _, rfl, _, _, rfl, rfl, ⟨by decide, by decide⟩, _, _, rfl, rfl, _, _, rfl, rfl, p26, _, _, ltr (spinF c 7 + (k : Int) / 8), rfl, rfl, h1n _, Int.lt_trans (h1l _) (by decide), by rw [hlen]; exact h1l _, ltr_at, ?_⟩
        refine ⟨_, rfl, _, rfl, _, _, rfl, rfl, p8, _, rfl, _, rfl, ofw, ?_⟩
        rw [ek8, cut_to (by rw [wl]; omega), one]
        refine ⟨_, _, rfl, rfl, sz_of (by rw [ofL_len, ofL_len, List.length_take, wl]; simp <;> omega), ?_⟩
        rw [ofL_cat]
        exact fin _ rfl
      have cc : ¬ (spinF c 8 % 4 = 0) := fun q => cc (decide_eq_true q)
      rw [if_neg cc] at fin
      refine ⟨_, rfl, l, _, _, _, rfl, rfl, SqL.of hx, atI_vec (k := 8) (by decide), _, _, rfl, rfl, p4, rfl, _, rfl, ?_⟩
      rw [d4]
      refine ite2 (fun cc => ?_) (fun cc => ?_)
      · have cc := of_decide_eq_true cc
        rw [if_pos cc] at fin
        have e7 : 7 - (k : Int) % 8 = ((7 - k % 8 : Nat) : Int) := by omega
        refine ⟨_, rfl, _, rfl, _, _, rfl, rfl, p8, _, _, rfl, rfl, _, rfl, _, rfl, ofw, ?_⟩
        rw [e7, cut_from (by rw [wl]; omega)]
        refine ⟨_, rfl, _, rfl, l, _, _, _, rfl, rfl, SqL.of hx, atI_vec (k := 7) (by decide), _, rfl, _, _, rfl, rfl, ⟨by decide, by decide⟩, _, _, rfl, rfl, _, _, rfl, rfl, p26, _, _, ltr (spinF c 7 + (k : Int) / 8), rfl, rfl, h1n _, Int.lt_trans (h1l _) (by decide), by rw [hlen]; exact h1l _, ltr_at, ?_⟩
        rw [one]
        refine ⟨_, _, rfl, rfl, sz_of (by rw [ofL_len, ofL_len, List.length_drop, wl]; simp <;> omega), ?_⟩
        rw [ofL_cat]
        exact fin _ rfl
      have cc : ¬ (spinF c 8 % 4 = 1) := fun q => cc (decide_eq_true q)
      rw [if_neg cc] at fin
      have a0 : 0 ≤ spinF c 8 / 4 % 8 := Int.emod_nonneg _ (by decide)
      have a1 : spinF c 8 / 4 % 8 < 8 := Int.emod_lt_of_pos _ (by decide)
      obtain ⟨m, hm⟩ := Int.eq_ofNat_of_zero_le a0
      have hm7 : m ≤ 7 := by omega
      refine ⟨_, rfl, _, rfl, l, _, _, _, rfl, rfl, SqL.of hx, atI_vec (k := 8) (by decide), _, _, rfl, rfl, ⟨by decide, by decide⟩, _, _, rfl, rfl, p8, _, rfl, _, rfl, ofw, ?_⟩
      rw [hm, cut_to (by rw [wl]; omega)]
      rw [hm, Int.toNat_natCast] at fin
      have wl2 : ((wordL c).take m).length ≤ 7 := by rw [List.length_take, wl]; omega
      have b0 : 0 ≤ spinF c 8 / 32 % ((((wordL c).take m).length : Int) + 1) := Int.emod_nonneg _ (by omega)
      have b1 : spinF c 8 / 32 % ((((wordL c).take m).length : Int) + 1) < (((wordL c).take m).length : Int) + 1 := Int.emod_lt_of_pos _ (by omega)
      obtain ⟨n, hn⟩ := Int.eq_ofNat_of_zero_le b0
      have hn7 : n ≤ ((wordL c).take m).length := by omega
      have ofw2 : (ofL ((wordL c).take m)).length ≤ sizeLine := sz_of (by rw [ofL_len]; omega)
      refine ⟨_, rfl, l, _, _, _, rfl, rfl, SqL.of hx, atI_vec (k := 8) (by decide), _, _, rfl, rfl, ⟨by decide, by decide⟩, _, rfl, _, rfl, ofw2, _, _, rfl, rfl, _, _, rfl, rfl, (by show (0 : Int) < ((ofL ((wordL c).take m)).length : Int) + 1; omega), ?_⟩
      rw [ofL_len]
      dsimp only
      rw [hn]
      rw [hn, Int.toNat_natCast] at fin
      refine ⟨_, rfl, _, rfl, _, rfl, _, rfl, ofw2, ?_⟩
      rw [cut_to hn7]
      refine ⟨_, rfl, _, rfl, l, _, _, _, rfl, rfl, SqL.of hx, atI_vec (k := 7) (by decide), _, rfl, _, _, rfl, rfl, _, _, rfl, rfl, p26, _, _, ltr (spinF c 7 + (k : Int)), rfl, rfl, h1n _, Int.lt_trans (h1l _) (by decide), by rw [hlen]; exact h1l _, ltr_at, ?_⟩
      rw [one]
      refine ⟨_, _, rfl, rfl, sz_of (by rw [ofL_len, ofL_len, List.length_take]; simp at wl2 ⊢ <;> omega), ?_⟩
      rw [ofL_cat]
      refine ⟨_, rfl, _, rfl, _, rfl, _, rfl, ofw2, ?_⟩
      rw [cut_from hn7]
      refine ⟨_, _, rfl, rfl, sz_of (by rw [ofL_len, ofL_len, List.length_append, List.length_take, List.length_drop]; simp at wl2 ⊢ <;> omega), ?_⟩
      rw [ofL_cat]
      exact fin _ rfl
end
end Ep
set_option Elab.async false
set_option linter.all false
set_option maxRecDepth 100000
set_option maxHeartbeats 4000000
/-! EpLawC: works read back; what is asked. -/
namespace Ep
open PySem PySem.Spec PyProof.Rows L2
open TL (tl numL)
def spLawWorks : Sp := fun vs H Q _ => ∃ qs : List (Str × Int × List Str), vs = [.str (worksT qs)] ∧ (∀ q, q ∈ qs → WOk q) ∧ qs.length ≤ 6 ∧
  ∀ a H' (ts : List Addr), Same H H' → H a = none → H' a = some (.lst (ts.map V.ref)) → Each (WorkAt (newOf H (hide [a] H'))) ts qs → Q (.ref a) H'
theorem worksT_ne {qs : List (Str × Int × List Str)} (h : qs ≠ []) : worksT qs ≠ "none" := fun e => by
  have e2 : 32 ∈ tl (worksT qs) := by
    unfold worksT
    rw [if_neg h, tl_joinS]
    cases qs with
    | nil => exact absurd rfl h
    | cons q r =>
      have m : 32 ∈ tl (workT q) := by
        unfold workT
        rw [TL.tl_append, TL.tl_append, tl_sp]
        simp
      cases r with
      | nil => exact m
      | cons q2 r => exact List.mem_append_left _ m
  rw [e, tl_none] at e2
  exact absurd e2 (by decide)
theorem worksT_len {qs : List (Str × Int × List Str)} (h : ∀ q, q ∈ qs → WOk q) (h6 : qs.length ≤ 6) : (worksT qs).length ≤ 700 := by
  unfold worksT
  by_cases c : qs = []
  · rw [if_pos c, TL.len_tl, tl_none]; decide
  rw [if_neg c]
  have e3 : (", " : Str).length = 2 := by rw [TL.len_tl, tl_cs]; rfl
  have q := len_join_le (y := ", ") (parts := qs.map workT) (k := 110) fun p hp => by
    obtain ⟨q, hq, rfl⟩ := List.mem_map.mp hp
    have m := h q hq
    exact work_len m.nm m.c0 m.c1 m.ns m.n6
  rw [e3, List.length_map] at q
  have : qs.length * (110 + 2) ≤ 6 * 112 := Nat.mul_le_mul_right _ h6
  omega
theorem namesT_ne {l : List Str} (h : l ≠ []) (ok : ∀ n, n ∈ l → NameOk n) : namesT l ≠ "-" := fun e => by
  unfold namesT at e
  rw [if_neg h] at e
  have e1 := congrArg tl e
  rw [tl_joinS, tl_mi] at e1
  cases l with
  | nil => exact h rfl
  | cons n r =>
    have k := ok n (List.mem_cons_self ..)
    have e2 : ∃ t, TL.joinL (tl ("+" : Str)) ((n :: r).map tl) = tl n ++ t := by
      cases r with
      | nil => exact ⟨[], (List.append_nil _).symm⟩
      | cons m r => exact ⟨_, rfl⟩
    obtain ⟨t, e2⟩ := e2
    rw [show TL.joinL (tl ("+" : Str)) ((n :: r).map tl) = tl n ++ t from e2] at e1
    cases e3 : tl n with
    | nil =>
      have := k.1
      have e4 : n.cps.toList = [] := e3
      rw [e4] at this
      exact absurd this (by decide)
    | cons x y =>
      rw [e3] at e1
      have e5 : x = 45 := by injection e1
      have := k.2.2 x (by show x ∈ tl n; rw [e3]; simp)
      omega
section
variable {P : Program} {w : World} {K : PySem.W.Frag} {mg : Str → Option Value} {base : Heap}
theorem sc_lworks : FnScope ["answer", "works", "part", "words", "names"] ["answer"] (defScope s_law_works) := ⟨rfl, rfl, rfl, by decide +kernel, rfl, by decide +kernel, by decide +kernel⟩
theorem ok_lworks (T : Tx K mg) : Def P w K mg base CX0 2 (He.fAd K d_law_works.at_) ["answer"] spLawWorks := by
  obtain ⟨fd, F⟩ := T.f_law_works
  refine ⟨fd, F.ok sc_lworks (fun vs H Q E h => ?_) (fun cdv A outer s H vs Q E hr h => ?_), F.bindsN (fun _ _ _ _ _ _ us hl => match us, hl with | [_], _ => rfl), F.kp⟩
  · obtain ⟨_, rfl, _⟩ := h
    rfl
  · obtain ⟨qs, rfl, hok, h6, k⟩ := h
    refine ⟨_, PSs.nox (pss_cons (ps_if (pt_cmpR op_eq (pv 0) pe_str (nomark _)) (pss_one (ps_ret (pe_lst pa_nil))) pss_nil)
      (pss_cons (ps_set (i := 1) sc_lworks.nd rfl (.inl rfl) (pe_lst pa_nil))
      (pss_cons (ps_for PassesOwn.never rfl (pi_list (pe_split (pv 0) pe_str)) (pg_name (i := 2) sc_lworks.nd rfl (.inl rfl))
        (pss_cons (ps_set (i := 3) sc_lworks.nd rfl (.inl rfl) (pe_split (pv 2) pe_str))
        (pss_cons (ps_if (PW.pt (pw_or (pt_cmpR op_ne (pe_callB call_len_seq (by rfl) T.z_len PySem.boot_len (pa_cons (pv 3) pa_nil)) pe_int (nomark _)) (pw_or1 (pt_cmpR op_isN (pe_f (ok_number T) hr pass0 T.g_law_number (pa_cons (pe_ix ix_list (pv 3) pe_int (fun _ _ => rfl)) pa_nil)) pe_non (nomark _))))) (pss_one (ps_ret pe_non)) pss_nil)
        (pss_cons (ps_set (i := 4) sc_lworks.nd rfl (.inl rfl) (pe_split (pe_ix ix_list (pv 3) pe_int (fun _ _ => rfl)) pe_str))
        (pss_cons (ps_if (pt_cmpR op_eq (pe_ix ix_list (pv 3) pe_int (fun _ _ => rfl)) pe_str (nomark _)) (pss_one (ps_set (i := 4) sc_lworks.nd rfl (.inl rfl) (pe_lst pa_nil))) pss_nil)
        (pss_one (ps_expr (pe_bm PySem.F.plainAttrs_list PySem.F.slot_list_append PySem.F.type_list_append mt_append (pv 1) (pa_cons (pe_tup (pa_cons (pe_ix ix_list (pv 3) pe_int (fun _ _ => rfl)) (pa_cons (pe_f (ok_number T) hr pass0 T.g_law_number (pa_cons (pe_ix ix_list (pv 3) pe_int (fun _ _ => rfl)) pa_nil)) (pa_cons (pv 4) pa_nil)))) pa_nil)))))))))
      (pss_one (ps_ret (pv 1)))))), ?_⟩
    have hl := worksT_len hok h6
    refine ⟨_, rfl, rfl, _, rfl, ?_⟩
    by_cases c0 : qs = []
    · have e : V.str (worksT qs) = V.str "none" := by unfold worksT; rw [if_pos c0]
      rw [decide_eq_true e]
      refine ⟨Nat.zero_le _, fun a na => k a _ [] (snew na) na upd_same ?_⟩
      rw [c0]
      exact Each.nil
    rw [wordF (worksT_ne c0)]
    refine ⟨Nat.zero_le _, fun l nl => ?_⟩
    have t1 := snew (o := .lst []) nl
    refine ⟨_, rfl, ⟨_, rfl⟩, _, _, rfl, rfl, (by decide), sz_of (by omega), fun b nb => ?_⟩
    have es : Txt.split (worksT qs) ", " = qs.map workT := by
      unfold worksT
      rw [if_neg c0]
      exact works_split c0 fun q hq => ⟨(hok q hq).nm, (hok q hq).c0, (hok q hq).ns⟩
    rw [es]
    have t2 := snew (o := .lst ((qs.map workT).map V.str)) nb
    have nbl : b ≠ l := (ne_of_none (upd_same (H := H) (a := l)) nb).symm
    refine ⟨b, rfl, ⟨_, SqL.of upd_same⟩, ?_⟩
    refine for_it (walk_list (K := K) (a := b) (xs := (qs.map workT).map V.str)) (fun i σ H' => i ≤ qs.length ∧ (∃ v2 v3 v4, σ = [some (.str (worksT qs)), some (.ref l), v2, v3, v4]) ∧ Same H (hide [l] H') ∧ hide [l] H' b = some (.lst ((qs.map workT).map V.str)) ∧ ∃ ts : List Addr, H' l = some (.lst (ts.map V.ref)) ∧ Each (WorkAt (newOf H (hide [l] H'))) ts (qs.take i)) ?_ ?_ ?_ ?_
    · refine ⟨Nat.zero_le _, ⟨none, none, none, rfl⟩, hide_into (t1.trans t2) fun x hx => (by rw [List.mem_singleton.mp hx]; exact nl), ?_, [], t2 _ _ upd_same, Each.nil⟩
      rw [hide_out (by simp [nbl])]
      exact upd_same
    · rintro i σ H' _ ⟨_, _, _, g2, _⟩
      exact SqL.of (hide_le _ _ _ _ g2)
    · rintro i x σ H3 H4 hi ⟨_, ⟨v2, v3, v4, rfl⟩, g1, g2, ts, g3, gE⟩ ⟨rfl, hx⟩
      rw [List.length_map, List.length_map] at hi
      have hx2 : ((qs.map workT).map V.str)[i]? = some x := hx
      rw [List.getElem?_map, List.getElem?_map, List.getElem?_eq_getElem hi] at hx2
      obtain rfl : x = V.str (workT qs[i]) := (Option.some.inj hx2).symm
      obtain ⟨q, eq⟩ : ∃ q, q = qs[i] := ⟨_, rfl⟩
      rw [← eq]
      have mq := hok q (by rw [eq]; exact List.getElem_mem hi)
      have wl := work_len mq.nm mq.c0 mq.c1 mq.ns mq.n6
      have nl6 := namesT_len mq.ns mq.n6
      refine ⟨_, rfl, ⟨_, rfl⟩, _, _, rfl, rfl, (by decide), sz_of (by omega), fun p np => ?_⟩
      rw [work_split mq.nm mq.c0 mq.ns]
      have p1 := snew (o := .lst (([q.1, numS q.2.1, namesT q.2.2] : List Str).map V.str)) np
      have pS : (upd H4 p (.lst (([q.1, numS q.2.1, namesT q.2.2] : List Str).map V.str))) p = _ := upd_same
      refine ⟨_, rfl, p, _, rfl, .inl (SqL.of pS), rfl, _, rfl, ?_⟩
      refine ⟨_, rfl, p, _, _, _, rfl, rfl, SqL.of pS, atI_nat (j := 1) rfl, q.2.1, rfl, mq.c0, mq.c1, fun H5 s5 => ?_⟩
      have pS5 := s5 _ _ pS
      refine ⟨rfl, _, rfl, ?_⟩
      refine ⟨_, rfl, p, _, _, _, rfl, rfl, SqL.of pS5, atI_nat (j := 2) rfl, ⟨_, rfl⟩, _, _, rfl, rfl, (by decide), sz_of (by omega), fun r nr => ?_⟩
      have p6 := snew (o := .lst ((Txt.split (namesT q.2.2) "+").map V.str)) nr
      have s6 := s5.trans p6
      have sA := p1.trans s6
      have pS6 := s6 _ _ pS
      refine ⟨_, rfl, p, _, _, _, rfl, rfl, SqL.of pS6, atI_nat (j := 2) rfl, rfl, _, rfl, ?_⟩
      have nol : ∀ {a : Addr}, H4 a = none → a ∉ ([l] : List Addr) := fun h m => by
        rw [List.mem_singleton.mp m, g3] at h
        cases h
      -- the new tuple
      have nexts : ∀ (H7 H8 : Hp) (n t : Addr), Same H4 H7 → H7 n = some (.lst (q.2.2.map V.str)) → H4 n = none → Same H7 H8 → H7 t = none → H8 t = some (.tup [.str q.1, .int q.2.1, .ref n]) →
          Same H (hide [l] (upd H8 l (.lst (ts.map V.ref ++ [.ref t])))) ∧ hide [l] (upd H8 l (.lst (ts.map V.ref ++ [.ref t]))) b = some (.lst ((qs.map workT).map V.str)) ∧ ∃ ts2 : List Addr, (upd H8 l (.lst (ts.map V.ref ++ [.ref t]))) l = some (.lst (ts2.map V.ref)) ∧ Each (WorkAt (newOf H (hide [l] (upd H8 l (.lst (ts.map V.ref ++ [.ref t])))))) ts2 (qs.take (i + 1)) := fun H7 H8 n t a1 a2 a3 a4 a5 a6 => by
        have tn : H4 t = none := a1.free a5
        have e8 := hide_same (S := [l]) (a1.trans a4)
        rw [hide_upd (List.mem_singleton.mpr rfl)]
        refine ⟨g1.trans e8, e8 _ _ g2, ts ++ [t], ?_, ?_⟩
        · rw [upd_same, List.map_append]; rfl
        · rw [List.take_add_one, List.getElem?_eq_getElem hi, ← eq]
          have fH := g1.trans (hide_le [l] H4)
          refine Each.snoc (gE.mono fun _ _ _ _ z => z.mono (newOf_mono e8)) ⟨n, newOf_of (fH.free tn) ?_, newOf_of (fH.free a3) ?_⟩
          · rw [hide_out (nol tn)]
            exact a6
          · rw [hide_out (nol a3)]
            exact a4 _ _ a2
      have htl : (ts.map V.ref).length < sizeLine := sz_lt (by rw [List.length_map, gE.1, List.length_take]; omega)
      by_cases cn : q.2.2 = []
      · have en : V.str (namesT q.2.2) = V.str "-" := by unfold namesT; rw [if_pos cn]
        rw [decide_eq_true en]
        refine ⟨Nat.zero_le _, fun n nn => ?_⟩
        have p7 := snew (o := .lst []) nn
        have s7 := sA.trans p7
        have pS7 := p7 _ _ pS6
        refine ⟨_, rfl, .inl ⟨rfl, _, SqL.of (s7 _ _ g3)⟩, _, rfl, p, _, _, _, rfl, rfl, SqL.of pS7, atI_nat (j := 0) rfl, ?_⟩
        refine ⟨_, rfl, p, _, _, _, rfl, rfl, SqL.of pS7, atI_nat (j := 1) rfl, q.2.1, rfl, mq.c0, mq.c1, fun H8 s8 => ?_⟩
        refine ⟨_, rfl, (by show 3 ≤ sizeLine; decide), fun t nt => ?_⟩
        have p9 := snew (o := .tup [.str q.1, .int q.2.1, .ref n]) nt
        have s9 := s7.trans (s8.trans p9)
        refine ⟨l, _, _, rfl, rfl, s9 _ _ g3, htl, hi, ⟨_, _, _, rfl⟩, ?_⟩
        exact nexts _ _ n t (s7.trans s8) (by rw [cn]; exact s8 _ _ upd_same) (sA.free nn) p9 nt upd_same
      · rw [wordF (namesT_ne cn mq.ns)]
        have es : Txt.split (namesT q.2.2) "+" = q.2.2 := by
          unfold namesT
          rw [if_neg cn]
          exact split_pl cn fun n hn => name_no (mq.ns n hn) (by decide)
        rw [es] at p6 s6 sA pS6 ⊢
        refine ⟨_, rfl, .inl ⟨rfl, _, SqL.of (sA _ _ g3)⟩, _, rfl, p, _, _, _, rfl, rfl, SqL.of pS6, atI_nat (j := 0) rfl, ?_⟩
        refine ⟨_, rfl, p, _, _, _, rfl, rfl, SqL.of pS6, atI_nat (j := 1) rfl, q.2.1, rfl, mq.c0, mq.c1, fun H8 s8 => ?_⟩
        refine ⟨_, rfl, (by show 3 ≤ sizeLine; decide), fun t nt => ?_⟩
        have p9 := snew (o := .tup [.str q.1, .int q.2.1, .ref r]) nt
        have s9 := sA.trans (s8.trans p9)
        refine ⟨l, _, _, rfl, rfl, s9 _ _ g3, htl, hi, ⟨_, _, _, rfl⟩, ?_⟩
        exact nexts _ _ r t (sA.trans s8) (s8 _ _ upd_same) ((p1.trans s5).free nr) p9 nt upd_same
    · rintro σ H3 ⟨_, ⟨v2, v3, v4, rfl⟩, g1, g2, ts, g3, gE⟩
      rw [List.length_map, List.length_map, List.take_length] at gE
      exact ⟨_, rfl, k l H3 ts (g1.trans (hide_le _ _)) nl g3 gE⟩
end
end Ep
set_option Elab.async false
set_option linter.all false
set_option maxRecDepth 100000
set_option maxHeartbeats 4000000
/-! EpLawD: the numbers asked, the sums. -/
namespace Ep
open PySem PySem.Spec PyProof.Rows L2
open TL (tl numL)
def Cmd.val (s : Ch) : Cmd → Int
  | .given => s.gifts | .spent => s.outlay | .pot => s.well | .purse n => s.purse n | _ => 0
def Cmd.Ask : Cmd → Prop
  | .given => True | .spent => True | .pot => True | .purse _ => True | _ => False
theorem ask_says {s s' : Ch} {c : Cmd} {x : Str} (h : c.Ask) (q : c.Says s x s') : x = numS (c.val s) ∧ s' = s := by
  cases c <;> first | exact h.elim | exact q
theorem ask_val {s : Ch} (O : s.Ok) (hg : s.gifts ≤ 1000000000000) {c : Cmd} (h : c.Ask) : 0 ≤ c.val s ∧ c.val s < 10 ^ 30 := by
  have B := ok_bounds O hg
  cases c <;> first | exact h.elim | exact B.1 | exact B.2.1 | exact B.2.2.1 | exact B.2.2.2 _
theorem row_one (x : Str) : Txt.join " " [x] = x := by
  refine TL.ext_tl ?_
  rw [tl_joinS]; rfl
theorem row_purse (n : Str) : ("purse " : Str) ++ n = (Cmd.purse n).row := by
  refine TL.ext_tl ?_
  unfold Cmd.row
  rw [Cmd.word, Cmd.rest, join2, TL.tl_append, TL.tl_append, TL.tl_append, tl_sp, tl_lit, tl_lit]
  rfl
def askL (s : Ch) : List Int := [s.gifts, s.outlay, s.well] ++ s.people.map (·.2)
def spLawAsked (K : PySem.W.Frag) : Sp := fun vs H Q _ => ∃ (H0 : Hp) (d a : Addr) (s : Ch), vs = [.ref d, .ref a] ∧ DeskAt K H0 H d s ∧ H0 a = some (.lst (s.names.map V.str)) ∧ s.Ok ∧ s.gifts ≤ 1000000000000 ∧
  ∀ l H0' H', Same H0 H0' → DeskAt K H0' H' d s → H0 l = none → H0' l = some (.lst ((askL s).map V.int)) → Q (.ref l) H'
def spLawSums (K : PySem.W.Frag) : Sp := fun vs H Q _ => ∃ (H0 : Hp) (d a : Addr) (s : Ch), vs = [.ref d, .ref a, .int s.gifts] ∧ DeskAt K H0 H d s ∧ H0 a = some (.lst (s.names.map V.str)) ∧ s.Ok ∧ s.gifts ≤ 1000000000000 ∧ ∀ H', DeskAt K H0 H' d s → Q (.bl true) H'
section
variable {P : Program} {w : World} {K : PySem.W.Frag} {mg : Str → Option Value} {base : Heap}
theorem DeskAt.obj {H0 H : Hp} {d : Addr} {s : Ch} (h : DeskAt K H0 H d s) : ∃ dx p, H d = some (.ins (cD K) dx [("chest", .ref p)]) := by
  obtain ⟨p, dx, A, h1, _⟩ := h
  exact ⟨dx, p, h1⟩
theorem sc_lasked : FnScope ["desk", "people", "numbers", "row", "name"] ["desk", "people"] (defScope s_law_asked) := ⟨rfl, rfl, rfl, by decide +kernel, rfl, by decide +kernel, by decide +kernel⟩
theorem ok_lasked (T : Tx K mg) : Def P w K mg base CX0 11 (He.fAd K d_law_asked.at_) ["desk", "people"] (spLawAsked K) := by
  obtain ⟨fd, F⟩ := T.f_law_asked
  refine ⟨fd, F.ok sc_lasked (fun vs H Q E h => ?_) (fun cdv A outer s H vs Q E hr h => ?_), F.bindsN (fun _ _ _ _ _ _ us hl => match us, hl with | [_, _], _ => rfl), F.kp⟩
  · obtain ⟨_, _, _, _, rfl, _⟩ := h
    rfl
  · obtain ⟨H0, d, a, s, rfl, D0, ha, O, hg, k⟩ := h
    refine ⟨_, PSs.nox (pss_cons (ps_setLc (i := 2) (own := [("row", 3)]) (g := gName 3) (tt := tYes) (te := tCall spNumber [] E0 (tCons (tMeth (cD K) "say" (spSay K) [] E0 (tVar 0) (tCons (tVar 3) tNil)) tNil)) rfl sc_lasked.nd rfl rfl (sw_true rfl rfl rfl (by decide +kernel))
        (pi_list (pe_lst (pa_cons pe_str (pa_cons pe_str (pa_cons pe_str pa_nil))))) (blkOk_by (N := ["desk", "people", "numbers", "row", "name"]) (sc := defScope s_law_asked) (by decide +kernel)) (fun _ _ _ _ _ => pg_name (i := 3) sc_lasked.nd rfl (Or.inl rfl)) (fun _ _ _ _ _ => pts_nil)
        (fun _ _ _ _ _ => pe_f (ok_number T) hr pass0 T.g_law_number (pa_cons (pe_m (E := E0) (ok_say T) hr passL T.cl_Desk T.m_say (pv 0) (pa_cons (pv 3) pa_nil)) pa_nil)))
      (pss_one (ps_ret (pe_op op_cat (pv 2) (pe_lc (own := [("name", 4)]) (g := gName 4) (tt := tYes) (te := tCall spNumber [] E0 (tCons (tMeth (cD K) "say" (spSay K) [] E0 (tVar 0) (tCons (tOp (fun x y H Q => ∃ i j, x = .str i ∧ y = .str j ∧ i.length + j.length ≤ sizeLine ∧ Q (.str (i ++ j)) H) (tC (.str "purse ")) (tVar 4)) tNil)) tNil)) rfl sc_lasked.nd
        (pi_list (pv 1)) (blkOk_by (N := ["desk", "people", "numbers", "row", "name"]) (sc := defScope s_law_asked) (by decide +kernel)) (fun _ _ _ _ _ => pg_name (i := 4) sc_lasked.nd rfl (Or.inl rfl)) (fun _ _ _ _ _ => pts_nil)
        (fun _ _ _ _ _ => pe_f (ok_number T) hr pass0 T.g_law_number (pa_cons (pe_m (E := E0) (ok_say T) hr passL T.cl_Desk T.m_say (pv 0) (pa_cons (pe_op op_add_str pe_str (pv 4)) pa_nil)) pa_nil))))))), ?_⟩
    have wnm : ∀ c : Cmd, c ∈ ([.given, .spent, .pot] : List Cmd) → c.Ask ∧ c.Words ∧ c.Fine s := fun c hc => by
      have : c = .given ∨ c = .spent ∨ c = .pot := by simpa using hc
      rcases this with rfl | rfl | rfl <;> exact ⟨trivial, trivial, trivial⟩
    refine ⟨(by show 3 ≤ sizeLine; decide), fun l0 n0 => ?_⟩
    have ex : (.lst [.str "given", .str "spent", .str "pot"] : HO) = .lst (([.given, .spent, .pot] : List Cmd).map fun c => V.str c.row) := by
      show _ = HO.lst [V.str (Txt.join " " ["given"]), V.str (Txt.join " " ["spent"]), V.str (Txt.join " " ["pot"])]
      rw [row_one, row_one, row_one]
    have e0 : (upd H l0 (.lst [.str "given", .str "spent", .str "pot"])) l0 = some (.lst (([.given, .spent, .pot] : List Cmd).map fun c => V.str c.row)) := by
      rw [← ex]
      exact upd_same
    have s0 := snew (o := .lst [.str "given", .str "spent", .str "pot"]) n0
    refine ⟨l0, rfl, ⟨_, SqL.of e0⟩, fun D nD => ?_⟩
    have sD := s0.trans (snew (o := .lst []) nD)
    have nDH : H D = none := s0.free nD
    refine lc_it (walk_list (K := K) (a := l0) (xs := ([.given, .spent, .pot] : List Cmd).map fun c => V.str c.row)) (fun i H' => i ≤ 3 ∧ ∃ Hb, Same H0 Hb ∧ DeskAt K Hb H' d s ∧ Hb l0 = some (.lst (([.given, .spent, .pot] : List Cmd).map fun c => V.str c.row)) ∧ Hb D = some (.lst ((([.given, .spent, .pot] : List Cmd).take i).map fun c => V.int (c.val s)))) ?_ ?_ ?_ ?_
    · obtain ⟨Hb, b1, b2, b3⟩ := D0.grow sD
      exact ⟨Nat.zero_le _, Hb, b1, b2, b3 _ _ n0 (snew nD _ _ e0), b3 _ _ nDH upd_same⟩
    · rintro i H' _ ⟨_, Hb, _, b2, b3, _⟩
      exact SqL.of (b2.base _ _ b3)
    · rintro i x H1 H2 hi ⟨_, Hb, b1, b2, b3, b4⟩ ⟨rfl, hx⟩
      rw [List.length_map] at hi
      have hx2 : (([.given, .spent, .pot] : List Cmd).map fun c => V.str c.row)[i]? = some x := hx
      rw [List.getElem?_map, List.getElem?_eq_getElem hi] at hx2
      obtain ⟨c, ec⟩ : ∃ c, c = ([.given, .spent, .pot] : List Cmd)[i] := ⟨_, rfl⟩
      obtain rfl : x = V.str c.row := by rw [ec]; exact (Option.some.inj hx2).symm
      have mc := wnm c (by rw [ec]; exact List.getElem_mem hi)
      obtain ⟨dx, p, od⟩ := b2.obj
      refine ⟨rfl, _, rfl, d, dx, _, rfl, od, rfl, _, rfl, Hb, d, s, c, rfl, b2, O, hg, mc.2.1, .inl ⟨mc.2.2, fun x s' H4 q D4 => ?_⟩⟩
      obtain ⟨eqx, es⟩ := ask_says mc.1 q
      subst eqx
      rw [es] at D4
      have bv := ask_val O hg mc.1
      refine ⟨c.val s, rfl, bv.1, bv.2, fun H3 e3 => ?_⟩
      have D3 := D4.mono e3
      have hi3 : i < 3 := hi
      refine ⟨_, D3.base _ _ b4, sz_lt (by rw [List.length_map, List.length_take]; omega), hi3, upd Hb D (.lst ((([.given, .spent, .pot] : List Cmd).take i).map (fun c => V.int (c.val s)) ++ [.int (c.val s)])), smut b1 (D0.base.free nDH), D3.hold b4, ?_, ?_⟩
      · rw [upd_ne (ne_of_none e0 nD)]
        exact b3
      · rw [upd_same, List.take_add_one, List.getElem?_eq_getElem hi, List.map_append, ← ec]; rfl
    · rintro H1 ⟨_, Hb, b1, b2, b3, b4⟩
      have b4' : Hb D = some (.lst [.int s.gifts, .int s.outlay, .int s.well]) := b4
      -- the purses
      refine ⟨_, rfl, _, rfl, a, rfl, ⟨_, SqL.of (b2.base _ _ (b1 _ _ ha))⟩, fun D2 nD2 => ?_⟩
      have s2 := snew (o := .lst []) nD2
      refine lc_it (walk_list (K := K) (a := a) (xs := s.names.map V.str)) (fun i H' => i ≤ s.people.length ∧ ∃ Hc, Same Hb Hc ∧ DeskAt K Hc H' d s ∧ Hc D2 = some (.lst ((s.people.take i).map fun q => V.int q.2))) ?_ ?_ ?_ ?_
      · obtain ⟨Hc, c1, c2, c3⟩ := b2.grow s2
        exact ⟨Nat.zero_le _, Hc, c1, c2, c3 _ _ nD2 upd_same⟩
      · rintro i H' _ ⟨_, Hc, c1, c2, _⟩
        exact SqL.of (c2.base _ _ (c1 _ _ (b1 _ _ ha)))
      · rintro i x H2 H3 hi ⟨_, Hc, c1, c2, c4⟩ ⟨rfl, hx⟩
        rw [List.length_map, s.nlen] at hi
        have hx2 : (s.names.map V.str)[i]? = some x := hx
        rw [List.getElem?_map, s.names_get hi] at hx2
        obtain rfl : x = V.str (s.nm i) := (Option.some.inj hx2).symm
        have mi := s.mem_people hi
        have mn : s.nm i ∈ s.names := List.mem_map.mpr ⟨_, mi, rfl⟩
        have nk := O.pok _ mn
        obtain ⟨dx, p, od⟩ := c2.obj
        have L1 : ("purse " : Str).length + (s.nm i).length ≤ sizeLine := sz_of (by
          have := name_len nk
          have e : ("purse " : Str).length = 6 := by rw [TL.len_tl, tl_lit]; rfl
          omega)
        refine ⟨rfl, _, rfl, d, dx, _, rfl, od, rfl, _, rfl, _, _, rfl, rfl, L1, ?_⟩
        rw [row_purse]
        refine ⟨Hc, d, s, .purse (s.nm i), rfl, c2, O, hg, nk, .inl ⟨mn, fun x s' H5 q D5 => ?_⟩⟩
        obtain ⟨eqx, es⟩ := ask_says (c := .purse (s.nm i)) trivial q
        subst eqx
        rw [es] at D5
        have bv := ask_val O hg (c := .purse (s.nm i)) trivial
        refine ⟨(Cmd.purse (s.nm i)).val s, rfl, bv.1, bv.2, fun H4 e4 => ?_⟩
        have D4 := D5.mono e4
        have ev : (Cmd.purse (s.nm i)).val s = s.pu i := Ch.purse_of O mi
        rw [ev]
        refine ⟨_, D4.base _ _ c4, sz_lt (by rw [List.length_map, List.length_take]; have := O.p6; omega), hi, upd Hc D2 (.lst ((s.people.take i).map (fun q => V.int q.2) ++ [.int (s.pu i)])), smut c1 (b2.base.free nD2), D4.hold c4, ?_⟩
        rw [upd_same, List.take_add_one, s.people_get hi, List.map_append]; rfl
      · rintro H2 ⟨_, Hc, c1, c2, c4⟩
        rw [List.length_map, s.nlen, List.take_length] at c4
        have hp6 := O.p6
        refine ⟨D, D2, _, _, rfl, rfl, c2.base _ _ (c1 _ _ b4'), c2.base _ _ c4, sz_of (by rw [List.length_map]; show 3 + _ ≤ _; omega), fun l nl => ?_⟩
        obtain ⟨Hd, d1, d2, d3⟩ := c2.grow (snew (o := .lst ([.int s.gifts, .int s.outlay, .int s.well] ++ s.people.map fun q => V.int q.2)) nl)
        refine k l Hd _ (b1.trans (c1.trans d1)) d2 (b1.free (c1.free (c2.base.free nl))) ?_
        rw [d3 _ _ nl upd_same]
        unfold askL
        rw [List.map_append, List.map_map]; rfl
theorem sc_lsums : FnScope ["desk", "people", "given", "numbers", "number"] ["desk", "people", "given"] (defScope s_law_sums) := ⟨rfl, rfl, rfl, by decide +kernel, rfl, by decide +kernel, by decide +kernel⟩
theorem ok_lsums (T : Tx K mg) : Def P w K mg base CX0 12 (He.fAd K d_law_sums.at_) ["desk", "people", "given"] (spLawSums K) := by
  obtain ⟨fd, F⟩ := T.f_law_sums
  refine ⟨fd, F.ok sc_lsums (fun vs H Q E h => ?_) (fun cdv A outer s H vs Q E hr h => ?_), F.bindsN (fun _ _ _ _ _ _ us hl => match us, hl with | [_, _, _], _ => rfl), F.kp⟩
  · obtain ⟨_, _, _, _, rfl, _⟩ := h
    rfl
  · obtain ⟨H0, d, a, s, rfl, D0, ha, O, hg, k⟩ := h
    have hu64 : _ + 64 < cLine := Nat.lt_trans (Nat.lt_succ_self _) (hu65 hr)
    refine ⟨_, PSs.nox (pss_cons (ps_set (i := 3) sc_lsums.nd rfl (.inl rfl) (pe_f (ok_lasked T) hr pass0 T.g_law_asked (pa_cons (pv 0) (pa_cons (pv 1) pa_nil))))
      (pss_cons (ps_if (pt_cmpR (op_neD hu64) (pe_lc (own := [("number", 4)]) (g := gName 4) (tt := tTest (tOp (fun x y H Q => y = .non ∧ Q (.bl (decide (x = .non))) H) (tVar 4) (tC .non))) (te := tVar 4) rfl sc_lsums.nd (pi_list (pv 3)) (blkOk_by (N := ["desk", "people", "given", "numbers", "number"]) (sc := defScope s_law_sums) (by decide +kernel))
          (fun _ _ _ _ _ => pg_name (i := 4) sc_lsums.nd rfl (Or.inl rfl)) (fun _ _ _ _ _ => pts_one (pt_cmpR op_isN (pv 4) pe_non (nomark _))) (fun _ _ _ _ _ => pv 4)) (pe_lst pa_nil) (nomark _)) (pss_one (ps_ret pe_bl)) pss_nil)
      (pss_one (ps_ret (pe_and (pe_cmpR op_eq (pe_ix ix_list (pv 3) pe_int (fun _ _ => rfl)) (pv 2) (nomark _)) (pe_one (pe_cmpR op_eq (pe_callB (cr_sum rfl) (by rfl) T.z_sum (by decide +kernel) (pa_cons (pe_slice sl_list (pv 3) (po_some pe_int) po_none) pa_nil)) (pv 2) (nomark _)))))))), ?_⟩
    refine ⟨_, rfl, _, rfl, H0, d, a, s, rfl, D0, ha, O, hg, fun l Hb H1 b1 b2 nl hl => ?_⟩
    have hL := b2.base _ _ hl
    have h7 : (askL s).length ≤ 9 := by
      unfold askL
      rw [List.length_append, List.length_map]
      have := O.p6
      show 3 + _ ≤ 9
      omega
    refine ⟨_, rfl, l, rfl, ⟨_, SqL.of hL⟩, fun D nD => ?_⟩
    refine lc_it (walk_list (K := K) (a := l) (xs := (askL s).map V.int)) (fun i H' => H' = upd H1 D (.lst [])) rfl (fun i H' _ e => by rw [e]; exact SqL.of (snew nD _ _ hL)) ?_ ?_
    · rintro i x H2 H3 hi rfl ⟨rfl, hx⟩
      obtain ⟨z, _, rfl⟩ := List.mem_map.mp (List.mem_of_getElem? hx)
      exact ⟨rfl, _, rfl, rfl, _, rfl, rfl⟩
    · rintro H2 rfl
      have sD := snew (o := .lst []) nD
      refine ⟨Nat.zero_le _, fun n0 nn0 => ?_⟩
      have t0 := snew (o := .lst []) nn0
      have sA := sD.trans t0
      refine ⟨.list [], .list [], .lst (SqL.of (t0 _ _ upd_same)) .nil, .lst (SqL.of upd_same) .nil, shaped_nil2, shaped_nil2, _, rfl, ?_⟩
      rw [eqv_nil2]
      have hLA := sA _ _ hL
      refine ⟨_, rfl, l, _, _, _, rfl, rfl, SqL.of hLA, atI_nat (j := 0) rfl, _, rfl, rfl, true, congrArg V.bl (decide_eq_true rfl), ?_⟩
      refine ⟨_, rfl, 1, rfl, l, _, rfl, SqL.of hLA, fun b nb => ?_⟩
      have eb : cutV ((askL s).map V.int) (some 1) none = ((askL s).drop 1).map V.int := by
        unfold cutV
        have e1 : HT.sIx ((askL s).map V.int).length 0 (some ((1 : Nat) : Int)) = 1 := sIx_at (by rw [List.length_map]; unfold askL; rw [List.length_append]; show 1 ≤ 3 + _; omega)
        rw [show (1 : Int) = ((1 : Nat) : Int) from rfl, e1, HT.sIx_none, List.map_drop, List.take_of_length_le (by simp)]
      rw [eb]
      refine ⟨b, (askL s).drop 1, rfl, SqL.of upd_same, _, rfl, rfl, ?_⟩
      have es : ((askL s).drop 1).sum = s.gifts := by
        show s.outlay + (s.well + (s.people.map (·.2)).sum) = _
        have := O.sum
        have e3 : s.purses = (s.people.map (·.2)).sum := rfl
        omega
      rw [decide_eq_true (show V.int ((askL s).drop 1).sum = V.int s.gifts by rw [es])]
      exact k _ ((b2.narrow b1).mono (sA.trans (snew nb)))
end
end Ep
set_option Elab.async false
set_option linter.all false
set_option maxRecDepth 100000
set_option maxHeartbeats 4000000
/-! EpLawE: what is paid, what is too dear. -/
namespace Ep
open PySem PySem.Spec PyProof.Rows L2
open TL (tl numL)
def paidBy (rows : List (Str × Int)) (n : Str) : Int := ((rows.filter fun r => decide (r.1 = n)).map (·.2)).sum
def lessF (f : Str → Int) (L : List (Str × Int)) : List (Str × Int) := L.map fun q => (q.1, q.2 - f q.1)
abbrev dlI (L : List (Str × Int)) : List (Key × V) := dl (fun q => q.1) (fun q => V.int q.2) L
theorem lessF_keys (f : Str → Int) (L : List (Str × Int)) : (lessF f L).map (·.1) = L.map (·.1) := by
  unfold lessF
  rw [List.map_map]; rfl
theorem lessF_zero (L : List (Str × Int)) : lessF (fun _ => 0) L = L := by
  unfold lessF
  have : L.map (fun q => (q.1, q.2 - (0 : Int))) = L.map id := List.map_congr_left fun q _ => by simp
  rw [this, List.map_id]
theorem paidBy_nil (n : Str) : paidBy [] n = 0 := rfl
theorem paidBy_snoc (rows : List (Str × Int)) (r : Str × Int) (n : Str) : paidBy (rows ++ [r]) n = paidBy rows n + if r.1 = n then r.2 else 0 := by
  unfold paidBy
  rw [List.filter_append, List.map_append, List.sum_append, List.filter_cons]
  by_cases c : r.1 = n
  · rw [if_pos (decide_eq_true c), if_pos c]
    simp
  · rw [if_neg (by simp [c]), if_neg c]
    rfl
theorem paidBy_nonneg {rows : List (Str × Int)} (h : ∀ r, r ∈ rows → 0 ≤ r.2) (n : Str) : 0 ≤ paidBy rows n :=
  sum_map_nonneg fun r hr => h r (List.mem_filter.mp hr).1
theorem paidBy_app (a b : List (Str × Int)) (n : Str) : paidBy (a ++ b) n = paidBy a n + paidBy b n := by
  unfold paidBy
  rw [List.filter_append, List.map_append, List.sum_append]
theorem paidBy_take {rows : List (Str × Int)} (h : ∀ r, r ∈ rows → 0 ≤ r.2) (k : Nat) (n : Str) : paidBy (rows.take k) n ≤ paidBy rows n := by
  have e := paidBy_app (rows.take k) (rows.drop k) n
  rw [List.take_append_drop] at e
  have := paidBy_nonneg (rows := rows.drop k) (fun r hr => h r (List.mem_of_mem_drop hr)) n
  omega
def spPaid (K : PySem.W.Frag) : Sp := fun vs H Q _ => ∃ (b dL : Addr) (nm : List Str) (L rows : List (Str × Int)), vs = [.str (rowsT rows), .ref b, .ref dL] ∧ H b = some (.lst (nm.map V.str)) ∧ H dL = some (.dK (dlI L)) ∧ (L.map (·.1)).Nodup ∧ rows ≠ [] ∧ (rows.map (·.1)).Nodup ∧
  rows.length ≤ 6 ∧ L.length ≤ 6 ∧ (∀ r, r ∈ rows → NameOk r.1 ∧ 1 ≤ r.2 ∧ r.2 < 10 ^ 30 ∧ r.1 ∈ nm ∧ r.1 ∈ L.map (·.1)) ∧ (∀ q, q ∈ L → paidBy rows q.1 ≤ q.2) ∧
  ∀ H', Same (hide [dL] H) H' → H' dL = some (.dK (dlI (lessF (paidBy rows) L))) → Q (.int (rows.map (·.2)).sum) H'
def spDear (K : PySem.W.Frag) : Sp := fun vs H Q _ => ∃ (aw ap au : Addr) (ts : List Addr) (qs : List (Str × Int × List Str)) (ns : List Str) (pf : Nat → Int), vs = [.ref aw, .ref ap, .ref au] ∧ H aw = some (.lst (ts.map V.ref)) ∧ Each (WorkAt H) ts qs ∧ H ap = some (.lst (ns.map V.str)) ∧ LV H au ns.length pf ∧ ns.length ≤ 6 ∧
  (∀ q, q ∈ qs → (sumTo ns.length fun i => if decide (ns.getD i "" ∈ q.2.2) = true then pf i else 0) < q.2.1) ∧ ∀ H', Same H H' → Q (.bl true) H'
section
variable {P : Program} {w : World} {K : PySem.W.Frag} {mg : Str → Option Value} {base : Heap}
theorem sc_paid : FnScope ["text", "names", "left", "total", "known", "part", "words"] ["text", "names", "left"] (defScope s_law_paid) := ⟨rfl, rfl, rfl, by decide +kernel, rfl, by decide +kernel, by decide +kernel⟩
theorem ok_paid (T : Tx K mg) : Def P w K mg base CX0 2 (He.fAd K d_law_paid.at_) ["text", "names", "left"] (spPaid K) := by
  obtain ⟨fd, F⟩ := T.f_law_paid
  refine ⟨fd, F.ok sc_paid (fun vs H Q E h => ?_) (fun cdv A outer s H vs Q E hr h => ?_), F.bindsN (fun _ _ _ _ _ _ us hl => match us, hl with | [_, _, _], _ => rfl), F.kp⟩
  · obtain ⟨_, _, _, _, _, rfl, _⟩ := h
    rfl
  · obtain ⟨b, dL, nm, L, rows, rfl, hb, hd, Lnd, rne, rnd, r6, L6, hr2, hq, k⟩ := h
    have hu := hu_of hr
    refine ⟨_, PSs.nox (pss_cons (ps_set (i := 3) sc_paid.nd rfl (.inl rfl) pe_int)
      (pss_cons (ps_set (i := 4) sc_paid.nd rfl (.inl rfl) (pe_lst pa_nil))
      (pss_cons (ps_for PassesOwn.never rfl (pi_list (pe_split (pv 0) pe_str)) (pg_name (i := 5) sc_paid.nd rfl (.inl rfl))
        (pss_cons (ps_set (i := 6) sc_paid.nd rfl (.inl rfl) (pe_split (pv 5) pe_str))
        (pss_cons (ps_if (PW.pt (pw_or (pt_cmpR op_ne (pe_callB call_len_seq (by rfl) T.z_len PySem.boot_len (pa_cons (pv 6) pa_nil)) pe_int (nomark _)) (pw_or (pt_cmpR op_notIn_seq (pe_ix ix_list (pv 6) pe_int (fun _ _ => rfl)) (pv 1) (by rfl)) (pw_or (pt_cmpR op_in_seq (pe_ix ix_list (pv 6) pe_int (fun _ _ => rfl)) (pv 4) (by rfl))
          (pw_or1 (pt_cmpR op_isN (pe_f (ok_number T) hr pass0 T.g_law_number (pa_cons (pe_ix ix_list (pv 6) pe_int (fun _ _ => rfl)) pa_nil)) pe_non (nomark _))))))) (pss_one (ps_ret pe_non)) pss_nil)
        (pss_cons (ps_expr (pe_bm PySem.F.plainAttrs_list PySem.F.slot_list_append PySem.F.type_list_append mt_append (pv 4) (pa_cons (pe_ix ix_list (pv 6) pe_int (fun _ _ => rfl)) pa_nil)))
        (pss_cons (ps_dput hu (pv 2) (pe_ix ix_list (pv 6) pe_int (fun _ _ => rfl)) (pe_op op_sub (pe_dget hu (pv 2) (pe_ix ix_list (pv 6) pe_int (fun _ _ => rfl)) (fun _ _ => rfl)) (pe_f (ok_number T) hr pass0 T.g_law_number (pa_cons (pe_ix ix_list (pv 6) pe_int (fun _ _ => rfl)) pa_nil))) rfl)
        (pss_cons (ps_if (PW.pt (pw_or (pt_cmpR op_lt (pe_f (ok_number T) hr pass0 T.g_law_number (pa_cons (pe_ix ix_list (pv 6) pe_int (fun _ _ => rfl)) pa_nil)) pe_int (nomark _)) (pw_or1 (pt_cmpR op_lt (pe_dget hu (pv 2) (pe_ix ix_list (pv 6) pe_int (fun _ _ => rfl)) (fun _ _ => rfl)) pe_int (nomark _))))) (pss_one (ps_ret pe_non)) pss_nil)
        (pss_one (ps_set (i := 3) sc_paid.nd rfl (.inl rfl) (pe_op op_add (pv 3) (pe_f (ok_number T) hr pass0 T.g_law_number (pa_cons (pe_ix ix_list (pv 6) pe_int (fun _ _ => rfl)) pa_nil)))))))))))
      (pss_one (ps_ret (pv 3)))))), ?_⟩
    have r0 : ∀ r, r ∈ rows → 0 ≤ r.2 := fun r hr => by have := (hr2 r hr).2.1; omega
    refine ⟨Nat.zero_le _, fun lk nk => ?_⟩
    have t1 := snew (o := .lst []) nk
    have rl := rows_len (rs := rows) (fun r hr => ⟨(hr2 r hr).1, r0 r hr, (hr2 r hr).2.2.1⟩) r6
    refine ⟨_, rfl, ⟨_, rfl⟩, _, _, rfl, rfl, (by decide), sz_of (by omega), fun b0 n0 => ?_⟩
    rw [rows_split rne fun r hr => ⟨(hr2 r hr).1, r0 r hr⟩]
    have t2 := t1.trans (snew (o := .lst ((rows.map rowT).map V.str)) n0)
    have b0k : b0 ≠ lk := (ne_of_none (upd_same (H := H) (a := lk)) n0).symm
    have dk : dL ≠ lk := ne_of_none hd nk
    have b0d : b0 ≠ dL := (ne_of_none (t1 _ _ hd) n0).symm
    have bd : b ≠ dL := ne_of hb hd (by intro z; cases z)
    refine ⟨b0, rfl, ⟨_, SqL.of upd_same⟩, ?_⟩
    have nH : ∀ a, a ∈ ([lk, dL] : List Addr) → hide [dL] H a = none := fun a ha => by
      rcases List.mem_cons.mp ha with e | e
      · rw [e, hide_out (by simp [dk.symm])]; exact nk
      · exact hide_in e
    refine for_it (walk_list (K := K) (a := b0) (xs := (rows.map rowT).map V.str)) (fun i σ H' => i ≤ rows.length ∧ (∃ v5 v6, σ = [some (.str (rowsT rows)), some (.ref b), some (.ref dL), some (.int ((rows.take i).map (·.2)).sum), some (.ref lk), v5, v6]) ∧
      Same (hide [dL] H) (hide [lk, dL] H') ∧ hide [lk, dL] H' b0 = some (.lst ((rows.map rowT).map V.str)) ∧ H' lk = some (.lst (((rows.take i).map (·.1)).map V.str)) ∧ H' dL = some (.dK (dlI (lessF (paidBy (rows.take i)) L)))) ?_ ?_ ?_ ?_
    · refine ⟨Nat.zero_le _, ⟨none, none, rfl⟩, hide_into ((hide_le _ _).trans t2) nH, ?_, ?_, ?_⟩
      · rw [hide_out (by simp [b0k, b0d])]
        exact upd_same
      · rw [upd_ne b0k.symm, upd_same]; rfl
      · rw [t2 _ _ hd]
        have e : lessF (paidBy (rows.take 0)) L = L := lessF_zero L
        rw [e]
    · rintro i σ H' _ ⟨_, _, _, g2, _⟩
      exact SqL.of (hide_le _ _ _ _ g2)
    · rintro i x σ H3 H4 hi ⟨_, ⟨v5, v6, rfl⟩, g1, g2, g3, g4⟩ ⟨rfl, hx⟩
      rw [List.length_map, List.length_map] at hi
      have hx2 : ((rows.map rowT).map V.str)[i]? = some x := hx
      rw [List.getElem?_map, List.getElem?_map, List.getElem?_eq_getElem hi] at hx2
      obtain rfl : x = V.str (rowT rows[i]) := (Option.some.inj hx2).symm
      obtain ⟨r, er⟩ : ∃ r, r = rows[i] := ⟨_, rfl⟩
      rw [← er]
      have mr0 : r ∈ rows := by rw [er]; exact List.getElem_mem hi
      obtain ⟨m1, m2, m3, m4, m5⟩ := hr2 r mr0
      have hl := head_len m1 (r0 r mr0) m3
      have etk : rows.take (i + 1) = rows.take i ++ [r] := by rw [List.take_add_one, List.getElem?_eq_getElem hi, ← er]; rfl
      have hl2 : (rowT r).length ≤ 39 := hl
      refine ⟨_, rfl, ⟨_, rfl⟩, _, _, rfl, rfl, (by decide), sz_of (by omega), fun p np => ?_⟩
      rw [row_split m1 (r0 r mr0)]
      have p1 := snew (o := .lst (([r.1, numS r.2] : List Str).map V.str)) np
      have pS : (upd H4 p (.lst (([r.1, numS r.2] : List Str).map V.str))) p = _ := upd_same
      have npk : p ≠ lk := (ne_of_none g3 np).symm
      have npd : p ≠ dL := (ne_of_none g4 np).symm
      have hbb : hide [dL] H b = some (.lst (nm.map V.str)) := by
        rw [hide_out (by simp [bd])]
        exact hb
      refine ⟨_, rfl, p, _, rfl, .inl (SqL.of pS), rfl, _, rfl, ?_⟩
      refine ⟨_, rfl, p, _, _, _, rfl, rfl, SqL.of pS, atI_nat (j := 0) rfl, _, rfl, b, _, rfl, .inl (SqL.of (p1 _ _ (hide_le _ _ _ _ (g1 _ _ hbb)))), rfl, flat_str _, _, rfl, ?_⟩
      show (if (!inV (.str r.1) (nm.map V.str)) = true then _ else _)
      rw [inV_str, decide_eq_true m4]
      refine ⟨_, rfl, p, _, _, _, rfl, rfl, SqL.of pS, atI_nat (j := 0) rfl, _, rfl, lk, _, rfl, .inl (SqL.of (p1 _ _ g3)), rfl, flat_str _, _, rfl, ?_⟩
      rw [inV_str]
      have nk2 : r.1 ∉ (rows.take i).map (·.1) := fun m => by
        have nd2 : ((rows.take (i + 1)).map (·.1)).Nodup := List.Nodup.sublist (List.Sublist.map _ (List.take_sublist _ _)) rnd
        rw [etk, List.map_append] at nd2
        exact (List.nodup_append.mp nd2).2.2 _ m r.1 (by simp) rfl
      rw [decide_eq_false nk2]
      refine ⟨_, rfl, p, _, _, _, rfl, rfl, SqL.of pS, atI_nat (j := 1) rfl, r.2, rfl, r0 r mr0, m3, fun H5 s5 => ?_⟩
      refine ⟨rfl, _, rfl, ?_⟩
      have pS5 := s5 _ _ pS
      have s15 := p1.trans s5
      -- known
      refine ⟨_, rfl, .inl ⟨rfl, _, SqL.of (s15 _ _ g3)⟩, _, rfl, p, _, _, _, rfl, rfl, SqL.of pS5, atI_nat (j := 0) rfl, lk, _, _, rfl, rfl, s15 _ _ g3, sz_lt (by rw [List.length_map, List.length_map, List.length_take]; omega), ?_⟩
      obtain ⟨H6, e6⟩ : ∃ H6, H6 = upd H5 lk (.lst (((rows.take i).map (·.1)).map V.str ++ [.str r.1])) := ⟨_, rfl⟩
      have pS6 : H6 p = some (.lst (([r.1, numS r.2] : List Str).map V.str)) := by rw [e6, upd_ne npk]; exact pS5
      have d6 : H6 dL = some (.dK (dlI (lessF (paidBy (rows.take i)) L))) := by rw [e6, upd_ne dk]; exact s15 _ _ g4
      have k6 : H6 lk = some (.lst (((rows.take (i + 1)).map (·.1)).map V.str)) := by rw [e6, upd_same, etk, List.map_append, List.map_append]; rfl
      have h6 : Same (hide [lk, dL] H4) (hide [lk, dL] H6) := by
        rw [e6, hide_upd (by simp)]
        exact hide_same s15
      rw [← e6]
      clear e6
      obtain ⟨q, hqm, hqe⟩ := exists_key (fun q : Str × Int => q.1) m5
      have keys := lessF_keys (paidBy (rows.take i)) L
      have qm : (q.1, q.2 - paidBy (rows.take i) q.1) ∈ lessF (paidBy (rows.take i)) L := List.mem_map.mpr ⟨q, hqm, rfl⟩
      have hv := valV_dl_mem (kf := fun q : Str × Int => q.1) (vf := fun q => V.int q.2) (by rw [keys]; exact Lnd) qm
      have hqe' : q.1 = r.1 := hqe
      have hg : DGet H6 dL (.str r.1) (some (V.int (q.2 - paidBy (rows.take i) q.1))) := by
        rw [← hv, hqe]
        exact DGet.k (k := Sum.inr r.1) d6
      refine ⟨_, rfl, _, rfl, p, _, _, _, rfl, rfl, SqL.of pS6, atI_nat (j := 0) rfl, dL, _, rfl, hg, _, rfl, p, _, _, _, rfl, rfl, SqL.of pS6, atI_nat (j := 1) rfl, r.2, rfl, r0 r mr0, m3, fun H7 s7 => ?_⟩
      refine ⟨_, _, rfl, rfl, _, rfl, _, rfl, p, _, _, _, rfl, rfl, SqL.of (s7 _ _ pS6), atI_nat (j := 0) rfl, dL, _, rfl, DPut.k (k := Sum.inr r.1) (s7 _ _ d6) (sz_lt (by rw [dl_length]; unfold lessF; rw [List.length_map]; omega)), ?_⟩
      have keyr : r.1 ∈ (lessF (paidBy (rows.take i)) L).map (·.1) := by rw [keys]; exact m5
      have eput : putK (dlI (lessF (paidBy (rows.take i)) L)) (Sum.inr r.1 : Key) (V.int (q.2 - paidBy (rows.take i) q.1 - r.2)) = dlI (lessF (paidBy (rows.take (i + 1))) L) := by
        rw [putK_dl_old (kf := fun q : Str × Int => q.1) (vf := fun q => V.int q.2) _ keyr]
        unfold dlI dl lessF
        rw [List.map_map, List.map_map]
        refine List.map_congr_left fun z hz => ?_
        show ((Sum.inr z.1 : Key), if z.1 = r.1 then V.int (q.2 - paidBy (rows.take i) q.1 - r.2) else V.int (z.2 - paidBy (rows.take i) z.1)) = ((Sum.inr z.1 : Key), V.int (z.2 - paidBy (rows.take (i + 1)) z.1))
        rw [etk, paidBy_snoc]
        by_cases cz : z.1 = r.1
        · have ez : z = q := by
            have f1 := find_key (fun q : Str × Int => q.1) Lnd hz
            have f2 := find_key (fun q : Str × Int => q.1) Lnd hqm
            rw [hqe', ← cz] at f2
            have f3 : L.find? (fun r => decide (r.1 = z.1)) = some z := f1
            have f4 : L.find? (fun r => decide (r.1 = z.1)) = some q := f2
            rw [f3] at f4
            exact Option.some.inj f4
          subst ez
          rw [if_pos cz, if_pos cz.symm]
          exact congrArg (fun t => ((Sum.inr z.1 : Key), V.int t)) (by omega)
        · rw [if_neg cz, if_neg fun e => cz e.symm, Int.add_zero]
      rw [eput]
      obtain ⟨H8, e8⟩ : ∃ H8, H8 = upd H7 dL (.dK (dlI (lessF (paidBy (rows.take (i + 1))) L))) := ⟨_, rfl⟩
      have pS8 : H8 p = some (.lst (([r.1, numS r.2] : List Str).map V.str)) := by rw [e8, upd_ne npd]; exact s7 _ _ pS6
      have d8 : H8 dL = some (.dK (dlI (lessF (paidBy (rows.take (i + 1))) L))) := by rw [e8, upd_same]
      have k8 : H8 lk = some (.lst (((rows.take (i + 1)).map (·.1)).map V.str)) := by rw [e8, upd_ne dk.symm]; exact s7 _ _ k6
      have h8 : Same (hide [lk, dL] H4) (hide [lk, dL] H8) := by
        rw [e8, hide_upd (by simp)]
        exact h6.trans (hide_same s7)
      refine (?_ : ∀ Hx, Hx = H8 → _) _ e8.symm
      clear e8
      rintro Hx rfl
      refine ⟨_, rfl, p, _, _, _, rfl, rfl, SqL.of pS8, atI_nat (j := 1) rfl, r.2, rfl, r0 r mr0, m3, fun H9 s9 => ?_⟩
      refine ⟨_, _, rfl, rfl, _, rfl, ?_⟩
      rw [decide_eq_false (by omega)]
      have qm2 : (q.1, q.2 - paidBy (rows.take (i + 1)) q.1) ∈ lessF (paidBy (rows.take (i + 1))) L := List.mem_map.mpr ⟨q, hqm, rfl⟩
      have hv2 := valV_dl_mem (kf := fun q : Str × Int => q.1) (vf := fun q => V.int q.2) (by rw [lessF_keys]; exact Lnd) qm2
      have hg2 : DGet H9 dL (.str r.1) (some (V.int (q.2 - paidBy (rows.take (i + 1)) q.1))) := by
        rw [← hv2, hqe]
        exact DGet.k (k := Sum.inr r.1) (s9 _ _ d8)
      refine ⟨_, rfl, _, rfl, p, _, _, _, rfl, rfl, SqL.of (s9 _ _ pS8), atI_nat (j := 0) rfl, dL, _, rfl, hg2, _, _, rfl, rfl, _, rfl, ?_⟩
      have pos := hq q hqm
      have ptk := paidBy_take r0 (i + 1) q.1
      rw [decide_eq_false (by omega)]
      refine ⟨_, rfl, _, rfl, p, _, _, _, rfl, rfl, SqL.of (s9 _ _ pS8), atI_nat (j := 1) rfl, r.2, rfl, r0 r mr0, m3, fun H10 s10 => ?_⟩
      have sT := s9.trans s10
      have hT := h8.trans (hide_same (S := [lk, dL]) sT)
      refine ⟨_, _, rfl, rfl, hi, ⟨some (.str (rowT r)), some (.ref p), ?_⟩, g1.trans hT, hT _ _ g2, sT _ _ k8, sT _ _ d8⟩
      rw [etk, List.map_append, List.sum_append]
      show _ = [_, _, _, some (V.int (((rows.take i).map (·.2)).sum + (r.2 + 0))), _, _, _]
      rw [Int.add_zero]; rfl
    · rintro σ H3 ⟨_, ⟨v5, v6, rfl⟩, g1, g2, g3, g4⟩
      rw [List.length_map, List.length_map, List.take_length] at g4 ⊢
      exact ⟨_, rfl, k H3 (g1.trans (hide_le _ _)) g4⟩
theorem sc_dear : FnScope ["works", "people", "purses", "name", "cost", "names", "k"] ["works", "people", "purses"] (defScope s_law_too_dear) := ⟨rfl, rfl, rfl, by decide +kernel, rfl, by decide +kernel, by decide +kernel⟩
theorem ok_dear (T : Tx K mg) : Def P w K mg base CX0 1 (He.fAd K d_law_too_dear.at_) ["works", "people", "purses"] (spDear K) := by
  obtain ⟨fd, F⟩ := T.f_law_too_dear
  refine ⟨fd, F.ok sc_dear (fun vs H Q E h => ?_) (fun cdv A outer s H vs Q E hr h => ?_), F.bindsN (fun _ _ _ _ _ _ us hl => match us, hl with | [_, _, _], _ => rfl), F.kp⟩
  · obtain ⟨_, _, _, _, _, _, _, rfl, _⟩ := h
    rfl
  · obtain ⟨aw, ap, au, ts, qs, ns, pf, rfl, hw, hE, hp, hu, n6, hq, k⟩ := h
    refine ⟨_, PSs.nox (pss_cons (ps_for PassesOwn.never rfl (pi_list (pv 0)) (pg_tup rfl (pgs_cons (pg_name (i := 3) sc_dear.nd rfl (.inl rfl)) (pgs_cons (pg_name (i := 4) sc_dear.nd rfl (.inl rfl)) (pgs_cons (pg_name (i := 5) sc_dear.nd rfl (.inr rfl)) pgs_nil))))
        (pss_one (ps_if (pt_cmpR op_ge (pe_callB (cr_sum rfl) (by rfl) T.z_sum (by decide +kernel) (pa_cons
          (pe_lc (own := [("k", 6)]) (g := gName 6) (tt := tTest (tOp (rIn K false) (tOp (rIxL K) (tVar 1) (tVar 6)) (tVar 5))) (te := tOp (rIxL K) (tVar 2) (tVar 6)) rfl sc_dear.nd (pi_range1 rfl T.z_range (pa_cons (pe_callB call_len_seq (by rfl) T.z_len PySem.boot_len (pa_cons (pv 1) pa_nil)) pa_nil))
            (blkOk_by (N := ["works", "people", "purses", "name", "cost", "names", "k"]) (sc := defScope s_law_too_dear) (by decide +kernel)) (fun _ _ _ _ _ => pg_name (i := 6) sc_dear.nd rfl (Or.inl rfl))
            (fun _ _ _ _ _ => pts_one (pt_cmpR op_in_seq (pe_ix ix_list (pv 1) (pv 6) (fun _ _ => rfl)) (pv 5) (by rfl))) (fun _ _ _ _ _ => pe_ix ix_list (pv 2) (pv 6) (fun _ _ => rfl))) pa_nil)) (pv 4) (nomark _)) (pss_one (ps_ret pe_bl)) pss_nil)))
      (pss_one (ps_ret pe_bl))), ?_⟩
    refine ⟨_, rfl, aw, rfl, ⟨_, SqL.of hw⟩, ?_⟩
    refine for_it (walk_list (K := K) (a := aw) (xs := ts.map V.ref)) (fun i σ H' => (∃ v3 v4 v5, σ = [some (.ref aw), some (.ref ap), some (.ref au), v3, v4, v5, none]) ∧ Same H H') ⟨⟨none, none, none, rfl⟩, fun _ _ q => q⟩ ?_ ?_ ?_
    · rintro i σ H' _ ⟨_, s1⟩
      exact SqL.of (s1 _ _ hw)
    · rintro i x σ H1 H2 hi ⟨⟨v3, v4, v5, rfl⟩, s1⟩ ⟨rfl, hx⟩
      rw [List.length_map] at hi
      have hx2 : (ts.map V.ref)[i]? = some x := hx
      rw [List.getElem?_map, List.getElem?_eq_getElem hi] at hx2
      obtain rfl : x = V.ref ts[i] := (Option.some.inj hx2).symm
      obtain ⟨q, hq1, lq, w1, w2⟩ := hE.left (List.getElem?_eq_getElem hi)
      refine ⟨ts[i], _, rfl, SqT.of (s1 _ _ w1), rfl, _, _, rfl, _, _, rfl, _, _, rfl, rfl, ?_⟩
      refine ⟨_, rfl, ap, _, rfl, .inl (SqL.of (s1 _ _ hp)), (ns.length : Int), by rw [List.length_map], by omega, by omega, fun D nD => ?_⟩
      have en : ((ns.length : Nat) : Int).toNat = ns.length := by omega
      refine lc_it (walk_range (lo := 0) (n := ((ns.length : Nat) : Int).toNat)) (fun j H' => j ≤ ns.length ∧ Same H2 H' ∧ H' D = some (.lst ((gv j (fun i => decide (ns.getD i "" ∈ q.2.2)) pf).map V.int))) ⟨Nat.zero_le _, snew nD, upd_same⟩ (fun _ _ _ _ => trivial) ?_ ?_
      · rintro j x H3 H4 hj ⟨_, s3, hL⟩ ⟨rfl, hx⟩
        rw [en] at hj
        obtain rfl : x = V.int (j : Int) := hx.trans (congrArg V.int (by omega))
        have s13 := s1.trans s3
        have gj : ns[j]? = some (ns.getD j "") := by
          rw [List.getElem?_eq_getElem hj]
          simp [List.getD, hj]
        refine ⟨rfl, _, rfl, _, rfl, ap, _, _, _, rfl, rfl, SqL.of (s13 _ _ hp), atI_nat (v := V.str (ns.getD j "")) (by rw [List.getElem?_map, gj]; rfl), _, rfl, lq, _, rfl, .inl (SqL.of (s13 _ _ w2)), rfl, flat_str _, _, rfl, ?_⟩
        rw [inV_str]
        refine ite2 (fun c => ?_) (fun c => ?_)
        · refine ⟨_, rfl, _, rfl, au, _, _, _, rfl, rfl, SqL.of (s13 _ _ hu), atI_vec hj, _, hL, sz_lt (by rw [List.length_map]; have := gv_len j (fun i => decide (ns.getD i "" ∈ q.2.2)) pf; omega), hj, smut s3 nD, ?_⟩
          rw [upd_same, gv_yes (f := fun i => decide (ns.getD i "" ∈ q.2.2)) c, List.map_append]; rfl
        · refine ⟨hj, s3, ?_⟩
          rw [gv_no (f := fun i => decide (ns.getD i "" ∈ q.2.2)) (eq_false_of_ne_true c)]
          exact hL
      · rintro H3 ⟨_, s3, hL⟩
        rw [en] at hL
        refine ⟨D, _, rfl, SqL.of hL, _, rfl, _, _, rfl, rfl, _, rfl, ?_⟩
        have hs : (gv ns.length (fun i => decide (ns.getD i "" ∈ q.2.2)) pf).sum = sumTo ns.length fun i => if decide (ns.getD i "" ∈ q.2.2) = true then pf i else 0 := by
          unfold gv
          rw [sumTo_filter]
        have hlt := hq q (List.mem_of_getElem? hq1)
        rw [decide_eq_false (by omega)]
        exact ⟨⟨_, _, _, rfl⟩, s1.trans s3⟩
    · rintro σ H1 ⟨⟨v3, v4, v5, rfl⟩, s1⟩
      exact k H1 s1
end
end Ep
set_option Elab.async false
set_option linter.all false
set_option maxRecDepth 100000
set_option maxHeartbeats 4000000
/-! EpLawF: the parts told. -/
namespace Ep
open PySem PySem.Spec PyProof.Rows L2
open TL (tl numL)
theorem Each.erase {α β : Type} {R : α → β → Prop} {as : List α} {bs : List β} (h : Each R as bs) (m : Nat) : Each R (as.eraseIdx m) (bs.eraseIdx m) := by
  refine ⟨?_, fun i a b ha hb => ?_⟩
  · rw [List.length_eraseIdx, List.length_eraseIdx, h.1]
  · rw [List.getElem?_eraseIdx] at ha hb
    by_cases c : i < m
    · rw [if_pos c] at ha hb
      exact h.2 i a b ha hb
    · rw [if_neg c] at ha hb
      exact h.2 (i + 1) a b ha hb
theorem hide_more {S S' : List Addr} {H H' : Hp} (sub : ∀ a, a ∈ S → a ∈ S') (h : Same (hide S H) H') : Same (hide S' H) (hide S' H') := fun a o e => by
  obtain ⟨n, q⟩ := hide_some e
  rw [hide_out n]
  exact h a o (by rw [hide_out fun m => n (sub a m)]; exact q)
theorem paidTo_snoc (told : List Done) (d : Done) (n : Str) : paidTo (told ++ [d]) n = paidTo told n + paidBy d.rows n := by
  unfold paidTo
  rw [List.map_append, List.sum_append]
  show _ + (paidBy d.rows n + 0) = _
  rw [Int.add_zero]
theorem paidTo_app (a b : List Done) (n : Str) : paidTo (a ++ b) n = paidTo a n + paidTo b n := by
  unfold paidTo
  rw [List.map_append, List.sum_append]
theorem paidTo_nonneg {told : List Done} (h : ∀ d, d ∈ told → ∀ r, r ∈ d.rows → 1 ≤ r.2) (n : Str) : 0 ≤ paidTo told n :=
  sum_map_nonneg fun d hd => paidBy_nonneg (rows := d.rows) (fun r hr => by have := h d hd r hr; omega) n
theorem paidTo_take {told : List Done} (h : ∀ d, d ∈ told → ∀ r, r ∈ d.rows → 1 ≤ r.2) (k : Nat) (n : Str) : paidTo (told.take k) n ≤ paidTo told n := by
  have e := paidTo_app (told.take k) (told.drop k) n
  rw [List.take_append_drop] at e
  have := paidTo_nonneg (told := told.drop k) (fun d hd => h d (List.mem_of_mem_drop hd)) n
  omega
theorem lessF_lessF (f g : Str → Int) (L : List (Str × Int)) : lessF g (lessF f L) = lessF (fun n => f n + g n) L := by
  unfold lessF
  rw [List.map_map]
  refine List.map_congr_left fun q _ => ?_
  show (q.1, q.2 - f q.1 - g q.1) = (q.1, q.2 - (f q.1 + g q.1))
  rw [show q.2 - f q.1 - g q.1 = q.2 - (f q.1 + g q.1) by omega]
def rest (told : List Done) (qs : List (Str × Int × List Str)) : List (Str × Int × List Str) := qs.filter fun q => decide (q.1 ∉ told.map (·.name))
theorem rest_nil (qs : List (Str × Int × List Str)) : rest [] qs = qs := filter_all fun q _ => decide_eq_true (by simp)
theorem rest_snoc (told : List Done) (d : Done) (qs : List (Str × Int × List Str)) : (rest told qs).filter (fun q => decide (q.1 ≠ d.name)) = rest (told ++ [d]) qs := by
  unfold rest
  rw [List.filter_filter]
  refine List.filter_congr fun q _ => ?_
  rw [List.map_append]
  have e : (q.1 ∉ told.map (·.name) ++ ([d].map (·.name))) ↔ (q.1 ≠ d.name ∧ q.1 ∉ told.map (·.name)) := by
    simp only [List.map_cons, List.map_nil, List.mem_append, List.mem_singleton, not_or]
    exact ⟨fun h => ⟨h.2, h.1⟩, fun h => ⟨h.2, h.1⟩⟩
  by_cases c : q.1 ≠ d.name ∧ q.1 ∉ told.map (·.name)
  · rw [decide_eq_true (e.mpr c), decide_eq_true c.1, decide_eq_true c.2]; rfl
  · rw [decide_eq_false (fun x => c (e.mp x))]
    by_cases c1 : q.1 ≠ d.name
    · rw [decide_eq_true c1, decide_eq_false fun c2 => c ⟨c1, c2⟩]; rfl
    · rw [decide_eq_false c1]; rfl
theorem eqv_work {q r : Str × Int × List Str} (h : q.1 ≠ r.1) : PyData.eqv (workD q) (workD r) = false := by
  unfold workD
  simp [PyData.eqv, PyData.eqvAll, h]
/-- a closing's rows, as they are told of the works qs -/
structure ToldOf (told : List Done) (G : Int) (qs : List (Str × Int × List Str)) (L : List (Str × Int)) : Prop where
  lnd : (L.map (·.1)).Nodup
  l6 : L.length ≤ 6
  qnd : (qs.map (·.1)).Nodup
  qok : ∀ q, q ∈ qs → WOk q
  q6 : qs.length ≤ 6
  t6 : told.length ≤ 6
  dok : ∀ d, d ∈ told → DOk d
  dnd : (told.map (·.name)).Nodup
  work : ∀ d, d ∈ told → ∃ q, q ∈ qs ∧ q.1 = d.name ∧ q.2.1 = d.cost ∧ ∀ r, r ∈ d.rows → r.1 ∈ q.2.2
  rnd : ∀ d, d ∈ told → (d.rows.map (·.1)).Nodup
  rpos : ∀ d, d ∈ told → ∀ r, r ∈ d.rows → 1 ≤ r.2
  rsum : ∀ d, d ∈ told → (d.rows.map (·.2)).sum = d.cost * G
  rne : ∀ d, d ∈ told → d.rows ≠ []
  rkey : ∀ d, d ∈ told → ∀ r, r ∈ d.rows → r.1 ∈ L.map (·.1)
  room : ∀ q, q ∈ L → paidTo told q.1 ≤ q.2
  g1 : 1 ≤ G
  g2 : G ≤ 2799360000000
def spParts (K : PySem.W.Frag) : Sp := fun vs H Q _ => ∃ (ap aw dL : Addr) (told : List Done) (G : Int) (qs : List (Str × Int × List Str)) (ts : List Addr) (L : List (Str × Int)) (HB : Hp), vs = [.ref ap, .int G, .ref aw, .ref dL] ∧ H ap = some (.lst ((told.map partT).map V.str)) ∧ ap ≠ aw ∧
  H aw = some (.lst (ts.map V.ref)) ∧ Same HB (hide [aw, dL] H) ∧ Each (WorkAt HB) ts qs ∧ H dL = some (.dK (dlI L)) ∧ ToldOf told G qs L ∧
  ∀ H' ts', Same (hide [aw, dL] H) (hide [aw, dL] H') → H' aw = some (.lst (ts'.map V.ref)) → Each (WorkAt HB) ts' (rest told qs) → H' dL = some (.dK (dlI (lessF (paidTo told) L))) → Q (.int (told.map (·.cost)).sum) H'
section
variable {P : Program} {w : World} {K : PySem.W.Frag} {mg : Str → Option Value} {base : Heap}
theorem sc_parts : FnScope ["parts", "grains", "works", "left", "spent", "part", "halves", "there", "work"] ["parts", "grains", "works", "left"] (defScope s_law_parts_right) := ⟨rfl, rfl, rfl, by decide +kernel, rfl, by decide +kernel, by decide +kernel⟩
theorem ok_parts (T : Tx K mg) : Def P w K mg base CX0 3 (He.fAd K d_law_parts_right.at_) ["parts", "grains", "works", "left"] (spParts K) := by
  obtain ⟨fd, F⟩ := T.f_law_parts_right
  refine ⟨fd, F.ok sc_parts (fun vs H Q E h => ?_) (fun cdv A outer s H vs Q E hr h => ?_), F.bindsN (fun _ _ _ _ _ _ us hl => match us, hl with | [_, _, _, _], _ => rfl), F.kp⟩
  · obtain ⟨_, _, _, _, _, _, _, _, _, rfl, _⟩ := h
    rfl
  · obtain ⟨ap, aw, dL, told, G, qs, ts, L, HB, rfl, hp, npw, hw, hB, hE, hd, O, k⟩ := h
    have hu := hu_of hr
    refine ⟨_, PSs.nox (pss_cons (ps_set (i := 4) sc_parts.nd rfl (.inl rfl) pe_int)
      (pss_cons (ps_for PassesOwn.never rfl (pi_list (pv 0)) (pg_name (i := 5) sc_parts.nd rfl (.inl rfl))
        (pss_cons (ps_set (i := 6) sc_parts.nd rfl (.inr rfl) (pe_split (pv 5) pe_str))
        (pss_cons (ps_setLc (i := 7) (own := [("work", 8)]) (g := gName 8) (tt := tTest (tOp rEq (tOp (fun x y H Q => ∃ i j, x = .str i ∧ y = .str j ∧ i.length + j.length ≤ sizeLine ∧ Q (.str (i ++ j)) H) (tOp (fun x y H Q => ∃ i j, x = .str i ∧ y = .str j ∧ i.length + j.length ≤ sizeLine ∧ Q (.str (i ++ j)) H) (tOp (rIxT K) (tVar 8) (tC (.int 0))) (tC (.str " "))) (tCB (fun xs H Q => ∃ i, xs = [.int i] ∧ i.natAbs.log2 < 1920 ∧ Q (.str (toString i)) H) (tCons (tOp (rIxT K) (tVar 8) (tC (.int 1))) tNil))) (tOp (rIxL K) (tVar 6) (tC (.int 0))))) (te := tVar 8) rfl sc_parts.nd rfl rfl (sw_true rfl rfl rfl (by decide +kernel))
          (pi_list (pv 2)) (blkOk_by (N := ["parts", "grains", "works", "left", "spent", "part", "halves", "there", "work"]) (sc := defScope s_law_parts_right) (by decide +kernel)) (fun _ _ _ _ _ => pg_name (i := 8) sc_parts.nd rfl (Or.inl rfl))
          (fun _ _ _ _ _ => pts_one (pt_cmpR op_eq (pe_op op_add_str (pe_op op_add_str (pe_ix ix_tup (pv 8) pe_int (fun _ _ => rfl)) pe_str) (pe_callTy call_str_int (by rfl) T.z_str (by decide +kernel) (pa_cons (pe_ix ix_tup (pv 8) pe_int (fun _ _ => rfl)) pa_nil))) (pe_ix ix_list (pv 6) pe_int (fun _ _ => rfl)) (nomark _))) (fun _ _ _ _ _ => pv 8))
        (pss_cons (ps_if (PW.pt (pw_or (pt_cmpR op_ne (pe_callB call_len_seq (by rfl) T.z_len PySem.boot_len (pa_cons (pv 6) pa_nil)) pe_int (nomark _)) (pw_or1 (pt_cmpR op_ne (pe_callB call_len_seq (by rfl) T.z_len PySem.boot_len (pa_cons (pv 7) pa_nil)) pe_int (nomark _))))) (pss_one (ps_ret pe_non)) pss_nil)
        (pss_cons (ps_if (pt_cmpR op_ne (pe_f (ok_paid T) hr pass0 T.g_law_paid (pa_cons (pe_ix ix_list (pv 6) pe_int (fun _ _ => rfl)) (pa_cons (pe_ix ix_tup (pe_ix ix_list (pv 7) pe_int (fun _ _ => rfl)) pe_int (fun _ _ => rfl)) (pa_cons (pv 3) pa_nil))))
          (pe_op op_mul (pe_ix ix_tup (pe_ix ix_list (pv 7) pe_int (fun _ _ => rfl)) pe_int (fun _ _ => rfl)) (pv 1)) (nomark _)) (pss_one (ps_ret pe_non)) pss_nil)
        (pss_cons (ps_expr (pe_bm PySem.F.plainAttrs_list PySem.F.slot_list_remove PySem.F.type_list_remove (mt_removeD (hu65 hr)) (pv 2) (pa_cons (pe_ix ix_list (pv 7) pe_int (fun _ _ => rfl)) pa_nil)))
        (pss_one (ps_set (i := 4) sc_parts.nd rfl (.inl rfl) (pe_op op_add (pv 4) (pe_ix ix_tup (pe_ix ix_list (pv 7) pe_int (fun _ _ => rfl)) pe_int (fun _ _ => rfl)))))))))))
      (pss_one (ps_ret (pv 4))))), ?_⟩
    have apd : ap ≠ dL := ne_of hp hd (by intro z; cases z)
    have awd : aw ≠ dL := ne_of hw hd (by intro z; cases z)
    have hpS : hide [aw, dL] H ap = some (.lst ((told.map partT).map V.str)) := by
      rw [hide_out (by simp [npw, apd])]
      exact hp
    refine ⟨_, rfl, ap, rfl, ⟨_, SqL.of hp⟩, ?_⟩
    refine for_it (walk_list (K := K) (a := ap) (xs := (told.map partT).map V.str)) (fun i σ H' => i ≤ told.length ∧ (∃ v5 v6 v7, σ = [some (.ref ap), some (.int G), some (.ref aw), some (.ref dL), some (.int ((told.take i).map (·.cost)).sum), v5, v6, v7, none]) ∧
      Same (hide [aw, dL] H) (hide [aw, dL] H') ∧ (∃ ts' : List Addr, H' aw = some (.lst (ts'.map V.ref)) ∧ Each (WorkAt HB) ts' (rest (told.take i) qs)) ∧ H' dL = some (.dK (dlI (lessF (paidTo (told.take i)) L)))) ?_ ?_ ?_ ?_
    · refine ⟨Nat.zero_le _, ⟨none, none, none, rfl⟩, fun _ _ q => q, ⟨ts, hw, ?_⟩, ?_⟩
      · show Each _ ts (rest [] qs)
        rw [rest_nil]
        exact hE
      · have e : lessF (paidTo (told.take 0)) L = L := lessF_zero L
        rw [e]
        exact hd
    · rintro i σ H' _ ⟨_, _, g1, _⟩
      exact SqL.of (hide_le _ _ _ _ (g1 _ _ hpS))
    · rintro i x σ H3 H4 hi ⟨_, ⟨v5, v6, v7, rfl⟩, g1, ⟨ts', g2, gE0⟩, g4⟩ ⟨rfl, hx⟩
      have gE := gE0.mono fun _ _ _ _ z => z.mono (hB.trans g1)
      rw [List.length_map, List.length_map] at hi
      have hx2 : ((told.map partT).map V.str)[i]? = some x := hx
      rw [List.getElem?_map, List.getElem?_map, List.getElem?_eq_getElem hi] at hx2
      obtain rfl : x = V.str (partT told[i]) := (Option.some.inj hx2).symm
      obtain ⟨d, ed⟩ : ∃ d, d = told[i] := ⟨_, rfl⟩
      rw [← ed]
      have md : d ∈ told := by rw [ed]; exact List.getElem_mem hi
      have D := O.dok d md
      have etk : told.take (i + 1) = told.take i ++ [d] := by rw [List.take_add_one, List.getElem?_eq_getElem hi, ← ed]; rfl
      -- the work of that name, its place
      obtain ⟨q, hq, qn, qc, qw⟩ := O.work d md
      have nd2 : ((told.take i).map (·.name) ++ [d.name]).Nodup := by
        have := List.Nodup.sublist (List.Sublist.map (·.name) (List.take_sublist (i + 1) told)) O.dnd
        rw [etk, List.map_append] at this
        exact this
      have nin : d.name ∉ (told.take i).map (·.name) := fun m => (List.nodup_append.mp nd2).2.2 _ m d.name (by simp) rfl
      have hqr : q ∈ rest (told.take i) qs := List.mem_filter.mpr ⟨hq, decide_eq_true (by rw [qn]; exact nin)⟩
      obtain ⟨m, hm, em⟩ := List.mem_iff_getElem.mp hqr
      have hmq : (rest (told.take i) qs)[m]? = some q := by rw [List.getElem?_eq_getElem hm, em]
      obtain ⟨tm, htm, lq, w1, w2⟩ := gE.right hmq
      have Q := O.qok q hq
      have rnd2 : ((rest (told.take i) qs).map (·.1)).Nodup := List.Nodup.sublist (List.Sublist.map _ List.filter_sublist) O.qnd
      have pl := part_len D.nm D.c0 D.c1 D.rs D.r6
      refine ⟨_, rfl, ⟨_, rfl⟩, _, _, rfl, rfl, (by decide), sz_of (by omega), fun p np => ?_⟩
      rw [part_split D.nm D.c0 fun r hr => ⟨(D.rs r hr).1, (D.rs r hr).2.1⟩]
      have p1 := snew (o := .lst (([headT d.name d.cost, rowsT d.rows] : List Str).map V.str)) np
      have pS : (upd H4 p (.lst (([headT d.name d.cost, rowsT d.rows] : List Str).map V.str))) p = _ := upd_same
      refine ⟨_, rfl, aw, rfl, ⟨_, SqL.of (p1 _ _ g2)⟩, fun Dn nD => ?_⟩
      refine lc_it (walk_list (K := K) (a := aw) (xs := ts'.map V.ref)) (fun j H' => j ≤ ts'.length ∧ Same (upd H4 p (.lst (([headT d.name d.cost, rowsT d.rows] : List Str).map V.str))) H' ∧ H' Dn = some (.lst (if m < j then [V.ref tm] else []))) ⟨Nat.zero_le _, snew nD, upd_same⟩ ?_ ?_ ?_
      · rintro j H' _ ⟨_, s1, _⟩
        exact SqL.of (s1 _ _ (p1 _ _ g2))
      · rintro j x H5 H6 hj ⟨_, s1, hL⟩ ⟨rfl, hx⟩
        rw [List.length_map] at hj
        have hx2 : (ts'.map V.ref)[j]? = some x := hx
        rw [List.getElem?_map, List.getElem?_eq_getElem hj] at hx2
        obtain rfl : x = V.ref ts'[j] := (Option.some.inj hx2).symm
        obtain ⟨z, hz, lz, z1, z2⟩ := gE.left (List.getElem?_eq_getElem hj)
        have mz : z ∈ qs := (List.mem_filter.mp (List.mem_of_getElem? hz)).1
        have Z := O.qok z mz
        have sA := p1.trans s1
        have zt := sA _ _ (hide_le _ _ _ _ z1)
        have f1 := name_len Z.nm
        have f2 := num_len Z.c0 (by decide) Z.c1
        have e3 : (" " : Str).length = 1 := by rw [TL.len_tl, tl_sp]; rfl
        have M1 : z.1.length + (" " : Str).length ≤ sizeLine := sz_of (by omega)
        have M2 : (z.1 ++ " " : Str).length + (numS z.2.1).length ≤ sizeLine := sz_of (by rw [len_cat]; omega)
        refine ⟨rfl, _, rfl, ts'[j], _, _, _, rfl, rfl, SqT.of zt, atI_nat (j := 0) rfl, _, _, rfl, rfl, M1, _, rfl, ts'[j], _, _, _, rfl, rfl, SqT.of zt, atI_nat (j := 1) rfl, _, rfl, log_ok Z.c0 Z.c1, _, _, rfl, rfl, M2, _, rfl, p, _, _, _, rfl, rfl, SqL.of (s1 _ _ pS), atI_nat (j := 0) rfl, rfl, _, rfl, ?_⟩
        have hzr : (rest (told.take i) qs)[j]? = some z := hz
        by_cases c : j = m
        · subst c
          have ez : z = q := by
            rw [hmq] at hzr
            exact (Option.some.inj hzr).symm
          have et : ts'[j] = tm := by
            rw [List.getElem?_eq_getElem hj] at htm
            exact Option.some.inj htm
          rw [decide_eq_true (show V.str (z.1 ++ " " ++ Str.ofString (toString z.2.1)) = V.str (headT d.name d.cost) by rw [ez, qn, qc]; rfl)]
          refine ⟨_, rfl, _, hL, ?_, hj, smut s1 nD, ?_⟩
          · rw [if_neg (by omega)]
            exact sz_lt (by show 0 < 100000; decide)
          · rw [if_neg (by omega), upd_same, if_pos (by omega), et]; rfl
        · have nz : headT z.1 z.2.1 ≠ headT d.name d.cost := fun e => by
            have e1 := (head_inj Z.nm D.nm Z.c0 D.c0 e).1
            have a1 : ((rest (told.take i) qs).map (·.1))[j]? = some d.name := by rw [List.getElem?_map, hzr, ← e1]; rfl
            have a2 : ((rest (told.take i) qs).map (·.1))[m]? = some d.name := by rw [List.getElem?_map, hmq, ← qn]; rfl
            exact c (nd_ix rnd2 a1 a2)
          rw [wordF (show z.1 ++ " " ++ Str.ofString (toString z.2.1) ≠ headT d.name d.cost from nz)]
          refine ⟨hj, s1, ?_⟩
          rw [hL]
          by_cases c2 : m < j
          · rw [if_pos c2, if_pos (by omega)]
          · rw [if_neg c2, if_neg (by omega)]
      · rintro H5 ⟨_, s1, hL⟩
        have hml : m < ts'.length := by rw [gE.1]; exact hm
        rw [List.length_map, if_pos hml] at hL
        have sA := p1.trans s1
        have pS5 := s1 _ _ pS
        have tS5 := sA _ _ (hide_le _ _ _ _ w1)
        refine ⟨_, rfl, p, _, rfl, .inl (SqL.of pS5), rfl, _, rfl, ?_⟩
        refine ⟨_, rfl, Dn, _, rfl, .inl (SqL.of hL), rfl, _, rfl, ?_⟩
        -- the rows paid
        refine ⟨_, rfl, p, _, _, _, rfl, rfl, SqL.of pS5, atI_nat (j := 1) rfl, _, rfl, Dn, _, _, _, rfl, rfl, SqL.of hL, atI_nat (j := 0) rfl, tm, _, _, _, rfl, rfl, SqT.of tS5, atI_nat (j := 2) rfl, _, rfl, ?_⟩
        refine ⟨lq, dL, q.2.2, lessF (paidTo (told.take i)) L, d.rows, rfl, sA _ _ (hide_le _ _ _ _ w2), sA _ _ g4, by rw [lessF_keys]; exact O.lnd, O.rne d md, O.rnd d md, D.r6, by unfold lessF; rw [List.length_map]; exact O.l6, fun r hr => ⟨(D.rs r hr).1, O.rpos d md r hr, (D.rs r hr).2.2, qw r hr, by rw [lessF_keys]; exact O.rkey d md r hr⟩, fun z hz => ?_, fun H6 s6 d6 => ?_⟩
        · obtain ⟨z0, hz0, rfl⟩ := List.mem_map.mp hz
          have a1 := O.room z0 hz0
          have a2 := paidTo_take O.rpos (i + 1) z0.1
          rw [etk, paidTo_snoc] at a2
          show paidBy d.rows z0.1 ≤ z0.2 - paidTo (told.take i) z0.1
          omega
        rw [lessF_lessF] at d6
        have eP : (fun n => paidTo (told.take i) n + paidBy d.rows n) = paidTo (told.take (i + 1)) := by
          funext n
          rw [etk, paidTo_snoc]
        rw [eP] at d6
        have dn : Dn ≠ dL := ne_of hL (sA _ _ g4) (by intro z; cases z)
        have tmd : tm ≠ dL := ne_of tS5 (sA _ _ g4) (by intro z; cases z)
        have to6 : ∀ {a : Addr} {o : HO}, H5 a = some o → a ≠ dL → H6 a = some o := fun h n => s6 _ _ (by rw [hide_out (by simp [n])]; exact h)
        have hL6 := to6 hL dn
        have tS6 := to6 tS5 tmd
        have aw6 : H6 aw = some (.lst (ts'.map V.ref)) := to6 (sA _ _ g2) awd
        have hh : Same (hide [aw, dL] H4) (hide [aw, dL] H6) := (hide_same sA).trans (hide_more (fun a ha => by simp at ha ⊢; exact .inr ha) s6)
        refine ⟨_, rfl, Dn, _, _, _, rfl, rfl, SqL.of hL6, atI_nat (j := 0) rfl, tm, _, _, _, rfl, rfl, SqT.of tS6, atI_nat (j := 1) rfl, _, rfl, _, _, rfl, rfl, .inr ⟨by have := O.g1; omega, by have := O.g2; omega⟩, ?_⟩
        refine ⟨rfl, _, rfl, ?_⟩
        rw [decide_eq_true (show V.int (d.rows.map (·.2)).sum = V.int (q.2.1 * G) by rw [O.rsum d md, qc])]
        -- the work leaves the list
        have gE6 := gE.mono fun _ _ _ _ z => z.mono hh
        have hi6 := hide_le [aw, dL] H6
        refine ⟨_, rfl, .inl ⟨rfl, _, SqL.of aw6⟩, _, rfl, Dn, _, _, _, rfl, rfl, SqL.of hL6, atI_nat (j := 0) rfl, ?_⟩
        have wq : WorkAt H6 tm q := ⟨lq, hi6 _ _ (hh _ _ w1), hi6 _ _ (hh _ _ w2)⟩
        have hok2 : ∀ z, z ∈ rest (told.take i) qs → WOk z := fun z hz => O.qok z (List.mem_filter.mp hz).1
        refine ⟨aw, _, .ref tm, workD q, (rest (told.take i) qs).map workD, m, workD q, rfl, rfl, aw6, dp_works aw6 (gE6.mono fun _ _ _ _ z => z.mono hi6), dp_work wq, (sh_works hok2).shaped, (sh_work Q).shaped, by rw [List.getElem?_map, hmq]; rfl, SeqAt.eqv_refl _ (sh_work Q).1, fun m' z' hm' hz' => ?_, ?_⟩
        · rw [List.getElem?_map] at hz'
          cases e : (rest (told.take i) qs)[m']? with
          | none =>
            rw [e] at hz'
            cases hz'
          | some y =>
            rw [e] at hz'
            have ey : workD y = z' := Option.some.inj hz'
            subst ey
            refine eqv_work fun e1 => ?_
            have a1 : ((rest (told.take i) qs).map (·.1))[m']? = some q.1 := by rw [List.getElem?_map, e, ← e1]; rfl
            have a2 : ((rest (told.take i) qs).map (·.1))[m]? = some q.1 := by rw [List.getElem?_map, hmq]; rfl
            have := nd_ix rnd2 a1 a2
            omega
        obtain ⟨H7, e7⟩ : ∃ H7, H7 = upd H6 aw (.lst ((ts'.map V.ref).eraseIdx m)) := ⟨_, rfl⟩
        have dnw : Dn ≠ aw := (ne_of_none (p1 _ _ g2) nD).symm
        have hL7 : H7 Dn = some (.lst [V.ref tm]) := by rw [e7, upd_ne dnw]; exact hL6
        have tmw : tm ≠ aw := ne_of tS6 aw6 (by intro z; cases z)
        have tS7 : H7 tm = some (.tup [.str q.1, .int q.2.1, .ref lq]) := by rw [e7, upd_ne tmw]; exact tS6
        have aw7 : H7 aw = some (.lst ((ts'.eraseIdx m).map V.ref)) := by rw [e7, upd_same, erase_map]
        have d7 : H7 dL = some (.dK (dlI (lessF (paidTo (told.take (i + 1))) L))) := by rw [e7, upd_ne awd.symm]; exact d6
        have h7 : hide [aw, dL] H7 = hide [aw, dL] H6 := by rw [e7, hide_upd (by simp)]
        refine (?_ : ∀ Hx, Hx = H7 → _) _ e7.symm
        clear e7
        rintro Hx rfl
        refine ⟨_, rfl, _, rfl, Dn, _, _, _, rfl, rfl, SqL.of hL7, atI_nat (j := 0) rfl, tm, _, _, _, rfl, rfl, SqT.of tS7, atI_nat (j := 1) rfl, _, _, rfl, rfl, hi, ⟨some (.str (partT d)), some (.ref p), some (.ref Dn), ?_⟩, ?_, ⟨ts'.eraseIdx m, aw7, ?_⟩, d7⟩
        · rw [etk, List.map_append, List.sum_append]
          show _ = [_, _, _, _, some (V.int (((told.take i).map (·.cost)).sum + (d.cost + 0))), _, _, _, _]
          rw [Int.add_zero, ← qc]; rfl
        · rw [h7]
          exact g1.trans hh
        · have er : rest (told.take (i + 1)) qs = (rest (told.take i) qs).eraseIdx m := by
            rw [etk, ← rest_snoc, erase_key (fun q : Str × Int × List Str => q.1) d.name rnd2 hmq qn]
          rw [er]
          exact gE0.erase m
    · rintro σ H3 ⟨_, ⟨v5, v6, v7, rfl⟩, g1, ⟨ts', g2, gE⟩, g4⟩
      rw [List.length_map, List.length_map, List.take_length] at g4 gE ⊢
      exact ⟨_, rfl, k H3 ts' g1 g2 gE g4⟩
end
end Ep
set_option Elab.async false
set_option linter.all false
set_option maxRecDepth 100000
set_option maxHeartbeats 4000000
/-! EpLawG: a closing, as it is told. -/
namespace Ep
open PySem PySem.Spec PyProof.Rows L2
open TL (tl numL)
section
variable {s s' : Ch} {told : List Done} {G G' : Int}
def lefts (s : Ch) (G : Int) : List (Str × Int) := vec s.people.length fun i => (s.nm i, s.pu i * G)
theorem lefts_keys (s : Ch) (G : Int) : (lefts s G).map (·.1) = s.names := by
  unfold lefts
  rw [vec_map]
  unfold Ch.names
  conv => rhs; rw [s.people_vec]
  rw [vec_map]
theorem told_keys (s : Ch) : s.told.map (·.1) = s.works := by
  unfold Ch.told Ch.works
  rw [List.map_map]; rfl
theorem told_of (O : s.Ok) (C : CloseOk s s' told G) (h : told ≠ [] → G' = G) (g1 : 1 ≤ G') (g2 : G' ≤ 2799360000000) : ToldOf told G' s.told (lefts s G') := by
  have dk := close_dok O C
  have hG : ∀ d, d ∈ told → G' = G := fun d hd => h fun e => by rw [e] at hd; cases hd
  have rsum : ∀ d, d ∈ told → (d.rows.map (·.2)).sum = d.cost * G' := fun d hd => by rw [hG d hd]; exact C.rsum d hd
  refine ⟨by rw [lefts_keys]; exact O.pnd, by unfold lefts; rw [vec_length]; exact O.p6, by rw [told_keys]; exact O.wnd, (told_wok O).1, (told_wok O).2, dk.2, dk.1, C.nd, fun d hd => ?_, C.rnd, C.rpos, rsum, fun d hd e => ?_, fun d hd r hr => ?_, fun q hq => ?_, g1, g2⟩
  · obtain ⟨q, hq, en, ec, hr⟩ := C.work d hd
    exact ⟨(q.name, q.cost, s.wanting q), List.mem_map.mpr ⟨q, hq, rfl⟩, en, ec, hr⟩
  · have e1 := C.rsum d hd
    rw [e] at e1
    obtain ⟨q, hq, en, ec, hr⟩ := C.work d hd
    have c := O.cost q hq
    have e2 : (0 : Int) < d.cost * G := Int.mul_pos (by omega) (by have := C.g1; omega)
    have e3 : (0 : Int) = d.cost * G := e1
    omega
  · obtain ⟨q, hq, en, ec, hr2⟩ := C.work d hd
    rw [lefts_keys]
    exact (List.mem_filter.mp (hr2 r hr)).1
  · obtain ⟨i, hi, rfl⟩ := vec_mem.mp hq
    by_cases c : told = []
    · subst c
      show (0 : Int) ≤ s.pu i * G'
      exact Int.mul_nonneg (s.pu_pos O hi) (by omega)
    · have := (C.left i hi).1
      rw [h c]
      show paidTo told (s.nm i) ≤ s.pu i * G
      omega
theorem left_of (O : s.Ok) (C : CloseOk s s' told G) (h : told ≠ [] → G' = G) (h1 : told = [] → G' = 1) {i : Nat} (hi : i < s.people.length) : s'.pu i = (s.pu i * G' - paidTo told (s.nm i)) / G' := by
  have e := (C.left i hi).2
  by_cases c : told = []
  · rw [h1 c, e, c]
    have g := C.g1
    show (s.pu i * G - 0) / G = (s.pu i * 1 - 0) / 1
    rw [Int.sub_zero, Int.sub_zero, Int.mul_one, Int.ediv_one, Int.mul_ediv_cancel _ (by omega)]
  · rw [h c]
    exact e
theorem told_rest (C : CloseOk s s' told G) : rest told s.told = s'.told := by
  unfold rest Ch.told
  rw [C.plans, List.filter_map]
  have ew : ∀ q, s'.wanting q = s.wanting q := fun q => by unfold Ch.wanting; rw [C.names]
  simp only [ew]
  rfl
theorem people_len (C : CloseOk s s' told G) : s'.people.length = s.people.length := by
  have := congrArg List.length C.names
  unfold Ch.names at this
  rw [List.length_map, List.length_map] at this
  exact this
theorem nm_eq (C : CloseOk s s' told G) (i : Nat) (hi : i < s.people.length) : s'.nm i = s.nm i := by
  have a := s'.names_get (by rw [people_len C]; exact hi)
  rw [C.names, s.names_get hi] at a
  exact (Option.some.inj a).symm
theorem askL_drop (s : Ch) : (askL s).drop 3 = vec s.people.length s.pu := by
  show s.people.map (·.2) = _
  conv => lhs; rw [s.people_vec]
  rw [vec_map]
end
theorem atI_last2 {α : Type} (xs : List α) (u v : α) : atI (xs ++ [u, v]) (-2) = some u := by
  have hl : (xs ++ [u, v]).length = xs.length + 2 := by simp
  have e : ixN (xs ++ [u, v]).length (-2) = some xs.length := by
    unfold ixN
    rw [hl, if_neg (by decide), if_pos (by omega)]
    exact congrArg some (by omega)
  unfold atI
  rw [e]
  simp
theorem cut_last2 (xs : List V) (u v : V) : cutV (xs ++ [u, v]) none (some (-2)) = xs := by
  unfold cutV
  have hl : (xs ++ [u, v]).length = xs.length + 2 := by simp
  have e : HT.sIx (xs ++ [u, v]).length (xs ++ [u, v]).length (some (-2)) = xs.length := by
    unfold HT.sIx
    rw [hl]
    show (if (-2 : Int) < 0 then ((-2 : Int) + ((xs.length + 2 : Nat) : Int)).toNat else _) = _
    rw [if_pos (by decide)]
    omega
  rw [e, HT.sIx_none, List.drop_zero, Nat.sub_zero]
  simp
theorem closeT_ne {told : List Done} {G : Int} (h : told ≠ []) : closeT told G ≠ "none" := fun e => by
  unfold closeT at e
  rw [if_neg h] at e
  have e2 : 32 ∈ tl (partsT told ++ " of " ++ numS G) := by
    rw [TL.tl_append, TL.tl_append, tl_of]
    simp
  rw [e, tl_none] at e2
  exact absurd e2 (by decide)
def spClosed (K : PySem.W.Frag) : Sp := fun vs H Q _ => ∃ (H0 : Hp) (d a : Addr) (s : Ch), vs = [.ref d, .ref a] ∧ DeskAt K H0 H d s ∧ H0 a = some (.lst (s.names.map V.str)) ∧ s.Ok ∧ s.gifts ≤ 1000000000000 ∧
  ∀ H' s' told G, CloseOk s s' told G → DeskAt K H0 H' d s' → Q (.bl true) H'
end Ep
set_option Elab.async false
set_option linter.all false
set_option maxRecDepth 100000
set_option maxHeartbeats 8000000
/-! EpLawH: a closing walked. -/
namespace Ep
open PySem PySem.Spec PyProof.Rows L2
open TL (tl numL)
theorem joinL_len_eq (S : List Nat) : ∀ {l : List (List Nat)}, l ≠ [] → (l.map (·.length)).sum + l.length * S.length = (TL.joinL S l).length + S.length
  | [], h => absurd rfl h
  | [p], _ => by
    show p.length + 0 + (0 + 1) * S.length = p.length + S.length
    omega
  | p :: q :: r, _ => by
    have ih := joinL_len_eq S (l := q :: r) (by simp)
    show _ = (p ++ (S ++ TL.joinL S (q :: r))).length + _
    rw [List.length_append, List.length_append, List.map_cons, List.sum_cons, List.length_cons (a := p), Nat.add_mul, Nat.one_mul]
    omega
theorem split_room (x : Str) (h : x.length ≤ 100000) : ((Txt.split x " ").map (·.length)).sum + (Txt.split x " ").length * (" " : Str).length ≤ 16777216 := by
  have e := joinL_len_eq (tl (" " : Str)) (l := (Txt.split x " ").map tl) (fun e => by
    have := split_len x
    rw [List.map_eq_nil_iff.mp e] at this
    simp at this)
  rw [← tl_joinS, join_split, List.length_map, List.map_map, ← TL.len_tl, ← TL.len_tl] at e
  have e2 : ((Txt.split x " ").map ((fun l => l.length) ∘ tl)) = (Txt.split x " ").map (·.length) := List.map_congr_left fun z _ => (TL.len_tl z).symm
  rw [e2] at e
  have e3 : (" " : Str).length = 1 := by rw [TL.len_tl, tl_sp]; rfl
  omega
theorem row_works : Cmd.works.row = "works" := row_one _
theorem row_close : Cmd.close.row = "close" := row_one _
section
variable {P : Program} {w : World} {K : PySem.W.Frag} {mg : Str → Option Value} {base : Heap}
/-- works told, read back: the list stands in the base -/
theorem works_turn {H0 H H1 H2 : Hp} {d a : Addr} {s : Ch} {ts : List Addr} {qs : List (Str × Int × List Str)} (D : DeskAt K H0 H1 d s) (e : Same H1 H2) (na : H1 a = none) (ha : H2 a = some (.lst (ts.map V.ref))) (hE : Each (WorkAt (newOf H1 (hide [a] H2))) ts qs) :
    ∃ Hb, Same H0 Hb ∧ DeskAt K Hb H2 d s ∧ Hb a = some (.lst (ts.map V.ref)) ∧ H0 a = none ∧ Each (WorkAt (hide [a] Hb)) ts qs := by
  obtain ⟨Hb, b1, b2, b3⟩ := D.grow e
  refine ⟨Hb, b1, b2, b3 _ _ na ha, D.base.free na, hE.mono fun t q _ _ z => z.mono fun x o h => ?_⟩
  obtain ⟨n, h2⟩ := newOf_none h
  obtain ⟨n2, h3⟩ := hide_some h2
  rw [hide_out n2]
  exact b3 _ _ n h3
abbrev NClosed : List Str := ["desk", "people", "works", "ahead", "answer", "grains", "parts", "words", "left", "k", "name", "spent", "behind"]
theorem sc_closed : FnScope NClosed ["desk", "people"] (defScope s_law_closed) := ⟨rfl, rfl, rfl, by decide +kernel, rfl, by decide +kernel, by decide +kernel⟩
theorem ok_closed (T : Tx K mg) : Def P w K mg base CX0 12 (He.fAd K d_law_closed.at_) ["desk", "people"] (spClosed K) := by
  obtain ⟨fd, F⟩ := T.f_law_closed
  refine ⟨fd, F.ok sc_closed (fun vs H Q E h => ?_) (fun cdv A outer s H vs Q E hr h => ?_), F.bindsN (fun _ _ _ _ _ _ us hl => match us, hl with | [_, _], _ => rfl), F.kp⟩
  · obtain ⟨_, _, _, _, rfl, _⟩ := h
    rfl
  · obtain ⟨H0, d, ap, s, rfl, D0, hp, O, hg, k⟩ := h
    have hu := hu_of hr
    have hu64 : _ + 64 < cLine := Nat.lt_trans (Nat.lt_succ_self _) (hu65 hr)
    refine ⟨_, PSs.nox (pss_cons (ps_set (i := 2) sc_closed.nd rfl (.inl rfl) (pe_f (ok_lworks T) hr pass0 T.g_law_works (pa_cons (pe_m (E := E0) (ok_say T) hr passL T.cl_Desk T.m_say (pv 0) (pa_cons pe_str pa_nil)) pa_nil)))
      (pss_cons (ps_set (i := 3) sc_closed.nd rfl (.inl rfl) (pe_f (ok_lasked T) hr pass0 T.g_law_asked (pa_cons (pv 0) (pa_cons (pv 1) pa_nil))))
      (pss_cons (ps_set (i := 4) sc_closed.nd rfl (.inl rfl) (pe_m (E := E0) (ok_say T) hr passL T.cl_Desk T.m_say (pv 0) (pa_cons pe_str pa_nil)))
      (pss_cons (ps_if (PW.pt (pw_or (pt_cmpR op_isN (pv 2) pe_non (nomark _)) (pw_or (pt_cmpR op_in_seq pe_non (pv 3) (by rfl)) (pw_or1 (pt_not (pt_val (pe_callB call_isi (by rfl) T.z_isinstance (by decide +kernel) (pa_cons (pv 4) (pa_cons (pe_bltn (v := .ty "str") (by rfl) T.z_str (by decide +kernel) rfl) pa_nil))))))))) (pss_one (ps_ret pe_bl)) pss_nil)
      (pss_cons (ps_set (i := 5) sc_closed.nd rfl (.inr rfl) pe_int)
      (pss_cons (ps_set (i := 6) sc_closed.nd rfl (.inl rfl) (pe_lst pa_nil))
      (C8.pss_cut (ps_if (pt_cmpR op_ne (pv 4) pe_str (nomark _)) (pss_cons (ps_set (i := 7) sc_closed.nd rfl (.inl rfl) (pe_split (pv 4) pe_str))
          (pss_cons (ps_set (i := 5) sc_closed.nd rfl (.inr rfl) (pe_f (ok_number T) hr pass0 T.g_law_number (pa_cons (pe_ix ix_list (pv 7) (pe_un un_neg pe_int) (fun _ _ => rfl)) pa_nil)))
          (pss_cons (ps_if (PW.pt (pw_or (pt_cmpR op_lt (pe_callB call_len_seq (by rfl) T.z_len PySem.boot_len (pa_cons (pv 7) pa_nil)) pe_int (nomark _)) (pw_or (pt_cmpR op_ne (pe_ix ix_list (pv 7) (pe_un un_neg pe_int) (fun _ _ => rfl)) pe_str (nomark _)) (pw_or (pt_cmpR op_isN (pv 5) pe_non (nomark _)) (pw_or1 (pt_cmpR op_lt (pv 5) pe_int (nomark _))))))) (pss_one (ps_ret pe_bl)) pss_nil)
          (pss_one (ps_set (i := 6) sc_closed.nd rfl (.inl rfl) (pe_split (pe_join pe_str (pe_slice sl_list (pv 7) po_none (po_some (pe_un un_neg pe_int)))) pe_str)))))) pss_nil)
      (pss_cons (ps_set (i := 8) sc_closed.nd rfl (.inr rfl) pe_dnewK)
      (pss_cons (ps_for PassesOwn.never rfl (pi_enum (by rfl) T.z_enumerate (pa_cons (pv 1) pa_nil)) (pg_tup rfl (pgs_cons (pg_name (i := 9) sc_closed.nd rfl (.inl rfl)) (pgs_cons (pg_name (i := 10) sc_closed.nd rfl (.inl rfl)) pgs_nil)))
        (pss_one (ps_dput hu (pv 8) (pv 10) (pe_op op_mul (pe_ix ix_list (pv 3) (pe_op op_add pe_int (pv 9)) (fun _ _ => rfl)) (pv 5)) rfl)))
      (pss_cons (ps_set (i := 11) sc_closed.nd rfl (.inl rfl) (pe_f (ok_parts T) hr pass0 T.g_law_parts_right (pa_cons (pv 6) (pa_cons (pv 5) (pa_cons (pv 2) (pa_cons (pv 8) pa_nil))))))
      (pss_cons (ps_set (i := 12) sc_closed.nd rfl (.inl rfl) (pe_f (ok_lasked T) hr pass0 T.g_law_asked (pa_cons (pv 0) (pa_cons (pv 1) pa_nil))))
      (pss_cons (ps_if (PW.pt (pw_or (pt_cmpR op_isN (pv 11) pe_non (nomark _)) (pw_or (pt_cmpR op_ne (pe_ix ix_list (pv 12) pe_int (fun _ _ => rfl)) (pe_ix ix_list (pv 3) pe_int (fun _ _ => rfl)) (nomark _)) (pw_or1 (pt_cmpR op_ne (pe_ix ix_list (pv 12) pe_int (fun _ _ => rfl)) (pe_op op_add (pe_ix ix_list (pv 3) pe_int (fun _ _ => rfl)) (pv 11)) (nomark _)))))) (pss_one (ps_ret pe_bl)) pss_nil)
      (pss_cons (ps_if (PW.pt (pw_or (pt_cmpR (op_neD hu64) (pe_slice sl_list (pv 12) (po_some pe_int) po_none)
          (pe_lc (own := [("name", 10)]) (g := gName 10) (tt := tYes) (te := tOp (rI CDivW fun i j => .int (i / j)) (tDGet (tVar 8) (tVar 10)) (tVar 5)) rfl sc_closed.nd (pi_list (pv 1)) (blkOk_by (N := NClosed) (sc := defScope s_law_closed) (by decide +kernel))
            (fun _ _ _ _ _ => pg_name (i := 10) sc_closed.nd rfl (Or.inl rfl)) (fun _ _ _ _ _ => pts_nil) (fun _ _ _ _ _ => pe_op op_fdivW (pe_dget hu (pv 8) (pv 10) (fun _ _ => rfl)) (pv 5))) (nomark _))
        (pw_or1 (pt_cmpR (op_neD hu64) (pe_f (ok_lworks T) hr pass0 T.g_law_works (pa_cons (pe_m (E := E0) (ok_say T) hr passL T.cl_Desk T.m_say (pv 0) (pa_cons pe_str pa_nil)) pa_nil)) (pv 2) (nomark _))))) (pss_one (ps_ret pe_bl)) pss_nil)
      (pss_one (ps_ret (pe_f (ok_dear T) hr pass0 T.g_law_too_dear (pa_cons (pv 2) (pa_cons (pv 1) (pa_cons (pe_slice sl_list (pv 12) (po_some pe_int) po_none) pa_nil))))))))))))))))))), ?_⟩
    obtain ⟨dx, cp, od⟩ := D0.obj
    -- works
    refine ⟨_, rfl, d, dx, _, rfl, od, rfl, ?_⟩
    rw [← row_works]
    refine ⟨H0, d, s, .works, rfl, D0, O, hg, trivial, .inl ⟨trivial, fun x s1 H1 q D1 => ?_⟩⟩
    obtain ⟨ex, es⟩ := q
    subst ex
    rw [es] at D1
    refine ⟨s.told, rfl, (told_wok O).1, (told_wok O).2, fun aw H2 ts e2 naw haw hE => ?_⟩
    obtain ⟨Hb1, b1, D2, baw, naw0, bE⟩ := works_turn (H := H) D1 e2 naw haw hE
    -- ahead
    refine ⟨_, rfl, _, rfl, Hb1, d, ap, s, rfl, D2, b1 _ _ hp, O, hg, fun la Hb2 H3 b2 D3 nla hla => ?_⟩
    -- close
    obtain ⟨dx3, cp3, od3⟩ := D3.obj
    refine ⟨_, rfl, d, dx3, _, rfl, od3, rfl, ?_⟩
    rw [← row_close]
    refine ⟨Hb2, d, s, .close, rfl, D3, O, hg, trivial, .inl ⟨trivial, fun x s' H4 q D4 => ?_⟩⟩
    obtain ⟨told, G, C, ex⟩ := q
    subst ex
    have hA4 := D4.base _ _ hla
    refine ⟨_, rfl, rfl, _, rfl, ?_⟩
    rw [decide_eq_false (show ¬ V.ref aw = V.non by intro z; cases z)]
    refine ⟨_, rfl, la, _, rfl, .inl (SqL.of hA4), rfl, ?_, _, rfl, ?_⟩
    · rw [List.all_map]
      exact List.all_eq_true.mpr fun _ _ => rfl
    have inN : inV .non ((askL s).map V.int) = false := by
      unfold inV
      rw [List.any_map]
      exact List.any_eq_false.mpr fun _ _ => by intro z; cases z
    show (if inV .non ((askL s).map V.int) = true then _ else _)
    rw [inN]
    refine ⟨_, rfl, V.str (closeT told G), V.ty "str", .type "str", .type "str", true, rfl, .ty "str", .base (.str _), kit_ty (by decide +kernel), _, rfl, ?_⟩
    refine ⟨Nat.zero_le _, fun lp nlp => ?_⟩
    -- the text read: grains and parts
    refine ⟨fun σ Hx => ∃ (Hb : Hp) (lq : Addr) (G' : Int) (v7 : Option V), σ = [some (.ref d), some (.ref ap), some (.ref aw), some (.ref la), some (.str (closeT told G)), some (.int G'), some (.ref lq), v7, none, none, none, none, none] ∧
      Same Hb2 Hb ∧ DeskAt K Hb Hx d s' ∧ Hb lq = some (.lst ((told.map partT).map V.str)) ∧ Hb2 lq = none ∧ (told ≠ [] → G' = G) ∧ (told = [] → G' = 1) ∧ 1 ≤ G' ∧ G' ≤ 2799360000000, ?_, ?_⟩
    · obtain ⟨Hc, c1, c2, c3⟩ := D4.grow (snew (o := .lst []) nlp)
      have nlp2 := D4.base.free nlp
      have g1 := C.g1
      have g2 := C.g2
      refine ⟨_, rfl, rfl, _, rfl, ?_⟩
      by_cases c0 : told = []
      · have e : V.str (closeT told G) = V.str "none" := by unfold closeT; rw [if_pos c0]
        rw [decide_eq_true e]
        exact ⟨Hc, lp, 1, none, rfl, c1, c2, by rw [c3 _ _ nlp upd_same, c0]; rfl, nlp2, fun q => absurd c0 q, fun _ => rfl, by decide, by decide⟩
      rw [wordF (closeT_ne c0)]
      have dk := close_dok O C
      have TO := told_of (G' := G) O C (fun _ => rfl) g1 g2
      have ect : closeT told G = partsT told ++ " of " ++ numS G := by unfold closeT; rw [if_neg c0]
      have hpl := parts_len (told := told) (fun d hd => part_len (dk.1 d hd).nm (dk.1 d hd).c0 (dk.1 d hd).c1 (dk.1 d hd).rs (dk.1 d hd).r6) dk.2
      have G30 : G < 10 ^ 30 := by
        have b30 : (10 : Int) ^ 30 = 1000000000000000000000000000000 := by decide
        omega
      have G0 : 0 ≤ G := by omega
      have hGl := num_len G0 (by decide) G30
      have e3o : (" of " : Str).length = 4 := by rw [TL.len_tl, tl_of]; rfl
      have hcl : (closeT told G).length + 2 ≤ 100000 := by rw [ect, len_cat, len_cat]; omega
      refine ⟨_, rfl, ⟨_, rfl⟩, _, _, rfl, rfl, (by decide), sz_of hcl, fun lw nlw => ?_⟩
      have esp : Txt.split (closeT told G) " " = Txt.split (partsT told) " " ++ ([("of" : Str), numS G] : List Str) := by
        rw [ect]
        exact split_of (num_no G0 (by decide))
      rw [esp]
      have ems : (Txt.split (partsT told) " " ++ ([("of" : Str), numS G] : List Str)).map V.str = (Txt.split (partsT told) " ").map V.str ++ [V.str "of", V.str (numS G)] := by rw [List.map_append]; rfl
      rw [ems]
      have sw := snew (o := .lst ((Txt.split (partsT told) " ").map V.str ++ [V.str "of", V.str (numS G)])) nlw
      have lwS : (upd (upd H4 lp (.lst [])) lw (.lst ((Txt.split (partsT told) " ").map V.str ++ [V.str "of", V.str (numS G)]))) lw = _ := upd_same
      have l1 : atI ((Txt.split (partsT told) " ").map V.str ++ [V.str "of", V.str (numS G)]) (-1) = some (V.str (numS G)) := by
        rw [show (Txt.split (partsT told) " ").map V.str ++ [V.str "of", V.str (numS G)] = ((Txt.split (partsT told) " ").map V.str ++ [V.str "of"]) ++ [V.str (numS G)] by simp]
        exact atI_last _ _
      refine ⟨_, rfl, 1, rfl, lw, _, _, _, rfl, rfl, SqL.of lwS, l1, G, rfl, G0, G30, fun H5 s5 => ?_⟩
      have lw5 := s5 _ _ lwS
      have w4 := parts_words c0 TO.rne
      refine ⟨_, rfl, lw, _, rfl, .inl (SqL.of lw5), _, _, rfl, rfl, _, rfl, ?_⟩
      rw [decide_eq_false (by rw [List.length_append, List.length_map]; show ¬ (((_ + 2 : Nat) : Int) < 6); omega)]
      refine ⟨_, rfl, 2, rfl, lw, _, _, _, rfl, rfl, SqL.of lw5, atI_last2 _ _ _, rfl, _, rfl, ?_⟩
      rw [decide_eq_true rfl]
      refine ⟨_, rfl, rfl, _, rfl, ?_⟩
      rw [decide_eq_false (show ¬ V.int G = V.non by intro z; cases z)]
      refine ⟨_, rfl, _, _, rfl, rfl, _, rfl, ?_⟩
      rw [decide_eq_false (by omega)]
      refine ⟨⟨_, rfl⟩, _, rfl, 2, rfl, -2, rfl, lw, _, rfl, SqL.of lw5, fun lj nlj => ?_⟩
      rw [cut_last2]
      refine ⟨" ", lj, Txt.split (partsT told) " ", rfl, rfl, .inl (SqL.of upd_same), split_room _ (by omega), ⟨_, rfl⟩, _, _, rfl, rfl, (by decide), ?_, fun lq nlq => ?_⟩
      · rw [join_split]
        exact sz_of (by omega)
      rw [join_split, parts_split c0 fun d hd => ⟨(dk.1 d hd).nm, (dk.1 d hd).c0, fun r hr => ⟨((dk.1 d hd).rs r hr).1, ((dk.1 d hd).rs r hr).2.1⟩⟩]
      have sj := snew (o := .lst ((Txt.split (partsT told) " ").map V.str)) nlj
      have sq := snew (o := .lst ((told.map partT).map V.str)) nlq
      have s0 := snew (o := .lst []) nlp
      have sPre := s0.trans (sw.trans (s5.trans sj))
      have nlq4 := sPre.free nlq
      obtain ⟨He, f1, f2, f3⟩ := D4.grow (sPre.trans sq)
      exact ⟨He, lq, G, some (.ref lw), rfl, f1, f2, f3 _ _ nlq4 upd_same, D4.base.free nlq4, fun _ => rfl, fun q => absurd q c0, g1, g2⟩
    · rintro σ Hx ⟨Hb, lq, G', v7, rfl, c1, c2, c3, c4, c5, c6, c7, c8⟩
      have hw := c2.base _ _ (c1 _ _ (b2 _ _ baw))
      have hpx := c2.base _ _ (c1 _ _ (b2 _ _ (b1 _ _ hp)))
      have hlx := c2.base _ _ (c1 _ _ hla)
      have hqx := c2.base _ _ c3
      have TO := told_of O C c5 c7 c8
      have hp6 := O.p6
      -- left
      intro dL ndL
      have sd := snew (o := .dK []) ndL
      refine ⟨_, rfl, ap, _, rfl, SqL.of (sd _ _ hpx), ?_⟩
      refine for_it (walk_enum (K := K) (a := ap) (xs := s.names.map V.str)) (fun i σ H' => i ≤ s.people.length ∧ (∃ v9 v10, σ = [some (.ref d), some (.ref ap), some (.ref aw), some (.ref la), some (.str (closeT told G)), some (.int G'), some (.ref lq), v7, some (.ref dL), v9, v10, none, none]) ∧
        Same Hx H' ∧ H' dL = some (.dK (dlI (vec i fun j => (s.nm j, s.pu j * G'))))) ⟨Nat.zero_le _, ⟨none, none, rfl⟩, sd, upd_same⟩ ?_ ?_ ?_
      · rintro i σ H' _ ⟨_, _, e, _⟩
        exact SqL.of (e _ _ hpx)
      · rintro i x σ Ha Hc hi ⟨_, ⟨v9, v10, rfl⟩, e1, e2⟩ ⟨t, u, y, rfl, ht, rfl, hu1, hy⟩
        rw [List.length_map, s.nlen] at hi
        cases hu1
        have hy2 : (s.names.map V.str)[i]? = some y := hy
        rw [List.getElem?_map, s.names_get hi] at hy2
        obtain rfl : y = V.str (s.nm i) := (Option.some.inj hy2).symm
        have st := snew (o := .tup [.int (i : Nat), .str (s.nm i)]) ht
        have la9 : atI ((askL s).map V.int) (3 + ((i : Nat) : Int)) = some (V.int (s.pu i)) := by
          rw [show (3 : Int) + ((i : Nat) : Int) = ((3 + i : Nat) : Int) by omega]
          refine atI_nat ?_
          rw [List.getElem?_map]
          have e3 : (askL s)[3 + i]? = some (s.pu i) := by
            have e4 : ((askL s).drop 3)[i]? = some (s.pu i) := by rw [askL_drop]; exact vec_get hi
            rw [List.getElem?_drop] at e4
            exact e4
          rw [e3]; rfl
        refine ⟨t, _, rfl, SqT.of upd_same, rfl, _, _, rfl, _, _, rfl, rfl, _, rfl, _, rfl, _, _, rfl, rfl, la, _, _, _, rfl, rfl, SqL.of (st _ _ (e1 _ _ hlx)), la9, _, rfl, _, _, rfl, rfl, .inr ⟨by omega, by omega⟩, ?_⟩
        refine ⟨_, rfl, _, rfl, dL, _, rfl, DPut.k (k := Sum.inr (s.nm i)) (st _ _ e2) (sz_lt (by rw [dl_length, vec_length]; omega)), ?_⟩
        have nk : s.nm i ∉ (vec i fun j => (s.nm j, s.pu j * G')).map (·.1) := fun m => by
          rw [vec_map] at m
          obtain ⟨j, hj, ej⟩ := vec_mem.mp m
          have := s.nm_inj O.pnd (by omega) hi ej
          omega
        rw [putK_dl_new (kf := fun q : Str × Int => q.1) (vf := fun q => V.int q.2) _ nk]
        refine ⟨hi, ⟨_, _, rfl⟩, smut (e1.trans st) ndL, ?_⟩
        rw [upd_same, vec_succ]
        unfold dlI
        rw [dl_append]; rfl
      · rintro σ H7 ⟨_, ⟨v9, v10, rfl⟩, e1, e2⟩
        rw [List.length_map, s.nlen] at e2
        have e2' : H7 dL = some (.dK (dlI (lefts s G'))) := e2
        have awd : aw ≠ dL := ne_of_none hw ndL
        have lqw : lq ≠ aw := fun e => by rw [e, b2 _ _ baw] at c4; cases c4
        have toX : ∀ {a : Addr} {o : HO}, Hb1 a = some o → Hx a = some o := fun h => c2.base _ _ (c1 _ _ (b2 _ _ h))
        have hB : Same (hide [aw] Hb1) (hide [aw, dL] H7) := fun a o h => by
          obtain ⟨n, h1⟩ := hide_some h
          have h2 := toX h1
          have n2 : a ≠ dL := ne_of_none h2 ndL
          rw [hide_out (by simp at n; simp [n, n2])]
          exact e1 _ _ h2
        refine ⟨_, rfl, _, rfl, _, rfl, _, rfl, ?_⟩
        refine ⟨lq, aw, dL, told, G', s.told, ts, lefts s G', hide [aw] Hb1, rfl, e1 _ _ hqx, lqw, e1 _ _ hw, hB, bE, e2', TO, fun H8 ts' m1 m2 m3 m4 => ?_⟩
        rw [told_rest C] at m3
        -- the base behind it
        obtain ⟨Hq, eHq⟩ : ∃ Hq, Hq = upd (upd Hb aw (.lst (ts'.map V.ref))) dL (.dK (dlI (lessF (paidTo told) (lefts s G')))) := ⟨_, rfl⟩
        have bdL : Hb dL = none := c2.base.free ndL
        have baw2 : Hb aw = some (.lst (ts.map V.ref)) := c1 _ _ (b2 _ _ baw)
        have toq : ∀ {a : Addr} {o : HO}, Hb a = some o → a ≠ aw → Hq a = some o := fun h n => by
          rw [eHq, upd_ne (ne_of_none h bdL), upd_ne n]
          exact h
        have D8 : DeskAt K Hq H8 d s' := by
          refine c2.frame (fun a o h1 h2 => ?_) (fun a o h => ?_) fun a o h1 h2 => ?_
          · have n1 : a ≠ aw := fun e => by rw [e, baw2] at h1; cases h1
            have n2 : a ≠ dL := ne_of_none h2 ndL
            exact hide_le _ _ _ _ (m1 _ _ (by rw [hide_out (by simp [n1, n2])]; exact e1 _ _ h2))
          · by_cases n2 : a = dL
            · rw [n2, eHq, upd_same] at h
              rw [n2, ← h]
              exact m4
            by_cases n1 : a = aw
            · rw [n1, eHq, upd_ne awd, upd_same] at h
              rw [n1, ← h]
              exact m2
            rw [eHq, upd_ne n2, upd_ne n1] at h
            exact hide_le _ _ _ _ (m1 _ _ (by rw [hide_out (by simp [n1, n2])]; exact e1 _ _ (c2.base _ _ h)))
          · have n1 : a ≠ aw := fun e => by rw [e, baw2] at h1; cases h1
            rw [eHq, upd_ne (ne_of_none h2 ndL), upd_ne n1]
            exact h1
        have apw : ap ≠ aw := fun e => by rw [e, naw0] at hp; cases hp
        have hpq : Hq ap = some (.lst (s'.names.map V.str)) := by
          rw [C.names]
          exact toq (c1 _ _ (b2 _ _ (b1 _ _ hp))) apw
        have law_ : la ≠ aw := fun e => by rw [e, baw] at nla; cases nla
        have hlq : Hq la = some (.lst ((askL s).map V.int)) := toq (c1 _ _ hla) law_
        have hwq : Hq aw = some (.lst (ts'.map V.ref)) := by rw [eHq, upd_ne awd, upd_same]
        have hdq : Hq dL = some (.dK (dlI (lessF (paidTo told) (lefts s G')))) := by rw [eHq, upd_same]
        have hEq : Each (WorkAt Hq) ts' s'.told := m3.mono fun _ _ _ _ z => z.mono fun a o h => by
          obtain ⟨n, h1⟩ := hide_some h
          exact toq (c1 _ _ (b2 _ _ h1)) (by simpa using n)
        have H0q : Same H0 Hq := fun a o h => toq (c1 _ _ (b2 _ _ (b1 _ _ h))) fun e => by rw [e, naw0] at h; cases h
        clear eHq
        have O' := C.ok
        have hg' : s'.gifts ≤ 1000000000000 := by rw [C.gifts]; exact hg
        -- behind
        refine ⟨_, rfl, _, rfl, Hq, d, ap, s', rfl, D8, hpq, O', hg', fun lb Hb3 H9 q1 D9 nlb hlb => ?_⟩
        have B9 := D9.base
        have hlb9 := B9 _ _ hlb
        have hla9 := B9 _ _ (q1 _ _ hlq)
        refine ⟨_, rfl, rfl, _, rfl, ?_⟩
        rw [decide_eq_false (show ¬ V.int (told.map (·.cost)).sum = V.non by intro z; cases z)]
        refine ⟨_, rfl, lb, _, _, _, rfl, rfl, SqL.of hlb9, atI_nat (j := 0) rfl, _, rfl, la, _, _, _, rfl, rfl, SqL.of hla9, atI_nat (j := 0) rfl, rfl, _, rfl, ?_⟩
        rw [decide_eq_true (show V.int s'.gifts = V.int s.gifts by rw [C.gifts])]
        refine ⟨_, rfl, lb, _, _, _, rfl, rfl, SqL.of hlb9, atI_nat (j := 1) rfl, _, rfl, la, _, _, _, rfl, rfl, SqL.of hla9, atI_nat (j := 1) rfl, _, rfl, _, _, rfl, rfl, rfl, _, rfl, ?_⟩
        rw [decide_eq_true (show V.int s'.outlay = V.int (s.outlay + (told.map (·.cost)).sum) by rw [C.outlay])]
        -- the purses behind
        have e3b : cutV ((askL s').map V.int) (some 3) none = vec s.people.length fun i => V.int (s'.pu i) := by
          unfold cutV
          have e1 : HT.sIx ((askL s').map V.int).length 0 (some ((3 : Nat) : Int)) = 3 := sIx_at (by rw [List.length_map]; unfold askL; rw [List.length_append]; show 3 ≤ 3 + _; omega)
          rw [show (3 : Int) = ((3 : Nat) : Int) from rfl, e1, HT.sIx_none, ← List.map_drop, askL_drop, people_len C, vec_map, List.take_of_length_le (by rw [vec_length, List.length_map]; unfold askL; rw [List.length_append, List.length_map, people_len C]; show _ ≤ 3 + _ - 3; omega)]
        refine ⟨_, rfl, 3, rfl, lb, _, rfl, SqL.of hlb9, fun lc nlc => ?_⟩
        rw [e3b]
        have sc := snew (o := .lst (vec s.people.length fun i => V.int (s'.pu i))) nlc
        have lcS : (upd H9 lc (.lst (vec s.people.length fun i => V.int (s'.pu i)))) lc = _ := upd_same
        refine ⟨_, rfl, ap, rfl, ⟨_, SqL.of (sc _ _ (B9 _ _ (q1 _ _ hpq)))⟩, fun D nD => ?_⟩
        have TO2 := told_of O C c5 c7 c8
        refine lc_it (walk_list (K := K) (a := ap) (xs := s'.names.map V.str)) (fun i H' => i ≤ s.people.length ∧ Same (upd H9 lc (.lst (vec s.people.length fun i => V.int (s'.pu i)))) H' ∧ H' D = some (.lst (vec i fun j => V.int (s'.pu j)))) ⟨Nat.zero_le _, snew nD, upd_same⟩ ?_ ?_ ?_
        · rintro i H' _ ⟨_, z1, _⟩
          exact SqL.of (z1 _ _ (sc _ _ (B9 _ _ (q1 _ _ hpq))))
        · rintro i x H10 H11 hi ⟨_, z1, hL⟩ ⟨rfl, hx⟩
          rw [List.length_map, s'.nlen, people_len C] at hi
          have hx2 : (s'.names.map V.str)[i]? = some x := hx
          rw [C.names, List.getElem?_map, s.names_get hi] at hx2
          obtain rfl : x = V.str (s.nm i) := (Option.some.inj hx2).symm
          have mi : (s.nm i, s.pu i * G') ∈ lefts s G' := vec_mem.mpr ⟨i, hi, rfl⟩
          have mq : (s.nm i, s.pu i * G' - paidTo told (s.nm i)) ∈ lessF (paidTo told) (lefts s G') := List.mem_map.mpr ⟨_, mi, rfl⟩
          have hv := valV_dl_mem (kf := fun q : Str × Int => q.1) (vf := fun q => V.int q.2) (by rw [lessF_keys]; exact TO2.lnd) mq
          have zz := sc.trans z1
          have hg1 : DGet H11 dL (.str (s.nm i)) (some (V.int (s.pu i * G' - paidTo told (s.nm i)))) := by
            rw [← hv]
            exact DGet.k (k := Sum.inr (s.nm i)) (zz _ _ (B9 _ _ (q1 _ _ hdq)))
          refine ⟨rfl, _, rfl, _, rfl, dL, _, rfl, hg1, _, rfl, _, _, rfl, rfl, wide_div (b := 50) (by omega) (by omega) (by decide) (by decide), ?_⟩
          refine ⟨_, hL, sz_lt (by rw [vec_length]; omega), hi, smut z1 nD, ?_⟩
          rw [upd_same, vec_succ]
          dsimp only
          rw [left_of O C c5 c6 hi]
        · rintro H10 ⟨_, z1, hL⟩
          rw [List.length_map, s'.nlen, people_len C] at hL
          have zz := sc.trans z1
          have lc10 := z1 _ _ lcS
          have e1i : (vec s.people.length fun i => V.int (s'.pu i)) = (vec s.people.length s'.pu).map V.int := by rw [vec_map]
          rw [e1i] at hL lc10
          refine ⟨.list ((vec s.people.length s'.pu).map PyData.int), .list ((vec s.people.length s'.pu).map PyData.int), .lst (SqL.of lc10) (dpAll_int _), .lst (SqL.of hL) (dpAll_int _), shaped_ints _, shaped_ints _, _, rfl, ?_⟩
          rw [SeqAt.eqv_refl _ (Sh.list (k := 0) fun x hx => by
            obtain ⟨z, _, rfl⟩ := List.mem_map.mp hx
            exact Sh.int).1]
          -- works behind
          have D10 := D9.mono zz
          obtain ⟨dx4, cp4, od4⟩ := D10.obj
          refine ⟨_, rfl, d, dx4, _, rfl, od4, rfl, ?_⟩
          refine ⟨Hb3, d, s', .works, rfl, D10, O', hg', trivial, .inl ⟨trivial, fun x s2 H11 q D11 => ?_⟩⟩
          obtain ⟨ex, es2⟩ := q
          subst ex
          rw [es2] at D11
          refine ⟨s'.told, rfl, (told_wok O').1, (told_wok O').2, fun aw2 H12 ts2 e12 naw2 haw2 hE2 => ?_⟩
          have D12 := D11.mono e12
          have B12 := D12.base
          have hw12 := B12 _ _ (q1 _ _ hwq)
          have sh := sh_works (told_wok O').1
          refine ⟨_, rfl, worksD s'.told, worksD s'.told, dp_works haw2 (hE2.mono fun _ _ _ _ z => z.mono ((newOf_le _ _).trans (hide_le _ _))), dp_works hw12 (hEq.mono fun _ _ _ _ z => z.mono (q1.trans B12)), sh.shaped, sh.shaped, _, rfl, ?_⟩
          rw [SeqAt.eqv_refl _ sh.1]
          -- too dear
          have hlb12 := B12 _ _ hlb
          refine ⟨_, rfl, _, rfl, _, rfl, 3, rfl, lb, _, rfl, SqL.of hlb12, fun lz nlz => ?_⟩
          rw [e3b]
          have sz := snew (o := .lst (vec s.people.length fun i => V.int (s'.pu i))) nlz
          have en : s'.names.length = s.people.length := by rw [s'.nlen, people_len C]
          refine ⟨aw, ap, lz, ts', s'.told, s'.names, s'.pu, rfl, sz _ _ hw12, hEq.mono fun _ _ _ _ z => z.mono (q1.trans (B12.trans sz)), sz _ _ (B12 _ _ (q1 _ _ hpq)), by unfold LV; rw [en]; exact upd_same, by rw [en]; exact hp6, fun q hq => ?_, fun H13 e13 => ?_⟩
          · obtain ⟨pl, hpl, rfl⟩ := List.mem_map.mp hq
            rw [en]
            have dd := C.dear pl hpl
            have ee : (sumTo s.people.length fun i => if decide (s'.names.getD i "" ∈ s'.wanting pl) = true then s'.pu i else 0) = sumTo s.people.length fun i => if decide (s.nm i ∈ s.wanting pl) = true then s'.pu i else 0 := sumTo_congr fun i hi => by
              have e1 : s'.names.getD i "" = s.nm i := by rw [C.names]; simp [List.getD, s.names_get hi]
              have e2 : s'.wanting pl = s.wanting pl := by unfold Ch.wanting; rw [C.names]
              rw [e1, e2]
            show (sumTo s.people.length fun i => if decide (s'.names.getD i "" ∈ s'.wanting pl) = true then s'.pu i else 0) < pl.cost
            rw [ee]
            exact dd
          · exact k H13 s' told G C (((D12.mono (sz.trans e13)).narrow q1).narrow H0q)
end
end Ep
set_option Elab.async false
set_option linter.all false
set_option maxRecDepth 100000
set_option maxHeartbeats 8000000
/-! EpLawI: the law's next row. -/
namespace Ep
open PySem PySem.Spec PyProof.Rows L2
open TL (tl numL)
/-- a test, then the rest, with a word between them -/
def tTCut (t : TT) : TT := fun σ H Q => ∃ Mid : Bool → Hp → Prop, t σ H Mid ∧ ∀ b H', Mid b H' → Q b H'
theorem pt_cut {X : Cx} {e : Expr} {t : TT} (h : PT X e t) : PT X e (tTCut t) := by
  refine ⟨fun pins s σ H Q I q => ?_⟩
  obtain ⟨Mid, h1, h2⟩ := q
  exact thn (h.run pins s σ H Mid I h1) fun c s1 ⟨H1, I1, q1⟩ => ⟨H1, I1, h2 c H1 q1⟩
theorem nd_vec {α : Type} {f : Nat → α} : ∀ {n : Nat}, (∀ i j, i < n → j < n → f i = f j → i = j) → (vec n f).Nodup
  | 0, _ => List.nodup_nil
  | n + 1, h => by
    rw [vec_succ]
    refine List.nodup_append.mpr ⟨nd_vec fun i j hi hj e => h i j (by omega) (by omega) e, by simp, fun a ha b hb e => ?_⟩
    obtain ⟨i, hi, rfl⟩ := vec_mem.mp ha
    rw [List.mem_singleton.mp hb] at e
    have := h i n (by omega) (by omega) e
    omega
def freshL (c : Int) (ns : List Str) : List Str := (vec 9 (nameF c)).filter fun z => decide (z ∉ ns)
theorem fresh_ne (c : Int) {ns : List Str} (h : ns.length < 6) : freshL c ns ≠ [] := fun e => by
  have all : ∀ z, z ∈ (vec 8 (nameF c)) → z ∈ ns := fun z hz => by
    obtain ⟨k, hk, rfl⟩ := vec_mem.mp hz
    apply Classical.byContradiction
    intro n
    have m : nameF c k ∈ freshL c ns := List.mem_filter.mpr ⟨vec_mem.mpr ⟨k, by omega, rfl⟩, decide_eq_true n⟩
    rw [e] at m
    cases m
  have nd : (vec 8 (nameF c)).Nodup := nd_vec fun i j hi hj e => nameF_inj c hi hj e
  have := pigeon nd all
  rw [vec_length] at this
  omega
def RowOk (ns ps : List Str) : Cmd → Prop
  | .enrol n => n ∉ ns ∧ ns.length < 6 | .leave n => n ∈ ns | .give _ => True | .propose z _ => z ∉ ps ∧ ps.length < 6 | .withdraw z => z ∈ ps
  | .want n z => n ∈ ns ∧ z ∈ ps | .unwant n z => n ∈ ns ∧ z ∈ ps | _ => False
theorem max_ix (x : Int) (n : Nat) : (0 : Int) < (if (n : Int) > 1 then (n : Int) else 1) ∧ ∃ m : Nat, x % (if (n : Int) > 1 then (n : Int) else 1) = (m : Int) ∧ m < max 1 n := by
  by_cases c : (n : Int) > 1
  · rw [if_pos c]
    have h0 : 0 ≤ x % (n : Int) := Int.emod_nonneg _ (by omega)
    have h1 : x % (n : Int) < (n : Int) := Int.emod_lt_of_pos _ (by omega)
    exact ⟨by omega, (x % (n : Int)).toNat, by omega, by omega⟩
  · rw [if_neg c]
    exact ⟨by decide, 0, by rw [Int.emod_one]; rfl, by omega⟩
theorem len_ix (x : Int) {n : Nat} (h : 0 < n) : (0 : Int) < (n : Int) ∧ ∃ m : Nat, x % (n : Int) = (m : Int) ∧ m < n := by
  have h0 : 0 ≤ x % (n : Int) := Int.emod_nonneg _ (by omega)
  have h1 : x % (n : Int) < (n : Int) := Int.emod_lt_of_pos _ (by omega)
  exact ⟨by omega, (x % (n : Int)).toNat, by omega, by omega⟩
theorem min_ok (r : Int) (h : 0 ≤ r) (b : Int) (hb : 0 ≤ b) : 0 ≤ (if r < b then r else b) ∧ (if r < b then r else b) ≤ b := by
  by_cases c : r < b
  · rw [if_pos c]; omega
  · rw [if_neg c]; omega
theorem intD (z y : Int) : decide (V.int z = V.int y) = decide (z = y) := by
  by_cases e : z = y
  · rw [e, decide_eq_true rfl, decide_eq_true rfl]
  · rw [decide_eq_false e, decide_eq_false fun q => e (V.int.inj q)]
def spRow : Sp := fun vs H Q _ => ∃ (ax ap aw : Addr) (cell g : Int) (xf : Nat → Int) (ns ps : List Str), vs = [.ref ax, .int cell, .ref ap, .ref aw, .int g] ∧ LV H ax 5 xf ∧ (∀ i, 0 ≤ xf i ∧ xf i < 700700003) ∧ H ap = some (.lst (ns.map V.str)) ∧ H aw = some (.lst (ps.map V.str)) ∧
  ns.length ≤ 6 ∧ ps.length ≤ 6 ∧ (∀ n, n ∈ ns → NameOk n) ∧ (∀ n, n ∈ ps → NameOk n) ∧ 0 ≤ g ∧ g ≤ 1000000000000 ∧ ∀ (c : Cmd) l H', Same H H' → H l = none → H' l = some (.lst ((c.word :: c.rest).map V.str)) → c.Words → RowOk ns ps c → Q (.ref l) H'
theorem one_of {ns : List Str} {z : Str} {m : Nat} (h : m < max 1 ns.length) : ∃ y, (ns ++ [z])[m]? = some y ∧ (ns ≠ [] → y ∈ ns) ∧ (y ∈ ns ∨ y = z) := by
  by_cases c : m < ns.length
  · exact ⟨ns[m], by rw [List.getElem?_append_left c, List.getElem?_eq_getElem c], fun _ => List.getElem_mem c, .inl (List.getElem_mem c)⟩
  · have e : ns = [] := List.length_eq_zero_iff.mp (by omega)
    subst e
    have : m = 0 := by simp at h; omega
    subst this
    exact ⟨z, rfl, fun q => absurd rfl q, .inr rfl⟩
section
variable {P : Program} {w : World} {K : PySem.W.Frag} {mg : Str → Option Value} {base : Heap}
abbrev NRow : List Str := ["xs", "cell", "people", "plans", "given", "name", "work", "way", "fresh", "one", "k"]
theorem sc_row : FnScope NRow ["xs", "cell", "people", "plans", "given"] (defScope s_law_row) := ⟨rfl, rfl, rfl, by decide +kernel, rfl, by decide +kernel, by decide +kernel⟩
theorem ok_row (T : Tx K mg) : Def P w K mg base CX0 3 (He.fAd K d_law_row.at_) ["xs", "cell", "people", "plans", "given"] spRow := by
  obtain ⟨fd, F⟩ := T.f_law_row
  refine ⟨fd, F.ok sc_row (fun vs H Q E h => ?_) (fun cdv A outer s H vs Q E hr h => ?_), F.bindsN (fun _ _ _ _ _ _ us hl => match us, hl with | [_, _, _, _, _], _ => rfl), F.kp⟩
  · obtain ⟨_, _, _, _, _, _, _, _, rfl, _⟩ := h
    rfl
  · obtain ⟨ax, ap, aw, cell, g, xf, ns, ps, rfl, hx, xb, hp, hw, n6, p6, nok, pok, g0, g1, k⟩ := h
    have hu64 : _ + 64 < cLine := Nat.lt_trans (Nat.lt_succ_self _) (hu65 hr)
    refine ⟨_, PSs.nox (pss_cons (ps_set (i := 5) sc_row.nd rfl (.inl rfl) (pe_ix ix_list (pe_op op_cat (pv 2) (pe_lst (pa_cons (pe_f (ok_lname T) hr pass0 T.g_law_name (pa_cons (pv 1) (pa_cons pe_int pa_nil))) pa_nil))) (pe_op op_mod (pe_ix ix_list (pv 0) pe_int (fun _ _ => rfl)) (pe_callB (call_max2 rfl) (by rfl) T.z_max (by decide +kernel) (pa_cons pe_int (pa_cons (pe_callB call_len_seq (by rfl) T.z_len PySem.boot_len (pa_cons (pv 2) pa_nil)) pa_nil)))) (fun _ _ => rfl)))
      (pss_cons (ps_set (i := 6) sc_row.nd rfl (.inl rfl) (pe_ix ix_list (pe_op op_cat (pv 3) (pe_lst (pa_cons (pe_f (ok_lname T) hr pass0 T.g_law_name (pa_cons (pe_op op_fdiv (pv 1) pe_int) (pa_cons pe_int pa_nil))) pa_nil))) (pe_op op_mod (pe_ix ix_list (pv 0) pe_int (fun _ _ => rfl)) (pe_callB (call_max2 rfl) (by rfl) T.z_max (by decide +kernel) (pa_cons pe_int (pa_cons (pe_callB call_len_seq (by rfl) T.z_len PySem.boot_len (pa_cons (pv 3) pa_nil)) pa_nil)))) (fun _ _ => rfl)))
      (pss_cons (ps_set (i := 7) sc_row.nd rfl (.inl rfl) (pe_op op_mod (pe_ix ix_list (pv 0) pe_int (fun _ _ => rfl)) pe_int))
      (pss_cons (ps_if (pt_cut (PW.pt (pw_and (PW.pt (pw_or (pt_cmpR op_lt (pv 7) pe_int (nomark _)) (pw_or1 (pt_cmpR (op_eqD hu64) (pv 2) (pe_lst pa_nil) (nomark _))))) (pw_and1 (pt_cmpR op_lt (pe_callB call_len_seq (by rfl) T.z_len PySem.boot_len (pa_cons (pv 2) pa_nil)) pe_int (nomark _))))))
        (pss_cons (ps_setLc (i := 8) (own := [("one", 9)]) (g := gName 9) (tt := tTest (tOp (rIn K true) (tVar 9) (tVar 2))) (te := tVar 9) rfl sc_row.nd rfl rfl (sw_true rfl rfl rfl (by decide +kernel))
            (pi_list (pe_lc (own := [("k", 10)]) (g := gName 10) (tt := tYes) (te := tCall spLawName [] E0 (tCons (tVar 1) (tCons (tVar 10) tNil))) rfl sc_row.nd (pi_range1 rfl T.z_range (pa_cons pe_int pa_nil)) (blkOk_by (N := NRow) (sc := defScope s_law_row) (by decide +kernel)) (fun _ _ _ _ _ => pg_name (i := 10) sc_row.nd rfl (Or.inl rfl)) (fun _ _ _ _ _ => pts_nil) (fun _ _ _ _ _ => pe_f (ok_lname T) hr pass0 T.g_law_name (pa_cons (pv 1) (pa_cons (pv 10) pa_nil)))))
            (blkOk_by (N := NRow) (sc := defScope s_law_row) (by decide +kernel)) (fun _ _ _ _ _ => pg_name (i := 9) sc_row.nd rfl (Or.inl rfl)) (fun _ _ _ _ _ => pts_one (pt_cmpR op_notIn_seq (pv 9) (pv 2) (by rfl))) (fun _ _ _ _ _ => pv 9))
          (pss_one (ps_ret (pe_lst (pa_cons pe_str (pa_cons (pe_ix ix_list (pv 8) (pe_op op_mod (pe_ix ix_list (pv 0) pe_int (fun _ _ => rfl)) (pe_callB call_len_seq (by rfl) T.z_len PySem.boot_len (pa_cons (pv 8) pa_nil))) (fun _ _ => rfl)) pa_nil)))))) pss_nil)
      (pss_cons (ps_if (pt_cmpR op_eq (pv 7) pe_int (nomark _)) (pss_one (ps_ret (pe_lst (pa_cons pe_str (pa_cons (pv 5) pa_nil))))) pss_nil)
      (pss_cons (ps_if (pt_cmpR op_lt (pv 7) pe_int (nomark _)) (pss_one (ps_ret (pe_lst (pa_cons pe_str (pa_cons (pe_callTy call_str_int (by rfl) T.z_str (by decide +kernel) (pa_cons (pe_callB (call_min2 rfl) (by rfl) T.z_min (by decide +kernel) (pa_cons (pe_op op_pow pe_int pe_int) (pa_cons (pe_f (ok_amount T) hr pass0 T.g_law_amount (pa_cons (pe_ix ix_list (pv 0) pe_int (fun _ _ => rfl)) (pa_cons (pv 4) pa_nil))) pa_nil))) pa_nil)) pa_nil))))) pss_nil)
      (pss_cons (ps_if (pt_cut (PW.pt (pw_and (PW.pt (pw_or (pt_cmpR op_lt (pv 7) pe_int (nomark _)) (pw_or1 (pt_cmpR (op_eqD hu64) (pv 3) (pe_lst pa_nil) (nomark _))))) (pw_and1 (pt_cmpR op_lt (pe_callB call_len_seq (by rfl) T.z_len PySem.boot_len (pa_cons (pv 3) pa_nil)) pe_int (nomark _))))))
        (pss_cons (ps_setLc (i := 8) (own := [("one", 9)]) (g := gName 9) (tt := tTest (tOp (rIn K true) (tVar 9) (tVar 3))) (te := tVar 9) rfl sc_row.nd rfl rfl (sw_true rfl rfl rfl (by decide +kernel))
            (pi_list (pe_lc (own := [("k", 10)]) (g := gName 10) (tt := tYes) (te := tCall spLawName [] E0 (tCons (tOp (rI CDiv fun i j => .int (i / j)) (tVar 1) (tC (.int 3))) (tCons (tVar 10) tNil))) rfl sc_row.nd (pi_range1 rfl T.z_range (pa_cons pe_int pa_nil)) (blkOk_by (N := NRow) (sc := defScope s_law_row) (by decide +kernel)) (fun _ _ _ _ _ => pg_name (i := 10) sc_row.nd rfl (Or.inl rfl)) (fun _ _ _ _ _ => pts_nil) (fun _ _ _ _ _ => pe_f (ok_lname T) hr pass0 T.g_law_name (pa_cons (pe_op op_fdiv (pv 1) pe_int) (pa_cons (pv 10) pa_nil)))))
            (blkOk_by (N := NRow) (sc := defScope s_law_row) (by decide +kernel)) (fun _ _ _ _ _ => pg_name (i := 9) sc_row.nd rfl (Or.inl rfl)) (fun _ _ _ _ _ => pts_one (pt_cmpR op_notIn_seq (pv 9) (pv 3) (by rfl))) (fun _ _ _ _ _ => pv 9))
          (pss_one (ps_ret (pe_lst (pa_cons pe_str (pa_cons (pe_ix ix_list (pv 8) (pe_op op_mod (pe_ix ix_list (pv 0) pe_int (fun _ _ => rfl)) (pe_callB call_len_seq (by rfl) T.z_len PySem.boot_len (pa_cons (pv 8) pa_nil))) (fun _ _ => rfl)) (pa_cons (pe_callTy call_str_int (by rfl) T.z_str (by decide +kernel) (pa_cons (pe_op op_add pe_int (pe_callB (call_min2 rfl) (by rfl) T.z_min (by decide +kernel) (pa_cons (pe_op op_sub (pe_op op_pow pe_int pe_int) pe_int) (pa_cons (pe_f (ok_amount T) hr pass0 T.g_law_amount (pa_cons (pe_ix ix_list (pv 0) pe_int (fun _ _ => rfl)) (pa_cons (pv 4) pa_nil))) pa_nil)))) pa_nil)) pa_nil))))))) pss_nil)
      (pss_cons (ps_if (pt_cmpR op_eq (pv 7) pe_int (nomark _)) (pss_one (ps_ret (pe_lst (pa_cons pe_str (pa_cons (pv 6) pa_nil))))) pss_nil)
      (pss_one (ps_ret (pe_lst (pa_cons (pe_ix ix_list (pe_lst (pa_cons pe_str (pa_cons pe_str (pa_cons pe_str (pa_cons pe_str pa_nil))))) (pe_op op_mod (pe_ix ix_list (pv 0) pe_int (fun _ _ => rfl)) pe_int) (fun _ _ => rfl)) (pa_cons (pv 5) (pa_cons (pv 6) pa_nil)))))))))))))), ?_⟩
    -- the name
    refine ⟨_, rfl, _, rfl, cell, 0, rfl, by decide, fun H1 s1 => ?_⟩
    refine ⟨(by show 1 ≤ sizeLine; decide), fun l0 nl0 => ?_⟩
    have t0 := s1.trans (snew (o := .lst [.str (nameF cell 0)]) nl0)
    refine ⟨ap, l0, _, _, rfl, rfl, t0 _ _ hp, upd_same, sz_of (by rw [List.length_map]; show _ + 1 ≤ _; omega), fun D nD => ?_⟩
    have t1 := t0.trans (snew (o := .lst (ns.map V.str ++ [.str (nameF cell 0)])) nD)
    have DS : (upd (upd H1 l0 (.lst [.str (nameF cell 0)])) D (.lst (ns.map V.str ++ [.str (nameF cell 0)]))) D = _ := upd_same
    obtain ⟨mp, m, em, hm⟩ := max_ix (xf 1) ns.length
    obtain ⟨y, hy, yin, yor⟩ := one_of (z := nameF cell 0) hm
    have yok : NameOk y := by
      rcases yor with q | q
      · exact nok y q
      · rw [q]; exact nameF_ok _ _
    have hat : atI (ns.map V.str ++ [.str (nameF cell 0)]) (m : Int) = some (V.str y) := by
      refine atI_nat ?_
      rw [show ns.map V.str ++ [V.str (nameF cell 0)] = (ns ++ [nameF cell 0]).map V.str by rw [List.map_append]; rfl, List.getElem?_map, hy]; rfl
    refine ⟨_, rfl, ax, _, _, _, rfl, rfl, SqL.of (t1 _ _ hx), atI_vec (k := 1) (by decide), _, rfl, ap, _, rfl, .inl (SqL.of (t1 _ _ hp)), 1, _, rfl, ?_⟩
    rw [List.length_map]
    refine ⟨_, _, rfl, rfl, mp, ?_⟩
    refine ⟨D, _, _, V.str y, rfl, rfl, SqL.of DS, by rw [em]; exact hat, ?_⟩
    obtain ⟨H2, eH2⟩ : ∃ H2, H2 = upd (upd H1 l0 (.lst [.str (nameF cell 0)])) D (.lst (ns.map V.str ++ [.str (nameF cell 0)])) := ⟨_, rfl⟩
    refine (?_ : ∀ Hx, Hx = H2 → _) _ eH2.symm
    rintro Hx rfl
    rw [← eH2] at t1
    clear eH2 DS
    -- the work
    refine ⟨_, rfl, _, rfl, _, _, rfl, rfl, ⟨by decide, by decide⟩, cell / 3, 0, rfl, by decide, fun H3 s3 => ?_⟩
    refine ⟨(by show 1 ≤ sizeLine; decide), fun l1 nl1 => ?_⟩
    have t3 := t1.trans (s3.trans (snew (o := .lst [.str (nameF (cell / 3) 0)]) nl1))
    refine ⟨aw, l1, _, _, rfl, rfl, t3 _ _ hw, upd_same, sz_of (by rw [List.length_map]; show _ + 1 ≤ _; omega), fun D2 nD2 => ?_⟩
    have t4 := t3.trans (snew (o := .lst (ps.map V.str ++ [.str (nameF (cell / 3) 0)])) nD2)
    have DS : (upd (upd H3 l1 (.lst [.str (nameF (cell / 3) 0)])) D2 (.lst (ps.map V.str ++ [.str (nameF (cell / 3) 0)]))) D2 = _ := upd_same
    obtain ⟨mp2, m2, em2, hm2⟩ := max_ix (xf 2) ps.length
    obtain ⟨z, hz, zin, zor⟩ := one_of (z := nameF (cell / 3) 0) hm2
    have zok : NameOk z := by
      rcases zor with q | q
      · exact pok z q
      · rw [q]; exact nameF_ok _ _
    have hat2 : atI (ps.map V.str ++ [.str (nameF (cell / 3) 0)]) (m2 : Int) = some (V.str z) := by
      refine atI_nat ?_
      rw [show ps.map V.str ++ [V.str (nameF (cell / 3) 0)] = (ps ++ [nameF (cell / 3) 0]).map V.str by rw [List.map_append]; rfl, List.getElem?_map, hz]; rfl
    refine ⟨_, rfl, ax, _, _, _, rfl, rfl, SqL.of (t4 _ _ hx), atI_vec (k := 2) (by decide), _, rfl, aw, _, rfl, .inl (SqL.of (t4 _ _ hw)), 1, _, rfl, ?_⟩
    rw [List.length_map]
    refine ⟨_, _, rfl, rfl, mp2, ?_⟩
    refine ⟨D2, _, _, V.str z, rfl, rfl, SqL.of DS, by rw [em2]; exact hat2, ?_⟩
    obtain ⟨H4, eH4⟩ : ∃ H4, H4 = upd (upd H3 l1 (.lst [.str (nameF (cell / 3) 0)])) D2 (.lst (ps.map V.str ++ [.str (nameF (cell / 3) 0)])) := ⟨_, rfl⟩
    refine (?_ : ∀ Hx, Hx = H4 → _) _ eH4.symm
    rintro Hx rfl
    rw [← eH4] at t4
    clear eH4 DS
    -- the way
    refine ⟨_, rfl, ax, _, _, _, rfl, rfl, SqL.of (t4 _ _ hx), atI_vec (k := 0) (by decide), _, _, rfl, rfl, (by show (0 : Int) < 12; decide), ?_⟩
    obtain ⟨way, eway⟩ : ∃ way, way = xf 0 % 12 := ⟨_, rfl⟩
    dsimp only
    rw [← eway]
    refine ⟨fun b H' => Same H H' ∧ (b = true → ns.length < 6) ∧ (b = false → ns ≠ []), ?_, ?_⟩
    · refine ⟨_, rfl, _, _, rfl, rfl, _, rfl, ?_⟩
      by_cases a : way < 2
      · rw [decide_eq_true a]
        refine ⟨_, rfl, ap, _, rfl, .inl (SqL.of (t4 _ _ hp)), _, _, rfl, rfl, _, rfl, ?_⟩
        rw [List.length_map]
        refine ⟨t4, fun q => by have := of_decide_eq_true q; omega, fun q e => ?_⟩
        rw [e] at q
        exact absurd q (by decide)
      · rw [decide_eq_false a]
        refine ⟨_, rfl, Nat.zero_le _, fun n0 nn0 => ?_⟩
        have tn := snew (o := .lst []) nn0
        have tm := t4.trans tn
        refine ⟨.list (ns.map .str), .list [], .lst (SqL.of (tm _ _ hp)) (dpAll_str _), .lst (SqL.of upd_same) .nil, shaped_strs fun y hy => strOk_name (nok y hy), shaped_nil2, _, rfl, ?_⟩
        rw [eqv_nil2]
        by_cases c : ns = []
        · rw [decide_eq_true (by rw [c]; rfl)]
          refine ⟨_, rfl, ap, _, rfl, .inl (SqL.of (tm _ _ hp)), _, _, rfl, rfl, _, rfl, ?_⟩
          rw [List.length_map]
          refine ⟨tm, fun q => by have := of_decide_eq_true q; omega, fun q e => ?_⟩
          rw [e] at q
          exact absurd q (by decide)
        · rw [decide_eq_false (fun e => c (List.map_eq_nil_iff.mp e))]
          exact ⟨tm, (fun q => by cases q), fun _ => c⟩
    · rintro b H5 ⟨t5, hb1, hb0⟩
      cases b with
      | true =>
        have hlt := hb1 rfl
        refine ⟨9, rfl, by decide, by decide, fun D3 nD3 => ?_⟩
        refine lc_it (walk_range (lo := 0) (n := (9 : Int).toNat)) (fun i H' => i ≤ 9 ∧ Same H5 H' ∧ H' D3 = some (.lst (vec i fun j => V.str (nameF (cell) j)))) ⟨Nat.zero_le _, snew nD3, upd_same⟩ (fun _ _ _ _ => trivial) ?_ ?_
        · rintro i x H6 H7 hi ⟨_, u1, hL⟩ ⟨rfl, hx⟩
          have hi9 : i < 9 := hi
          obtain rfl : x = V.int (i : Int) := hx.trans (congrArg V.int (by omega))
          refine ⟨rfl, _, rfl, _, rfl, cell, i, rfl, by omega, fun H8 s8 => ?_⟩
          refine ⟨_, s8 _ _ hL, sz_lt (by rw [vec_length]; omega), hi9, smut (u1.trans s8) nD3, ?_⟩
          rw [upd_same, vec_succ]
        · rintro H6 ⟨_, u1, hL⟩
          have hL9 : H6 D3 = some (.lst ((vec 9 (nameF (cell))).map V.str)) := by
            rw [vec_map]
            exact hL
          have t6 := t5.trans u1
          refine ⟨D3, rfl, ⟨_, SqL.of hL9⟩, fun D4 nD4 => ?_⟩
          refine lc_it (walk_list (K := K) (a := D3) (xs := (vec 9 (nameF (cell))).map V.str)) (fun i H' => i ≤ 9 ∧ Same H6 H' ∧ H' D4 = some (.lst ((((vec 9 (nameF (cell))).take i).filter fun z => decide (z ∉ ns)).map V.str))) ⟨Nat.zero_le _, snew nD4, upd_same⟩ ?_ ?_ ?_
          · rintro i H' _ ⟨_, v1, _⟩
            exact SqL.of (v1 _ _ hL9)
          · rintro i x H7 H8 hi ⟨_, v1, hM⟩ ⟨rfl, hx⟩
            rw [List.length_map, vec_length] at hi
            have hx2 : ((vec 9 (nameF (cell))).map V.str)[i]? = some x := hx
            have hz9 : (vec 9 (nameF (cell)))[i]? = some (nameF (cell) i) := vec_get hi
            rw [List.getElem?_map, hz9] at hx2
            obtain rfl : x = V.str (nameF (cell) i) := (Option.some.inj hx2).symm
            refine ⟨rfl, _, rfl, _, rfl, ap, _, rfl, .inl (SqL.of (v1 _ _ (t6 _ _ hp))), rfl, flat_str _, _, rfl, ?_⟩
            show (if (!inV (.str (nameF (cell) i)) (ns.map V.str)) = true then _ else _)
            rw [inV_str]
            have et : (vec 9 (nameF (cell))).take (i + 1) = (vec 9 (nameF (cell))).take i ++ [nameF (cell) i] := by rw [List.take_add_one, hz9]; rfl
            have fl := List.length_filter_le (fun z => decide (z ∉ ns)) ((vec 9 (nameF (cell))).take i)
            rw [List.length_take] at fl
            by_cases c : nameF (cell) i ∈ ns
            · rw [decide_eq_true c]
              refine ⟨hi, v1, ?_⟩
              rw [et, List.filter_append, List.filter_cons, if_neg (by simp [c])]
              show _ = some (HO.lst (List.map V.str (_ ++ [])))
              rw [List.append_nil]
              exact hM
            · rw [decide_eq_false c]
              refine ⟨_, rfl, _, hM, sz_lt (by rw [List.length_map]; omega), hi, smut v1 nD4, ?_⟩
              rw [upd_same, et, List.filter_append, List.filter_cons, if_pos (by simp [c]), List.map_append]; rfl
          · rintro H7 ⟨_, v1, hM⟩
            rw [List.length_map, vec_length] at hM
            have hM2 : H7 D4 = some (.lst ((freshL (cell) ns).map V.str)) := by
              rw [hM, List.take_of_length_le (by rw [vec_length]; exact Nat.le_refl _)]; rfl
            have t7 := t6.trans v1
            have fne := fresh_ne (cell) hlt
            have flen : 0 < (freshL (cell) ns).length := Nat.pos_of_ne_zero fun e => fne (List.length_eq_zero_iff.mp e)
            obtain ⟨lp, q, eq_, hq⟩ := len_ix (xf 1) flen
            have hq2 : (freshL (cell) ns)[q]? = some (freshL (cell) ns)[q] := List.getElem?_eq_getElem hq
            have mq : (freshL (cell) ns)[q] ∈ freshL (cell) ns := List.getElem_mem hq
            obtain ⟨mv, mn⟩ := List.mem_filter.mp mq
            obtain ⟨kk, _, ek⟩ := vec_mem.mp mv
            refine ⟨_, rfl, _, rfl, ax, _, _, _, rfl, rfl, SqL.of (t7 _ _ hx), atI_vec (k := 1) (by decide), _, rfl, D4, _, rfl, .inl (SqL.of hM2), ?_⟩
            rw [List.length_map]
            refine ⟨_, _, rfl, rfl, lp, D4, _, _, V.str (freshL (cell) ns)[q], rfl, rfl, SqL.of hM2, by rw [eq_]; exact atI_nat (by rw [List.getElem?_map, hq2]; rfl), (by show 2 ≤ sizeLine; decide), fun l nl => ?_⟩
            refine k (.enrol (freshL (cell) ns)[q]) l _ (t7.trans (snew nl)) (t7.free nl) upd_same ?_ ⟨of_decide_eq_true mn, hlt⟩
            show NameOk _
            rw [← ek]
            exact nameF_ok _ _
      | false =>
        have hne := hb0 rfl
        have yn := yin hne
        refine ⟨_, rfl, rfl, _, rfl, ?_⟩
        rw [intD]
        refine ite2 (fun cc => ?_) (fun cc => ?_)
        · refine ⟨_, rfl, (by show 2 ≤ sizeLine; decide), fun l nl => ?_⟩
          exact k (.leave y) l _ (t5.trans (snew nl)) (t5.free nl) upd_same yok yn
        refine ⟨_, rfl, _, _, rfl, rfl, _, rfl, ?_⟩
        refine ite2 (fun cc => ?_) (fun cc => ?_)
        · refine ⟨_, _, rfl, rfl, ⟨by decide, by decide, by decide⟩, _, rfl, ax, _, _, _, rfl, rfl, SqL.of (t5 _ _ hx), atI_vec (k := 3) (by decide), _, rfl, xf 3, g, rfl, (xb 3).1, (xb 3).2, g0, g1, fun r hr0 => ?_⟩
          have mk := min_ok r hr0 (10 ^ (9 : Int).toNat) (by decide)
          have m9 : (10 ^ (9 : Int).toNat : Int) = 1000000000 := by decide
          have b30 : (10 : Int) ^ 30 = 1000000000000000000000000000000 := by decide
          have lgk : (if r < 10 ^ (9 : Int).toNat then r else 10 ^ (9 : Int).toNat).natAbs.log2 < 1920 := log_ok (by omega) (by omega)
          refine ⟨_, _, rfl, _, rfl, lgk, (by show 2 ≤ sizeLine; decide), fun l nl => ?_⟩
          exact k (.give (if r < 10 ^ (9 : Int).toNat then r else 10 ^ (9 : Int).toNat)) l _ (t5.trans (snew nl)) (t5.free nl) upd_same ⟨mk.1, by omega⟩ trivial
        refine ⟨fun b H' => Same H H' ∧ (b = true → ps.length < 6) ∧ (b = false → ps ≠ []), ?_, ?_⟩
        · refine ⟨_, rfl, _, _, rfl, rfl, _, rfl, ?_⟩
          by_cases a : way < 7
          · rw [decide_eq_true a]
            refine ⟨_, rfl, aw, _, rfl, .inl (SqL.of (t5 _ _ hw)), _, _, rfl, rfl, _, rfl, ?_⟩
            rw [List.length_map]
            refine ⟨t5, fun q => by have := of_decide_eq_true q; omega, fun q e => ?_⟩
            rw [e] at q
            exact absurd q (by decide)
          · rw [decide_eq_false a]
            refine ⟨_, rfl, Nat.zero_le _, fun n0 nn0 => ?_⟩
            have tn := snew (o := .lst []) nn0
            have tm := t5.trans tn
            refine ⟨.list (ps.map .str), .list [], .lst (SqL.of (tm _ _ hw)) (dpAll_str _), .lst (SqL.of upd_same) .nil, shaped_strs fun y hy => strOk_name (pok y hy), shaped_nil2, _, rfl, ?_⟩
            rw [eqv_nil2]
            by_cases c : ps = []
            · rw [decide_eq_true (by rw [c]; rfl)]
              refine ⟨_, rfl, aw, _, rfl, .inl (SqL.of (tm _ _ hw)), _, _, rfl, rfl, _, rfl, ?_⟩
              rw [List.length_map]
              refine ⟨tm, fun q => by have := of_decide_eq_true q; omega, fun q e => ?_⟩
              rw [e] at q
              exact absurd q (by decide)
            · rw [decide_eq_false (fun e => c (List.map_eq_nil_iff.mp e))]
              exact ⟨tm, (fun q => by cases q), fun _ => c⟩
        · rintro b H6 ⟨t6, hb3, hb2⟩
          cases b with
          | true =>
            have hlt := hb3 rfl
            refine ⟨9, rfl, by decide, by decide, fun D3 nD3 => ?_⟩
            refine lc_it (walk_range (lo := 0) (n := (9 : Int).toNat)) (fun i H' => i ≤ 9 ∧ Same H6 H' ∧ H' D3 = some (.lst (vec i fun j => V.str (nameF (cell / 3) j)))) ⟨Nat.zero_le _, snew nD3, upd_same⟩ (fun _ _ _ _ => trivial) ?_ ?_
            · rintro i x H16 H17 hi ⟨_, u1, hL⟩ ⟨rfl, hx⟩
              have hi9 : i < 9 := hi
              obtain rfl : x = V.int (i : Int) := hx.trans (congrArg V.int (by omega))
              refine ⟨rfl, _, rfl, _, _, rfl, rfl, ⟨by decide, by decide⟩, _, rfl, cell / 3, i, rfl, by omega, fun H8 s8 => ?_⟩
              refine ⟨_, s8 _ _ hL, sz_lt (by rw [vec_length]; omega), hi9, smut (u1.trans s8) nD3, ?_⟩
              rw [upd_same, vec_succ]
            · rintro H16 ⟨_, u1, hL⟩
              have hL9 : H16 D3 = some (.lst ((vec 9 (nameF (cell / 3))).map V.str)) := by
                rw [vec_map]
                exact hL
              have t6b := t6.trans u1
              refine ⟨D3, rfl, ⟨_, SqL.of hL9⟩, fun D4 nD4 => ?_⟩
              refine lc_it (walk_list (K := K) (a := D3) (xs := (vec 9 (nameF (cell / 3))).map V.str)) (fun i H' => i ≤ 9 ∧ Same H16 H' ∧ H' D4 = some (.lst ((((vec 9 (nameF (cell / 3))).take i).filter fun z => decide (z ∉ ps)).map V.str))) ⟨Nat.zero_le _, snew nD4, upd_same⟩ ?_ ?_ ?_
              · rintro i H' _ ⟨_, v1, _⟩
                exact SqL.of (v1 _ _ hL9)
              · rintro i x H7 H8 hi ⟨_, v1, hM⟩ ⟨rfl, hx⟩
                rw [List.length_map, vec_length] at hi
                have hx2 : ((vec 9 (nameF (cell / 3))).map V.str)[i]? = some x := hx
                have hz9 : (vec 9 (nameF (cell / 3)))[i]? = some (nameF (cell / 3) i) := vec_get hi
                rw [List.getElem?_map, hz9] at hx2
                obtain rfl : x = V.str (nameF (cell / 3) i) := (Option.some.inj hx2).symm
                refine ⟨rfl, _, rfl, _, rfl, aw, _, rfl, .inl (SqL.of (v1 _ _ (t6b _ _ hw))), rfl, flat_str _, _, rfl, ?_⟩
                show (if (!inV (.str (nameF (cell / 3) i)) (ps.map V.str)) = true then _ else _)
                rw [inV_str]
                have et : (vec 9 (nameF (cell / 3))).take (i + 1) = (vec 9 (nameF (cell / 3))).take i ++ [nameF (cell / 3) i] := by rw [List.take_add_one, hz9]; rfl
                have fl := List.length_filter_le (fun z => decide (z ∉ ps)) ((vec 9 (nameF (cell / 3))).take i)
                rw [List.length_take] at fl
                by_cases c : nameF (cell / 3) i ∈ ps
                · rw [decide_eq_true c]
                  refine ⟨hi, v1, ?_⟩
                  rw [et, List.filter_append, List.filter_cons, if_neg (by simp [c])]
                  show _ = some (HO.lst (List.map V.str (_ ++ [])))
                  rw [List.append_nil]
                  exact hM
                · rw [decide_eq_false c]
                  refine ⟨_, rfl, _, hM, sz_lt (by rw [List.length_map]; omega), hi, smut v1 nD4, ?_⟩
                  rw [upd_same, et, List.filter_append, List.filter_cons, if_pos (by simp [c]), List.map_append]; rfl
              · rintro H7 ⟨_, v1, hM⟩
                rw [List.length_map, vec_length] at hM
                have hM2 : H7 D4 = some (.lst ((freshL (cell / 3) ps).map V.str)) := by
                  rw [hM, List.take_of_length_le (by rw [vec_length]; exact Nat.le_refl _)]; rfl
                have t7 := t6b.trans v1
                have fne := fresh_ne (cell / 3) hlt
                have flen : 0 < (freshL (cell / 3) ps).length := Nat.pos_of_ne_zero fun e => fne (List.length_eq_zero_iff.mp e)
                obtain ⟨lp, q, eq_, hq⟩ := len_ix (xf 2) flen
                have hq2 : (freshL (cell / 3) ps)[q]? = some (freshL (cell / 3) ps)[q] := List.getElem?_eq_getElem hq
                have mq : (freshL (cell / 3) ps)[q] ∈ freshL (cell / 3) ps := List.getElem_mem hq
                obtain ⟨mv, mn⟩ := List.mem_filter.mp mq
                obtain ⟨kk, _, ek⟩ := vec_mem.mp mv
                refine ⟨_, rfl, _, rfl, ax, _, _, _, rfl, rfl, SqL.of (t7 _ _ hx), atI_vec (k := 2) (by decide), _, rfl, D4, _, rfl, .inl (SqL.of hM2), ?_⟩
                rw [List.length_map]
                refine ⟨_, _, rfl, rfl, lp, D4, _, _, V.str (freshL (cell / 3) ps)[q], rfl, rfl, SqL.of hM2, by rw [eq_]; exact atI_nat (by rw [List.getElem?_map, hq2]; rfl), ?_⟩
                refine ⟨_, _, rfl, rfl, ⟨by decide, by decide, by decide⟩, _, _, rfl, rfl, _, rfl, ax, _, _, _, rfl, rfl, SqL.of (t7 _ _ hx), atI_vec (k := 3) (by decide), _, rfl, xf 3, g, rfl, (xb 3).1, (xb 3).2, g0, g1, fun r hr0 => ?_⟩
                have mk := min_ok r hr0 (10 ^ (9 : Int).toNat - 1) (by decide)
                have m9 : (10 ^ (9 : Int).toNat - 1 : Int) = 999999999 := by decide
                have b30 : (10 : Int) ^ 30 = 1000000000000000000000000000000 := by decide
                have lgk : (1 + (if r < 10 ^ (9 : Int).toNat - 1 then r else 10 ^ (9 : Int).toNat - 1)).natAbs.log2 < 1920 := log_ok (by omega) (by omega)
                refine ⟨_, _, rfl, _, _, rfl, rfl, _, rfl, lgk, (by show 3 ≤ sizeLine; decide), fun l nl => ?_⟩
                refine k (.propose (freshL (cell / 3) ps)[q] (1 + (if r < 10 ^ (9 : Int).toNat - 1 then r else 10 ^ (9 : Int).toNat - 1))) l _ (t7.trans (snew nl)) (t7.free nl) upd_same ⟨?_, by omega, by omega⟩ ⟨of_decide_eq_true mn, hlt⟩
                rw [← ek]
                exact nameF_ok _ _
          | false =>
            have pne := hb2 rfl
            have zn := zin pne
            refine ⟨_, rfl, rfl, _, rfl, ?_⟩
            rw [intD]
            refine ite2 (fun cc => ?_) (fun cc => ?_)
            · refine ⟨_, rfl, (by show 2 ≤ sizeLine; decide), fun l nl => ?_⟩
              exact k (.withdraw z) l _ (t6.trans (snew nl)) (t6.free nl) upd_same zok zn
            refine ⟨(by show 4 ≤ sizeLine; decide), fun lv nlv => ?_⟩
            have t8 := t6.trans (snew (o := .lst [.str "want", .str "want", .str "want", .str "unwant"]) nlv)
            have a0 : 0 ≤ xf 3 % 4 := Int.emod_nonneg _ (by decide)
            have a1 : xf 3 % 4 < 4 := Int.emod_lt_of_pos _ (by decide)
            obtain ⟨q, eq_⟩ := Int.eq_ofNat_of_zero_le a0
            have hq4 : q < 4 := by omega
            refine ⟨_, rfl, ax, _, _, _, rfl, rfl, SqL.of (t8 _ _ hx), atI_vec (k := 3) (by decide), _, _, rfl, rfl, (by show (0 : Int) < 4; decide), ?_⟩
            by_cases c3 : q = 3
            · refine ⟨lv, _, _, V.str "unwant", rfl, rfl, SqL.of upd_same, by rw [eq_, c3]; exact atI_nat (j := 3) rfl, _, rfl, _, rfl, (by show 3 ≤ sizeLine; decide), fun l nl => ?_⟩
              exact k (.unwant y z) l _ (t8.trans (snew nl)) (t8.free nl) upd_same ⟨yok, zok⟩ ⟨yn, zn⟩
            · have hw4 : ([V.str "want", V.str "want", V.str "want", V.str "unwant"] : List V)[q]? = some (V.str "want") := by
                match q, hq4, c3 with
                | 0, _, _ => rfl
                | 1, _, _ => rfl
                | 2, _, _ => rfl
                | 3, _, h => exact absurd rfl h
              refine ⟨lv, _, _, V.str "want", rfl, rfl, SqL.of upd_same, by rw [eq_]; exact atI_nat hw4, _, rfl, _, rfl, (by show 3 ≤ sizeLine; decide), fun l nl => ?_⟩
              exact k (.want y z) l _ (t8.trans (snew nl)) (t8.free nl) upd_same ⟨yok, zok⟩ ⟨yn, zn⟩
end
end Ep
set_option Elab.async false
set_option linter.all false
set_option maxRecDepth 100000
set_option maxHeartbeats 8000000
/-! EpLawJ: a row noted. -/
namespace Ep
open PySem PySem.Spec PyProof.Rows L2
open TL (tl numL)
def Cmd.after (s : Ch) : Cmd → Ch
  | .enrol n => s.enrol n | .leave n => s.leave n | .give c => s.give c | .propose z c => s.propose z c | .withdraw z => s.withdraw z | .want n z => s.want n z | .unwant n z => s.unwant n z | _ => s
def Cmd.gift : Cmd → Int
  | .give c => c | _ => 0
def notedP : Cmd → Plan → Plan
  | .leave n, q => q.upd fun l => dropN l n
  | .want n z, q => onPlan z (fun l => addN l n) q
  | .unwant n z, q => onPlan z (fun l => dropN l n) q
  | _, q => q
theorem notedP_name (c : Cmd) (q : Plan) : (notedP c q).name = q.name := by
  cases c <;> first | rfl | exact onPlan_name _ _ _
theorem notedP_cost (c : Cmd) (q : Plan) : (notedP c q).cost = q.cost := by
  cases c <;> first | rfl | exact onPlan_cost _ _ _
/-- the law's own lists -/
structure LawAt (H : Hp) (ap aw : Addr) (ns : List Str) (pl : List Plan) (Wl : List (Addr × Addr)) : Prop where
  hp : H ap = some (.lst (ns.map V.str))
  hw : H aw = some (.lst (Wl.map fun a => V.ref a.1))
  each : Each (fun a (q : Plan) => H a.1 = some (.tup [.str q.name, .int q.cost, .ref a.2]) ∧ H a.2 = some (.lst (q.wish.map V.str))) Wl pl
  nd : (ap :: aw :: Wl.map (·.2)).Nodup
theorem LawAt.mono {H H' : Hp} {ap aw : Addr} {ns : List Str} {pl : List Plan} {Wl : List (Addr × Addr)} (e : Same H H') (h : LawAt H ap aw ns pl Wl) : LawAt H' ap aw ns pl Wl :=
  ⟨e _ _ h.hp, e _ _ h.hw, h.each.mono fun _ _ _ _ z => ⟨e _ _ z.1, e _ _ z.2⟩, h.nd⟩
def fpL (ap aw : Addr) (Wl : List (Addr × Addr)) : List Addr := ap :: aw :: Wl.map (·.2)
def spNoted : Sp := fun vs H Q _ => ∃ (lw ap aw : Addr) (s : Ch) (Wl : List (Addr × Addr)) (c : Cmd), vs = [.ref lw, .ref ap, .ref aw] ∧ H lw = some (.lst ((c.word :: c.rest).map V.str)) ∧ lw ∉ fpL ap aw Wl ∧ LawAt H ap aw s.names s.plans Wl ∧ s.Ok ∧ c.Deed ∧ c.Words ∧ c.Fine s ∧
  ∀ H' Wl', LawAt H' ap aw (c.after s).names (c.after s).plans Wl' → (∀ a o, H a = some o → a ∉ fpL ap aw Wl → H' a = some o) → (∀ x, x ∈ Wl' → x ∈ Wl ∨ (H x.1 = none ∧ H x.2 = none)) → Q (.int c.gift) H'
theorem each_get {H : Hp} {ap aw : Addr} {ns : List Str} {pl : List Plan} {Wl : List (Addr × Addr)} (h : LawAt H ap aw ns pl Wl) {i : Nat} (hi : i < Wl.length) : ∃ q, pl[i]? = some q ∧ H Wl[i].1 = some (.tup [.str q.name, .int q.cost, .ref Wl[i].2]) ∧ H Wl[i].2 = some (.lst (q.wish.map V.str)) := by
  obtain ⟨q, h1, h2, h3⟩ := h.each.left (List.getElem?_eq_getElem hi)
  exact ⟨q, h1, h2, h3⟩
section
variable {P : Program} {w : World} {K : PySem.W.Frag} {mg : Str → Option Value} {base : Heap}
theorem sc_noted : FnScope ["words", "people", "works", "work"] ["words", "people", "works"] (defScope s_law_noted) := ⟨rfl, rfl, rfl, by decide +kernel, rfl, by decide +kernel, by decide +kernel⟩
theorem ok_noted (T : Tx K mg) : Def P w K mg base CX0 1 (He.fAd K d_law_noted.at_) ["words", "people", "works"] spNoted := by
  obtain ⟨fd, F⟩ := T.f_law_noted
  refine ⟨fd, F.ok sc_noted (fun vs H Q E h => ?_) (fun cdv A outer s H vs Q E hr h => ?_), F.bindsN (fun _ _ _ _ _ _ us hl => match us, hl with | [_, _, _], _ => rfl), F.kp⟩
  · obtain ⟨_, _, _, _, _, _, rfl, _⟩ := h
    rfl
  · obtain ⟨lw, ap, aw, s, Wl, c, rfl, hW, nlw, L, O, cd, cw, cf, k⟩ := h
    refine ⟨_, PSs.nox (C8.pss_cut (ps_for PassesOwn.never rfl (pi_list (pv 2)) (pg_name (i := 3) sc_noted.nd rfl (.inl rfl))
        (pss_cons (ps_if (PW.pt (pw_and (pt_cmpR op_eq (pe_ix ix_list (pv 0) pe_int (fun _ _ => rfl)) pe_str (nomark _)) (pw_and1 (pt_cmpR op_in_seq (pe_ix ix_list (pv 0) pe_int (fun _ _ => rfl)) (pe_ix ix_tup (pv 3) pe_int (fun _ _ => rfl)) (by rfl))))) (pss_one (ps_expr (pe_bm PySem.F.plainAttrs_list PySem.F.slot_list_remove PySem.F.type_list_remove (mt_removeD (hu65 hr)) (pe_ix ix_tup (pv 3) pe_int (fun _ _ => rfl)) (pa_cons (pe_ix ix_list (pv 0) pe_int (fun _ _ => rfl)) pa_nil)))) pss_nil)
        (pss_cons (ps_if (PW.pt (pw_and (pt_cmpR op_eq (pe_ix ix_list (pv 0) pe_int (fun _ _ => rfl)) pe_str (nomark _)) (pw_and (pt_cmpR op_eq (pe_ix ix_list (pv 0) pe_int (fun _ _ => rfl)) (pe_ix ix_tup (pv 3) pe_int (fun _ _ => rfl)) (nomark _)) (pw_and1 (pt_cmpR op_notIn_seq (pe_ix ix_list (pv 0) pe_int (fun _ _ => rfl)) (pe_ix ix_tup (pv 3) pe_int (fun _ _ => rfl)) (by rfl)))))) (pss_one (ps_expr (pe_bm PySem.F.plainAttrs_list PySem.F.slot_list_append PySem.F.type_list_append mt_append (pe_ix ix_tup (pv 3) pe_int (fun _ _ => rfl)) (pa_cons (pe_ix ix_list (pv 0) pe_int (fun _ _ => rfl)) pa_nil)))) pss_nil)
        (pss_one (ps_if (PW.pt (pw_and (pt_cmpR op_eq (pe_ix ix_list (pv 0) pe_int (fun _ _ => rfl)) pe_str (nomark _)) (pw_and (pt_cmpR op_eq (pe_ix ix_list (pv 0) pe_int (fun _ _ => rfl)) (pe_ix ix_tup (pv 3) pe_int (fun _ _ => rfl)) (nomark _)) (pw_and1 (pt_cmpR op_in_seq (pe_ix ix_list (pv 0) pe_int (fun _ _ => rfl)) (pe_ix ix_tup (pv 3) pe_int (fun _ _ => rfl)) (by rfl)))))) (pss_one (ps_expr (pe_bm PySem.F.plainAttrs_list PySem.F.slot_list_remove PySem.F.type_list_remove (mt_removeD (hu65 hr)) (pe_ix ix_tup (pv 3) pe_int (fun _ _ => rfl)) (pa_cons (pe_ix ix_list (pv 0) pe_int (fun _ _ => rfl)) pa_nil)))) pss_nil)))))
      (pss_cons (ps_if (pt_cmpR op_eq (pe_ix ix_list (pv 0) pe_int (fun _ _ => rfl)) pe_str (nomark _)) (pss_one (ps_expr (pe_bm PySem.F.plainAttrs_list PySem.F.slot_list_append PySem.F.type_list_append mt_append (pv 1) (pa_cons (pe_ix ix_list (pv 0) pe_int (fun _ _ => rfl)) pa_nil)))) pss_nil)
      (pss_cons (ps_if (pt_cmpR op_eq (pe_ix ix_list (pv 0) pe_int (fun _ _ => rfl)) pe_str (nomark _)) (pss_one (ps_expr (pe_bm PySem.F.plainAttrs_list PySem.F.slot_list_remove PySem.F.type_list_remove (mt_removeD (hu65 hr)) (pv 1) (pa_cons (pe_ix ix_list (pv 0) pe_int (fun _ _ => rfl)) pa_nil)))) pss_nil)
      (pss_cons (ps_if (pt_cmpR op_eq (pe_ix ix_list (pv 0) pe_int (fun _ _ => rfl)) pe_str (nomark _)) (pss_one (ps_expr (pe_bm PySem.F.plainAttrs_list PySem.F.slot_list_append PySem.F.type_list_append mt_append (pv 2) (pa_cons (pe_tup (pa_cons (pe_ix ix_list (pv 0) pe_int (fun _ _ => rfl)) (pa_cons (pe_callTy call_int_str (by rfl) T.z_int (by decide +kernel) (pa_cons (pe_ix ix_list (pv 0) pe_int (fun _ _ => rfl)) pa_nil)) (pa_cons (pe_lst pa_nil) pa_nil)))) pa_nil)))) pss_nil)
      (pss_cons (ps_if (pt_cmpR op_eq (pe_ix ix_list (pv 0) pe_int (fun _ _ => rfl)) pe_str (nomark _)) (pss_one (ps_expr (pe_bm PySem.F.plainAttrs_list PySem.F.slot_list_pop PySem.F.type_list_pop mt_popAt (pv 2) (pa_cons (pe_bm PySem.F.plainAttrs_list PySem.F.slot_list_index PySem.F.type_list_index mt_index (pe_lc (own := [("work", 3)]) (g := gName 3) (tt := tYes) (te := tOp (rIxT K) (tVar 3) (tC (.int 0))) rfl sc_noted.nd (pi_list (pv 2)) (blkOk_by (N := ["words", "people", "works", "work"]) (sc := defScope s_law_noted) (by decide +kernel))
          (fun _ _ _ _ _ => pg_name (i := 3) sc_noted.nd rfl (Or.inl rfl)) (fun _ _ _ _ _ => pts_nil) (fun _ _ _ _ _ => pe_ix ix_tup (pv 3) pe_int (fun _ _ => rfl))) (pa_cons (pe_ix ix_list (pv 0) pe_int (fun _ _ => rfl)) pa_nil)) pa_nil)))) pss_nil)
      (pss_cons (ps_if (pt_cmpR op_eq (pe_ix ix_list (pv 0) pe_int (fun _ _ => rfl)) pe_str (nomark _)) (pss_one (ps_ret (pe_callTy call_int_str (by rfl) T.z_int (by decide +kernel) (pa_cons (pe_ix ix_list (pv 0) pe_int (fun _ _ => rfl)) pa_nil)))) pss_nil)
      (pss_one (ps_ret pe_int)))))))), ?_⟩
    have nd1 := List.nodup_cons.mp L.nd
    have nd2 := List.nodup_cons.mp nd1.2
    have npw : ap ≠ aw := fun e => nd1.1 (by rw [e]; exact List.mem_cons_self ..)
    have npl : ∀ x, x ∈ Wl → ap ≠ x.2 := fun x hx e => nd1.1 (List.mem_cons_of_mem _ (by rw [e]; exact List.mem_map.mpr ⟨x, hx, rfl⟩))
    have nwl : ∀ x, x ∈ Wl → aw ≠ x.2 := fun x hx e => nd2.1 (by rw [e]; exact List.mem_map.mpr ⟨x, hx, rfl⟩)
    have lwp : lw ≠ ap := fun e => nlw (by rw [e]; exact List.mem_cons_self ..)
    have lww : lw ≠ aw := fun e => nlw (by rw [e]; exact List.mem_cons_of_mem _ (List.mem_cons_self ..))
    have lwl : lw ∉ Wl.map (·.2) := fun m => nlw (List.mem_cons_of_mem _ (List.mem_cons_of_mem _ m))
    have len : Wl.length = s.plans.length := L.each.1
    refine ⟨fun σ H' => (∃ v, σ = [some (.ref lw), some (.ref ap), some (.ref aw), v]) ∧ (∀ a o, H a = some o → a ∉ Wl.map (·.2) → H' a = some o) ∧ LawAt H' ap aw s.names (s.plans.map (notedP c)) Wl, ?_, ?_⟩
    · refine ⟨_, rfl, aw, rfl, ⟨_, SqL.of L.hw⟩, ?_⟩
      refine for_it (walk_list (K := K) (a := aw) (xs := Wl.map fun a => V.ref a.1)) (fun i σ H' => i ≤ Wl.length ∧ (∃ v, σ = [some (.ref lw), some (.ref ap), some (.ref aw), v]) ∧ (∀ a o, H a = some o → a ∉ Wl.map (·.2) → H' a = some o) ∧
        (∀ (j : Nat) a q, Wl[j]? = some a → s.plans[j]? = some q → H' a.2 = some (.lst ((if j < i then notedP c q else q).wish.map V.str)))) ⟨Nat.zero_le _, ⟨none, rfl⟩, fun a o h _ => h, fun j a q ha hq => (L.each.2 j a q ha hq).2⟩ ?_ ?_ ?_
      · rintro i σ H' _ ⟨_, _, e1, _⟩
        exact SqL.of (e1 _ _ L.hw nd2.1)
      · rintro i x σ H1 H2 hi ⟨_, ⟨v, rfl⟩, e1, e2⟩ ⟨rfl, hx⟩
        rw [List.length_map] at hi
        have hx2 : (Wl.map fun a => V.ref a.1)[i]? = some x := hx
        rw [List.getElem?_map, List.getElem?_eq_getElem hi] at hx2
        obtain rfl : x = V.ref Wl[i].1 := (Option.some.inj hx2).symm
        obtain ⟨q, hq, q1, q2⟩ := each_get L hi
        have mq : q ∈ s.plans := List.mem_of_getElem? hq
        have mw : Wl[i] ∈ Wl := List.getElem_mem hi
        have tn : Wl[i].1 ∉ Wl.map (·.2) := fun m => by
          obtain ⟨y, hy, ey⟩ := List.mem_map.mp m
          obtain ⟨j, hj, ej⟩ := List.mem_iff_getElem.mp hy
          obtain ⟨q', _, _, z2⟩ := each_get L hj
          rw [ej, ey, q1] at z2
          cases z2
        have ht := e1 _ _ q1 tn
        have hl : H2 Wl[i].2 = some (.lst (q.wish.map V.str)) := by
          have := e2 i Wl[i] q (List.getElem?_eq_getElem hi) hq
          rw [if_neg (by omega)] at this
          exact this
        have WW := e1 _ _ hW lwl
        have wq := O.wish q mq
        have wok : ∀ y, y ∈ q.wish → NameOk y := fun y hy => O.pok y (wq.2 y hy)
        have w6 : q.wish.length ≤ 6 := by
          have := pigeon wq.1 wq.2
          have := s.nlen
          have := O.p6
          omega
        have stay : ∀ (q' : Plan), notedP c q = q' → q'.wish = q.wish → i + 1 ≤ Wl.length ∧ (∃ v, [some (V.ref lw), some (.ref ap), some (.ref aw), some (.ref Wl[i].1)] = [some (.ref lw), some (.ref ap), some (.ref aw), v]) ∧ (∀ a o, H a = some o → a ∉ Wl.map (·.2) → H2 a = some o) ∧ (∀ (j : Nat) a q, Wl[j]? = some a → s.plans[j]? = some q → H2 a.2 = some (.lst ((if j < i + 1 then notedP c q else q).wish.map V.str))) := fun q' en ew => by
          refine ⟨hi, ⟨_, rfl⟩, e1, fun j a p ha hp => ?_⟩
          by_cases cj : j = i
          · subst cj
            rw [hq] at hp
            obtain rfl := Option.some.inj hp
            rw [if_pos (by omega), en, ew]
            rw [List.getElem?_eq_getElem hi] at ha
            obtain rfl := Option.some.inj ha
            exact hl
          · have := e2 j a p ha hp
            by_cases cj2 : j < i
            · rw [if_pos cj2] at this
              rw [if_pos (by omega)]
              exact this
            · rw [if_neg cj2] at this
              rw [if_neg (by omega)]
              exact this
        have turn : ∀ (ws : List Str), (notedP c q).wish = ws → i + 1 ≤ Wl.length ∧ (∃ v, [some (V.ref lw), some (.ref ap), some (.ref aw), some (.ref Wl[i].1)] = [some (.ref lw), some (.ref ap), some (.ref aw), v]) ∧ (∀ a o, H a = some o → a ∉ Wl.map (·.2) → (upd H2 Wl[i].2 (.lst (ws.map V.str))) a = some o) ∧ (∀ (j : Nat) a q, Wl[j]? = some a → s.plans[j]? = some q → (upd H2 Wl[i].2 (.lst (ws.map V.str))) a.2 = some (.lst ((if j < i + 1 then notedP c q else q).wish.map V.str))) := fun ws ew => by
          refine ⟨hi, ⟨_, rfl⟩, fun a o h n => ?_, fun j a p ha hp => ?_⟩
          · rw [upd_ne fun e => n (by rw [e]; exact List.mem_map.mpr ⟨_, mw, rfl⟩)]
            exact e1 a o h n
          by_cases cj : j = i
          · subst cj
            rw [hq] at hp
            obtain rfl := Option.some.inj hp
            rw [List.getElem?_eq_getElem hi] at ha
            obtain rfl := Option.some.inj ha
            rw [if_pos (by omega), ew, upd_same]
          · have na : a.2 ≠ Wl[i].2 := fun e => by
              have a1 : (Wl.map (·.2))[j]? = some Wl[i].2 := by rw [List.getElem?_map, ha, ← e]; rfl
              have a2 : (Wl.map (·.2))[i]? = some Wl[i].2 := by rw [List.getElem?_map, List.getElem?_eq_getElem hi]; rfl
              exact cj (nd_ix nd2.2 a1 a2)
            rw [upd_ne na]
            have := e2 j a p ha hp
            by_cases cj2 : j < i
            · rw [if_pos cj2] at this
              rw [if_pos (by omega)]
              exact this
            · rw [if_neg cj2] at this
              rw [if_neg (by omega)]
              exact this
        cases c with
        | enrol n =>
          refine ⟨_, rfl, lw, _, _, _, rfl, rfl, SqL.of WW, atI_nat (j := 0) rfl, rfl, _, rfl, ?_⟩
          rw [wordF (show (Cmd.enrol n).word ≠ "leave" by rw [Cmd.word]; decide)]
          refine ⟨_, rfl, lw, _, _, _, rfl, rfl, SqL.of WW, atI_nat (j := 0) rfl, rfl, _, rfl, ?_⟩
          rw [wordF (show (Cmd.enrol n).word ≠ "want" by rw [Cmd.word]; decide)]
          refine ⟨_, rfl, lw, _, _, _, rfl, rfl, SqL.of WW, atI_nat (j := 0) rfl, rfl, _, rfl, ?_⟩
          rw [wordF (show (Cmd.enrol n).word ≠ "unwant" by rw [Cmd.word]; decide)]
          exact stay _ rfl rfl
        | leave n =>
          refine ⟨_, rfl, lw, _, _, _, rfl, rfl, SqL.of WW, atI_nat (j := 0) rfl, rfl, _, rfl, ?_⟩
          rw [show decide (V.str (Cmd.leave n).word = V.str "leave") = true from decide_eq_true rfl]
          refine ⟨_, rfl, lw, _, _, _, rfl, rfl, SqL.of WW, atI_nat (j := 1) rfl, _, rfl, Wl[i].1, _, _, _, rfl, rfl, SqT.of ht, atI_nat (j := 2) rfl, Wl[i].2, _, rfl, .inl (SqL.of hl), rfl, flat_str _, _, rfl, ?_⟩
          rw [inV_str]
          by_cases ci : n ∈ q.wish
          · rw [decide_eq_true ci]
            refine ⟨_, rfl, Wl[i].1, _, _, _, rfl, rfl, SqT.of ht, atI_nat (j := 2) rfl, .inl ⟨rfl, _, SqL.of hl⟩, _, rfl, lw, _, _, _, rfl, rfl, SqL.of WW, atI_nat (j := 1) rfl, ?_⟩
            dsimp only [tNil]
            refine rem_str hl wok wq.1 ci ?_
            have WW0 := WW
            have WW : (upd H2 Wl[i].2 (.lst ((q.wish.filter fun m => decide (m ≠ n)).map V.str))) lw = _ := (upd_ne fun e => lwl (by rw [e]; exact List.mem_map.mpr ⟨_, mw, rfl⟩)).trans WW0
            refine ⟨_, rfl, lw, _, _, _, rfl, rfl, SqL.of WW, atI_nat (j := 0) rfl, rfl, _, rfl, ?_⟩
            rw [wordF (show (Cmd.leave n).word ≠ "want" by rw [Cmd.word]; decide)]
            refine ⟨_, rfl, lw, _, _, _, rfl, rfl, SqL.of WW, atI_nat (j := 0) rfl, rfl, _, rfl, ?_⟩
            rw [wordF (show (Cmd.leave n).word ≠ "unwant" by rw [Cmd.word]; decide)]
            exact turn _ rfl
          · rw [decide_eq_false ci]
            refine ⟨_, rfl, lw, _, _, _, rfl, rfl, SqL.of WW, atI_nat (j := 0) rfl, rfl, _, rfl, ?_⟩
            rw [wordF (show (Cmd.leave n).word ≠ "want" by rw [Cmd.word]; decide)]
            refine ⟨_, rfl, lw, _, _, _, rfl, rfl, SqL.of WW, atI_nat (j := 0) rfl, rfl, _, rfl, ?_⟩
            rw [wordF (show (Cmd.leave n).word ≠ "unwant" by rw [Cmd.word]; decide)]
            refine stay _ rfl ?_
            exact filter_all fun m hm => decide_eq_true fun e => ci (e ▸ hm)
        | give n =>
          refine ⟨_, rfl, lw, _, _, _, rfl, rfl, SqL.of WW, atI_nat (j := 0) rfl, rfl, _, rfl, ?_⟩
          rw [wordF (show (Cmd.give n).word ≠ "leave" by rw [Cmd.word]; decide)]
          refine ⟨_, rfl, lw, _, _, _, rfl, rfl, SqL.of WW, atI_nat (j := 0) rfl, rfl, _, rfl, ?_⟩
          rw [wordF (show (Cmd.give n).word ≠ "want" by rw [Cmd.word]; decide)]
          refine ⟨_, rfl, lw, _, _, _, rfl, rfl, SqL.of WW, atI_nat (j := 0) rfl, rfl, _, rfl, ?_⟩
          rw [wordF (show (Cmd.give n).word ≠ "unwant" by rw [Cmd.word]; decide)]
          exact stay _ rfl rfl
        | propose z n =>
          refine ⟨_, rfl, lw, _, _, _, rfl, rfl, SqL.of WW, atI_nat (j := 0) rfl, rfl, _, rfl, ?_⟩
          rw [wordF (show (Cmd.propose z n).word ≠ "leave" by rw [Cmd.word]; decide)]
          refine ⟨_, rfl, lw, _, _, _, rfl, rfl, SqL.of WW, atI_nat (j := 0) rfl, rfl, _, rfl, ?_⟩
          rw [wordF (show (Cmd.propose z n).word ≠ "want" by rw [Cmd.word]; decide)]
          refine ⟨_, rfl, lw, _, _, _, rfl, rfl, SqL.of WW, atI_nat (j := 0) rfl, rfl, _, rfl, ?_⟩
          rw [wordF (show (Cmd.propose z n).word ≠ "unwant" by rw [Cmd.word]; decide)]
          exact stay _ rfl rfl
        | withdraw z =>
          refine ⟨_, rfl, lw, _, _, _, rfl, rfl, SqL.of WW, atI_nat (j := 0) rfl, rfl, _, rfl, ?_⟩
          rw [wordF (show (Cmd.withdraw z).word ≠ "leave" by rw [Cmd.word]; decide)]
          refine ⟨_, rfl, lw, _, _, _, rfl, rfl, SqL.of WW, atI_nat (j := 0) rfl, rfl, _, rfl, ?_⟩
          rw [wordF (show (Cmd.withdraw z).word ≠ "want" by rw [Cmd.word]; decide)]
          refine ⟨_, rfl, lw, _, _, _, rfl, rfl, SqL.of WW, atI_nat (j := 0) rfl, rfl, _, rfl, ?_⟩
          rw [wordF (show (Cmd.withdraw z).word ≠ "unwant" by rw [Cmd.word]; decide)]
          exact stay _ rfl rfl
        | want n z =>
          refine ⟨_, rfl, lw, _, _, _, rfl, rfl, SqL.of WW, atI_nat (j := 0) rfl, rfl, _, rfl, ?_⟩
          rw [wordF (show (Cmd.want n z).word ≠ "leave" by rw [Cmd.word]; decide)]
          refine ⟨_, rfl, lw, _, _, _, rfl, rfl, SqL.of WW, atI_nat (j := 0) rfl, rfl, _, rfl, ?_⟩
          rw [show decide (V.str (Cmd.want n z).word = V.str "want") = true from decide_eq_true rfl]
          refine ⟨_, rfl, lw, _, _, _, rfl, rfl, SqL.of WW, atI_nat (j := 2) rfl, _, rfl, Wl[i].1, _, _, _, rfl, rfl, SqT.of ht, atI_nat (j := 0) rfl, rfl, _, rfl, ?_⟩
          by_cases cz : q.name = z
          · rw [decide_eq_true (show V.str z = V.str q.name by rw [cz])]
            refine ⟨_, rfl, lw, _, _, _, rfl, rfl, SqL.of WW, atI_nat (j := 1) rfl, _, rfl, Wl[i].1, _, _, _, rfl, rfl, SqT.of ht, atI_nat (j := 2) rfl, Wl[i].2, _, rfl, .inl (SqL.of hl), rfl, flat_str _, _, rfl, ?_⟩
            show (if (!inV (.str n) (q.wish.map V.str)) = true then _ else _)
            rw [inV_str]
            by_cases ci : n ∈ q.wish
            · rw [decide_eq_true ci]
              refine ⟨_, rfl, lw, _, _, _, rfl, rfl, SqL.of WW, atI_nat (j := 0) rfl, rfl, _, rfl, ?_⟩
              rw [wordF (show (Cmd.want n z).word ≠ "unwant" by rw [Cmd.word]; decide)]
              refine stay _ rfl ?_
              show (onPlan z _ q).wish = _
              unfold onPlan
              rw [if_pos cz]
              show addN q.wish n = _
              unfold addN
              rw [if_pos ci]
            · rw [decide_eq_false ci]
              refine ⟨_, rfl, Wl[i].1, _, _, _, rfl, rfl, SqT.of ht, atI_nat (j := 2) rfl, .inl ⟨rfl, _, SqL.of hl⟩, _, rfl, lw, _, _, _, rfl, rfl, SqL.of WW, atI_nat (j := 1) rfl, Wl[i].2, _, _, rfl, rfl, hl, sz_lt (by rw [List.length_map]; omega), ?_⟩
              have WW0 := WW
              have el : q.wish.map V.str ++ [V.str n] = (q.wish ++ [n]).map V.str := by rw [List.map_append]; rfl
              rw [el]
              have WW : (upd H2 Wl[i].2 (.lst ((q.wish ++ [n]).map V.str))) lw = _ := (upd_ne fun e => lwl (by rw [e]; exact List.mem_map.mpr ⟨_, mw, rfl⟩)).trans WW0
              refine ⟨_, rfl, lw, _, _, _, rfl, rfl, SqL.of WW, atI_nat (j := 0) rfl, rfl, _, rfl, ?_⟩
              rw [wordF (show (Cmd.want n z).word ≠ "unwant" by rw [Cmd.word]; decide)]
              refine turn _ ?_
              show (onPlan z _ q).wish = _
              unfold onPlan
              rw [if_pos cz]
              show addN q.wish n = _
              unfold addN
              rw [if_neg ci]
          · rw [wordF fun e => cz e.symm]
            refine ⟨_, rfl, lw, _, _, _, rfl, rfl, SqL.of WW, atI_nat (j := 0) rfl, rfl, _, rfl, ?_⟩
            rw [wordF (show (Cmd.want n z).word ≠ "unwant" by rw [Cmd.word]; decide)]
            refine stay _ rfl ?_
            show (onPlan z _ q).wish = _
            unfold onPlan
            rw [if_neg cz]
        | unwant n z =>
          refine ⟨_, rfl, lw, _, _, _, rfl, rfl, SqL.of WW, atI_nat (j := 0) rfl, rfl, _, rfl, ?_⟩
          rw [wordF (show (Cmd.unwant n z).word ≠ "leave" by rw [Cmd.word]; decide)]
          refine ⟨_, rfl, lw, _, _, _, rfl, rfl, SqL.of WW, atI_nat (j := 0) rfl, rfl, _, rfl, ?_⟩
          rw [wordF (show (Cmd.unwant n z).word ≠ "want" by rw [Cmd.word]; decide)]
          refine ⟨_, rfl, lw, _, _, _, rfl, rfl, SqL.of WW, atI_nat (j := 0) rfl, rfl, _, rfl, ?_⟩
          rw [show decide (V.str (Cmd.unwant n z).word = V.str "unwant") = true from decide_eq_true rfl]
          refine ⟨_, rfl, lw, _, _, _, rfl, rfl, SqL.of WW, atI_nat (j := 2) rfl, _, rfl, Wl[i].1, _, _, _, rfl, rfl, SqT.of ht, atI_nat (j := 0) rfl, rfl, _, rfl, ?_⟩
          by_cases cz : q.name = z
          · rw [decide_eq_true (show V.str z = V.str q.name by rw [cz])]
            refine ⟨_, rfl, lw, _, _, _, rfl, rfl, SqL.of WW, atI_nat (j := 1) rfl, _, rfl, Wl[i].1, _, _, _, rfl, rfl, SqT.of ht, atI_nat (j := 2) rfl, Wl[i].2, _, rfl, .inl (SqL.of hl), rfl, flat_str _, _, rfl, ?_⟩
            rw [inV_str]
            by_cases ci : n ∈ q.wish
            · rw [decide_eq_true ci]
              refine ⟨_, rfl, Wl[i].1, _, _, _, rfl, rfl, SqT.of ht, atI_nat (j := 2) rfl, .inl ⟨rfl, _, SqL.of hl⟩, _, rfl, lw, _, _, _, rfl, rfl, SqL.of WW, atI_nat (j := 1) rfl, ?_⟩
              dsimp only [tNil]
              refine rem_str hl wok wq.1 ci ?_
              refine turn _ ?_
              show (onPlan z _ q).wish = _
              unfold onPlan
              rw [if_pos cz]
              rfl
            · rw [decide_eq_false ci]
              refine stay _ rfl ?_
              show (onPlan z _ q).wish = _
              unfold onPlan
              rw [if_pos cz]
              exact filter_all fun m hm => decide_eq_true fun e => ci (e ▸ hm)
          · rw [wordF fun e => cz e.symm]
            refine stay _ rfl ?_
            show (onPlan z _ q).wish = _
            unfold onPlan
            rw [if_neg cz]
        | _ => exact cd.elim
      · rintro σ H1 ⟨_, ⟨v, rfl⟩, e1, e2⟩
        rw [List.length_map] at e2
        refine ⟨⟨v, rfl⟩, e1, e1 _ _ L.hp fun m => nd1.1 (List.mem_cons_of_mem _ m), e1 _ _ L.hw nd2.1, ⟨by rw [List.length_map]; exact len, fun i a q ha hq => ?_⟩, L.nd⟩
        rw [List.getElem?_map] at hq
        cases e : s.plans[i]? with
        | none =>
          rw [e] at hq
          cases hq
        | some q0 =>
          rw [e] at hq
          obtain rfl : notedP c q0 = q := Option.some.inj hq
          have hi := (List.getElem?_eq_some_iff.mp ha).1
          obtain ⟨q1, h1, h2, h3⟩ := each_get L hi
          have ea : Wl[i] = a := by
            rw [List.getElem?_eq_getElem hi] at ha
            exact Option.some.inj ha
          rw [ea] at h2 h3
          rw [e] at h1
          obtain rfl := Option.some.inj h1
          have tn : a.1 ∉ Wl.map (·.2) := fun m => by
            obtain ⟨y, hy, ey⟩ := List.mem_map.mp m
            obtain ⟨j, hj, ej⟩ := List.mem_iff_getElem.mp hy
            obtain ⟨q', _, _, z2⟩ := each_get L hj
            rw [ej, ey, h2] at z2
            cases z2
          have hl := e2 i a q0 ha e
          rw [if_pos hi] at hl
          exact ⟨by rw [notedP_name, notedP_cost]; exact e1 _ _ h2 tn, hl⟩
    · rintro σ H1 ⟨⟨v, rfl⟩, e1, L1⟩
      have WW := e1 _ _ hW lwl
      have fr : ∀ a o, H a = some o → a ∉ fpL ap aw Wl → H1 a = some o := fun a o h n => e1 a o h fun m => n (List.mem_cons_of_mem _ (List.mem_cons_of_mem _ m))
      have keep : ∀ x, x ∈ Wl → x ∈ Wl ∨ (H x.1 = none ∧ H x.2 = none) := fun x hx => .inl hx
      cases c with
      | enrol n =>
        refine ⟨_, rfl, lw, _, _, _, rfl, rfl, SqL.of WW, atI_nat (j := 0) rfl, rfl, _, rfl, ?_⟩
        rw [show decide (V.str (Cmd.enrol n).word = V.str "enrol") = true from decide_eq_true rfl]
        refine ⟨_, rfl, .inl ⟨rfl, _, SqL.of L1.hp⟩, _, rfl, lw, _, _, _, rfl, rfl, SqL.of WW, atI_nat (j := 1) rfl, ap, _, _, rfl, rfl, L1.hp, sz_lt (by rw [List.length_map, s.nlen]; have := O.p6; omega), ?_⟩
        have WW0 := WW
        have WW : (upd H1 ap (.lst (s.names.map V.str ++ [.str n]))) lw = _ := (upd_ne lwp).trans WW0
        refine ⟨_, rfl, lw, _, _, _, rfl, rfl, SqL.of WW, atI_nat (j := 0) rfl, rfl, _, rfl, ?_⟩
        rw [wordF (show (Cmd.enrol n).word ≠ "leave" by rw [Cmd.word]; decide)]
        refine ⟨_, rfl, lw, _, _, _, rfl, rfl, SqL.of WW, atI_nat (j := 0) rfl, rfl, _, rfl, ?_⟩
        rw [wordF (show (Cmd.enrol n).word ≠ "propose" by rw [Cmd.word]; decide)]
        refine ⟨_, rfl, lw, _, _, _, rfl, rfl, SqL.of WW, atI_nat (j := 0) rfl, rfl, _, rfl, ?_⟩
        rw [wordF (show (Cmd.enrol n).word ≠ "withdraw" by rw [Cmd.word]; decide)]
        refine ⟨_, rfl, lw, _, _, _, rfl, rfl, SqL.of WW, atI_nat (j := 0) rfl, rfl, _, rfl, ?_⟩
        rw [wordF (show (Cmd.enrol n).word ≠ "give" by rw [Cmd.word]; decide)]
        refine k _ Wl ⟨?_, ?_, ?_, L.nd⟩ (fun a o h m => ?_) keep
        · rw [upd_same]
          show _ = some (HO.lst ((s.enrol n).names.map V.str))
          rw [s.enrol_names, List.map_append]; rfl
        · rw [upd_ne npw.symm]
          exact L1.hw
        · refine Each.mono (R := fun a (q : Plan) => H1 a.1 = some (.tup [.str q.name, .int q.cost, .ref a.2]) ∧ H1 a.2 = some (.lst (q.wish.map V.str))) ?_ fun a b ha _ z => ⟨?_, ?_⟩
          · have := L1.each
            rw [show s.plans.map (notedP (.enrol n)) = s.plans from List.map_id _] at this
            exact this
          · rw [upd_ne (ne_of z.1 L1.hp (by intro z; cases z))]
            exact z.1
          · rw [upd_ne (npl a ha).symm]
            exact z.2
        · rw [upd_ne fun e => m (by rw [e]; exact List.mem_cons_self ..)]
          exact fr a o h m
      | leave n =>
        refine ⟨_, rfl, lw, _, _, _, rfl, rfl, SqL.of WW, atI_nat (j := 0) rfl, rfl, _, rfl, ?_⟩
        rw [wordF (show (Cmd.leave n).word ≠ "enrol" by rw [Cmd.word]; decide)]
        refine ⟨_, rfl, lw, _, _, _, rfl, rfl, SqL.of WW, atI_nat (j := 0) rfl, rfl, _, rfl, ?_⟩
        rw [show decide (V.str (Cmd.leave n).word = V.str "leave") = true from decide_eq_true rfl]
        refine ⟨_, rfl, .inl ⟨rfl, _, SqL.of L1.hp⟩, _, rfl, lw, _, _, _, rfl, rfl, SqL.of WW, atI_nat (j := 1) rfl, ?_⟩
        dsimp only [tNil]
        refine rem_str L1.hp O.pok O.pnd cf ?_
        have WW0 := WW
        have WW : (upd H1 ap (.lst ((s.names.filter fun m => decide (m ≠ n)).map V.str))) lw = _ := (upd_ne lwp).trans WW0
        refine ⟨_, rfl, lw, _, _, _, rfl, rfl, SqL.of WW, atI_nat (j := 0) rfl, rfl, _, rfl, ?_⟩
        rw [wordF (show (Cmd.leave n).word ≠ "propose" by rw [Cmd.word]; decide)]
        refine ⟨_, rfl, lw, _, _, _, rfl, rfl, SqL.of WW, atI_nat (j := 0) rfl, rfl, _, rfl, ?_⟩
        rw [wordF (show (Cmd.leave n).word ≠ "withdraw" by rw [Cmd.word]; decide)]
        refine ⟨_, rfl, lw, _, _, _, rfl, rfl, SqL.of WW, atI_nat (j := 0) rfl, rfl, _, rfl, ?_⟩
        rw [wordF (show (Cmd.leave n).word ≠ "give" by rw [Cmd.word]; decide)]
        refine k _ Wl ⟨?_, ?_, ?_, L.nd⟩ (fun a o h m => ?_) keep
        · rw [upd_same]
          show _ = some (HO.lst ((s.leave n).names.map V.str))
          rw [s.leave_names]
        · rw [upd_ne npw.symm]
          exact L1.hw
        · refine Each.mono (R := fun a (q : Plan) => H1 a.1 = some (.tup [.str q.name, .int q.cost, .ref a.2]) ∧ H1 a.2 = some (.lst (q.wish.map V.str))) L1.each fun a b ha _ z => ⟨?_, ?_⟩
          · rw [upd_ne (ne_of z.1 L1.hp (by intro z; cases z))]
            exact z.1
          · rw [upd_ne (npl a ha).symm]
            exact z.2
        · rw [upd_ne fun e => m (by rw [e]; exact List.mem_cons_self ..)]
          exact fr a o h m
      | give n =>
        refine ⟨_, rfl, lw, _, _, _, rfl, rfl, SqL.of WW, atI_nat (j := 0) rfl, rfl, _, rfl, ?_⟩
        rw [wordF (show (Cmd.give n).word ≠ "enrol" by rw [Cmd.word]; decide)]
        refine ⟨_, rfl, lw, _, _, _, rfl, rfl, SqL.of WW, atI_nat (j := 0) rfl, rfl, _, rfl, ?_⟩
        rw [wordF (show (Cmd.give n).word ≠ "leave" by rw [Cmd.word]; decide)]
        refine ⟨_, rfl, lw, _, _, _, rfl, rfl, SqL.of WW, atI_nat (j := 0) rfl, rfl, _, rfl, ?_⟩
        rw [wordF (show (Cmd.give n).word ≠ "propose" by rw [Cmd.word]; decide)]
        refine ⟨_, rfl, lw, _, _, _, rfl, rfl, SqL.of WW, atI_nat (j := 0) rfl, rfl, _, rfl, ?_⟩
        rw [wordF (show (Cmd.give n).word ≠ "withdraw" by rw [Cmd.word]; decide)]
        refine ⟨_, rfl, lw, _, _, _, rfl, rfl, SqL.of WW, atI_nat (j := 0) rfl, rfl, _, rfl, ?_⟩
        rw [show decide (V.str (Cmd.give n).word = V.str "give") = true from decide_eq_true rfl]
        have n0 : 0 ≤ n := cw.1
        have n30 : n < 10 ^ 30 := by
          have := cw.2
          have : (10 : Int) ^ 30 = 1000000000000000000000000000000 := by decide
          omega
        have ni := num_int n0 n30
        refine ⟨_, rfl, lw, _, _, _, rfl, rfl, SqL.of WW, atI_nat (j := 1) rfl, numS n, n, rfl, ni.1, ni.2, ?_⟩
        refine k _ Wl ?_ fr keep
        show LawAt H1 ap aw (s.give n).names (s.give n).plans Wl
        rw [s.give_names, s.give_plans]
        rw [show s.plans.map (notedP (.give n)) = s.plans from List.map_id _] at L1
        exact L1
      | propose z n =>
        refine ⟨_, rfl, lw, _, _, _, rfl, rfl, SqL.of WW, atI_nat (j := 0) rfl, rfl, _, rfl, ?_⟩
        rw [wordF (show (Cmd.propose z n).word ≠ "enrol" by rw [Cmd.word]; decide)]
        refine ⟨_, rfl, lw, _, _, _, rfl, rfl, SqL.of WW, atI_nat (j := 0) rfl, rfl, _, rfl, ?_⟩
        rw [wordF (show (Cmd.propose z n).word ≠ "leave" by rw [Cmd.word]; decide)]
        refine ⟨_, rfl, lw, _, _, _, rfl, rfl, SqL.of WW, atI_nat (j := 0) rfl, rfl, _, rfl, ?_⟩
        rw [show decide (V.str (Cmd.propose z n).word = V.str "propose") = true from decide_eq_true rfl]
        have n0 : 0 ≤ n := by have := cw.2.1; omega
        have n30 : n < 10 ^ 30 := by
          have := cw.2.2
          have : (10 : Int) ^ 30 = 1000000000000000000000000000000 := by decide
          omega
        have ni := num_int n0 n30
        refine ⟨_, rfl, .inl ⟨rfl, _, SqL.of L1.hw⟩, _, rfl, lw, _, _, _, rfl, rfl, SqL.of WW, atI_nat (j := 1) rfl, _, rfl, lw, _, _, _, rfl, rfl, SqL.of WW, atI_nat (j := 2) rfl, numS n, n, rfl, ni.1, ni.2, Nat.zero_le _, fun ln nln => ?_⟩
        have s1 := snew (o := .lst []) nln
        refine ⟨(by show 3 ≤ sizeLine; decide), fun tn ntn => ?_⟩
        have s2 := snew (o := .tup [.str z, .int n, .ref ln]) ntn
        have sA := s1.trans s2
        refine ⟨aw, _, _, rfl, rfl, sA _ _ L1.hw, sz_lt (by rw [List.length_map, len]; have := O.w6; omega), ?_⟩
        have WW0 := WW
        have WW : (upd (upd (upd H1 ln (.lst [])) tn (.tup [.str z, .int n, .ref ln])) aw (.lst (Wl.map (fun a => V.ref a.1) ++ [.ref tn]))) lw = _ := (upd_ne lww).trans (sA _ _ WW0)
        refine ⟨_, rfl, lw, _, _, _, rfl, rfl, SqL.of WW, atI_nat (j := 0) rfl, rfl, _, rfl, ?_⟩
        rw [wordF (show (Cmd.propose z n).word ≠ "withdraw" by rw [Cmd.word]; decide)]
        refine ⟨_, rfl, lw, _, _, _, rfl, rfl, SqL.of WW, atI_nat (j := 0) rfl, rfl, _, rfl, ?_⟩
        rw [wordF (show (Cmd.propose z n).word ≠ "give" by rw [Cmd.word]; decide)]
        have nln1 : H1 ln = none := nln
        have lnw : ln ≠ aw := (ne_of_none L1.hw nln).symm
        have lnp : ln ≠ ap := (ne_of_none L1.hp nln).symm
        have tnw : tn ≠ aw := (ne_of_none (s1 _ _ L1.hw) ntn).symm
        have Hnone : ∀ {b : Addr}, H1 b = none → H b = none := fun {b} h => by
          cases e : H b with
          | none => rfl
          | some o =>
            by_cases m : b ∈ Wl.map (·.2)
            · obtain ⟨y, hy, ey⟩ := List.mem_map.mp m
              obtain ⟨j, hj, ej⟩ := List.mem_iff_getElem.mp hy
              obtain ⟨q', _, _, z2⟩ := each_get L1 hj
              rw [ej, ey, h] at z2
              cases z2
            · rw [e1 b o e m] at h
              cases h
        have fH : H ln = none ∧ H tn = none := ⟨Hnone nln, Hnone (s1.free ntn)⟩
        have lnl : ∀ x, x ∈ Wl → x.2 ≠ ln := fun x hx e => by
          obtain ⟨j, hj, ej⟩ := List.mem_iff_getElem.mp hx
          obtain ⟨q', _, _, z2⟩ := each_get L1 hj
          rw [ej, e, nln] at z2
          cases z2
        refine k _ (Wl ++ [(tn, ln)]) ⟨?_, ?_, ?_, ?_⟩ (fun a o h m => ?_) (fun x hx => ?_)
        · rw [upd_ne npw]
          exact sA _ _ L1.hp
        · rw [upd_same, List.map_append]; rfl
        · show Each _ _ (s.plans ++ [(⟨z, n, []⟩ : Plan)])
          refine Each.snoc (Each.mono (R := fun a (q : Plan) => H1 a.1 = some (.tup [.str q.name, .int q.cost, .ref a.2]) ∧ H1 a.2 = some (.lst (q.wish.map V.str))) ?_ fun a b ha _ z => ⟨?_, ?_⟩) ⟨?_, ?_⟩
          · have := L1.each
            rw [show s.plans.map (notedP (.propose z n)) = s.plans from List.map_id _] at this
            exact this
          · rw [upd_ne (ne_of z.1 L1.hw (by intro z; cases z))]
            exact sA _ _ z.1
          · rw [upd_ne (nwl a ha).symm]
            exact sA _ _ z.2
          · rw [upd_ne tnw]
            exact upd_same
          · rw [upd_ne lnw]
            exact s2 _ _ upd_same
        · rw [List.map_append]
          refine (List.nodup_append (l₁ := ap :: aw :: Wl.map (·.2))).mpr ⟨L.nd, (by show [ln].Nodup; simp), fun a ha b hb e => ?_⟩
          have eb : b = ln := List.mem_singleton.mp (show b ∈ [ln] from hb)
          rw [e, eb] at ha
          rcases List.mem_cons.mp ha with h | h
          · exact lnp h
          rcases List.mem_cons.mp h with h | h
          · exact lnw h
          obtain ⟨x, hx, ex⟩ := List.mem_map.mp h
          exact lnl x hx ex
        · rw [upd_ne fun e => m (by rw [e]; exact List.mem_cons_of_mem _ (List.mem_cons_self ..))]
          exact sA _ _ (fr a o h m)
        · rcases List.mem_append.mp hx with h | h
          · exact .inl h
          · rw [List.mem_singleton.mp h]
            exact .inr ⟨fH.2, fH.1⟩
      | withdraw z =>
        refine ⟨_, rfl, lw, _, _, _, rfl, rfl, SqL.of WW, atI_nat (j := 0) rfl, rfl, _, rfl, ?_⟩
        rw [wordF (show (Cmd.withdraw z).word ≠ "enrol" by rw [Cmd.word]; decide)]
        refine ⟨_, rfl, lw, _, _, _, rfl, rfl, SqL.of WW, atI_nat (j := 0) rfl, rfl, _, rfl, ?_⟩
        rw [wordF (show (Cmd.withdraw z).word ≠ "leave" by rw [Cmd.word]; decide)]
        refine ⟨_, rfl, lw, _, _, _, rfl, rfl, SqL.of WW, atI_nat (j := 0) rfl, rfl, _, rfl, ?_⟩
        rw [wordF (show (Cmd.withdraw z).word ≠ "propose" by rw [Cmd.word]; decide)]
        refine ⟨_, rfl, lw, _, _, _, rfl, rfl, SqL.of WW, atI_nat (j := 0) rfl, rfl, _, rfl, ?_⟩
        rw [show decide (V.str (Cmd.withdraw z).word = V.str "withdraw") = true from decide_eq_true rfl]
        have L2 := L1.each
        rw [show s.plans.map (notedP (.withdraw z)) = s.plans from List.map_id _] at L2
        refine ⟨_, rfl, .inl ⟨rfl, _, SqL.of L1.hw⟩, _, rfl, aw, rfl, ⟨_, SqL.of L1.hw⟩, fun D nD => ?_⟩
        refine lc_it (walk_list (K := K) (a := aw) (xs := Wl.map fun a => V.ref a.1)) (fun i H' => i ≤ s.plans.length ∧ Same H1 H' ∧ H' D = some (.lst ((s.works.take i).map V.str))) ⟨Nat.zero_le _, snew nD, upd_same⟩ ?_ ?_ ?_
        · rintro i H' _ ⟨_, v1, _⟩
          exact SqL.of (v1 _ _ L1.hw)
        · rintro i x H3 H4 hi ⟨_, v1, hL⟩ ⟨rfl, hx⟩
          rw [List.length_map] at hi
          have hx2 : (Wl.map fun a => V.ref a.1)[i]? = some x := hx
          rw [List.getElem?_map, List.getElem?_eq_getElem hi] at hx2
          obtain rfl : x = V.ref Wl[i].1 := (Option.some.inj hx2).symm
          obtain ⟨q, hq, q1, q2⟩ := L2.left (List.getElem?_eq_getElem hi)
          have hiw : i < s.plans.length := by rw [← len]; exact hi
          refine ⟨rfl, _, rfl, Wl[i].1, _, _, _, rfl, rfl, SqT.of (v1 _ _ q1), atI_nat (j := 0) rfl, ?_⟩
          have en : s.works[i]? = some q.name := by
            unfold Ch.works
            rw [List.getElem?_map, hq]; rfl
          refine ⟨_, hL, sz_lt (by rw [List.length_map, List.length_take]; have := O.w6; omega), hiw, smut v1 nD, ?_⟩
          rw [upd_same, List.take_add_one, en, List.map_append]; rfl
        · rintro H3 ⟨_, v1, hL⟩
          have el : (s.works.take (Wl.map fun a => V.ref a.1).length) = s.works := List.take_of_length_le (by rw [List.length_map, len, s.wlen]; exact Nat.le_refl _)
          rw [el] at hL
          obtain ⟨j, hj1, hj2⟩ := place_of (show z ∈ s.works from cf)
          have hjl : j < s.plans.length := by
            have := (List.getElem?_eq_some_iff.mp hj1).1
            rw [s.wlen] at this
            exact this
          have hjw : j < Wl.length := by rw [len]; exact hjl
          have WW3 := v1 _ _ WW
          refine ⟨.inl ⟨rfl, _, SqL.of hL⟩, _, rfl, lw, _, _, _, rfl, rfl, SqL.of WW3, atI_nat (j := 1) rfl, D, _, .str z, j, .str z, rfl, rfl, SqL.of hL, rfl, flat_str _, by rw [List.getElem?_map, hj1]; rfl, (by show (z == z) = true; exact beq_self_eq_true z), fun m z' hm hz' => ?_, ?_⟩
          · rw [List.getElem?_map] at hz'
            cases e : s.works[m]? with
            | none =>
              rw [e] at hz'
              cases hz'
            | some y =>
              rw [e] at hz'
              have ey : V.str y = z' := Option.some.inj hz'
              subst ey
              show (y == z) = false
              exact beq_eq_false_iff_ne.mpr (hj2 m hm y e)
          refine ⟨aw, _, _, j, _, rfl, rfl, v1 _ _ L1.hw, by omega, by have := O.w6; omega, ?_, by rw [List.getElem?_map, List.getElem?_eq_getElem hjw]; rfl, ?_⟩
          · have := PySem.seqIndex_of (k := (j : Int)) (n := (Wl.map fun a => V.ref a.1).length) (by omega) (by rw [List.length_map]; omega)
            rw [this, Int.toNat_natCast]
          have WW0 := WW3
          have WW : (upd H3 aw (.lst ((Wl.map fun a => V.ref a.1).eraseIdx j))) lw = _ := (upd_ne lww).trans WW0
          refine ⟨_, rfl, lw, _, _, _, rfl, rfl, SqL.of WW, atI_nat (j := 0) rfl, rfl, _, rfl, ?_⟩
          rw [wordF (show (Cmd.withdraw z).word ≠ "give" by rw [Cmd.word]; decide)]
          have hqj : ∃ q, s.plans[j]? = some q ∧ q.name = z := by
            refine ⟨s.plans[j], List.getElem?_eq_getElem hjl, ?_⟩
            unfold Ch.works at hj1
            rw [List.getElem?_map, List.getElem?_eq_getElem hjl] at hj1
            exact Option.some.inj hj1
          obtain ⟨qj, hqj, eqj⟩ := hqj
          refine k _ (Wl.eraseIdx j) ⟨?_, ?_, ?_, ?_⟩ (fun a o h m => ?_) (fun x hx => .inl (List.mem_of_mem_eraseIdx hx))
          · rw [upd_ne npw]
            exact v1 _ _ L1.hp
          · rw [upd_same, erase_map]
          · show Each _ _ (s.plans.filter fun q => decide (q.name ≠ z))
            rw [← erase_key (fun q : Plan => q.name) z O.wnd hqj eqj]
            refine Each.mono (R := fun a (q : Plan) => H1 a.1 = some (.tup [.str q.name, .int q.cost, .ref a.2]) ∧ H1 a.2 = some (.lst (q.wish.map V.str))) (L2.erase j) fun a b ha _ z => ⟨?_, ?_⟩
            · rw [upd_ne (ne_of z.1 L1.hw (by intro z; cases z))]
              exact v1 _ _ z.1
            · rw [upd_ne (nwl a (List.mem_of_mem_eraseIdx ha)).symm]
              exact v1 _ _ z.2
          · exact List.Nodup.sublist ((List.Sublist.map _ (List.eraseIdx_sublist _ _)).cons₂ _ |>.cons₂ _) L.nd
          · rw [upd_ne fun e => m (by rw [e]; exact List.mem_cons_of_mem _ (List.mem_cons_self ..))]
            exact v1 _ _ (fr a o h m)
      | want n z =>
        refine ⟨_, rfl, lw, _, _, _, rfl, rfl, SqL.of WW, atI_nat (j := 0) rfl, rfl, _, rfl, ?_⟩
        rw [wordF (show (Cmd.want n z).word ≠ "enrol" by rw [Cmd.word]; decide)]
        refine ⟨_, rfl, lw, _, _, _, rfl, rfl, SqL.of WW, atI_nat (j := 0) rfl, rfl, _, rfl, ?_⟩
        rw [wordF (show (Cmd.want n z).word ≠ "leave" by rw [Cmd.word]; decide)]
        refine ⟨_, rfl, lw, _, _, _, rfl, rfl, SqL.of WW, atI_nat (j := 0) rfl, rfl, _, rfl, ?_⟩
        rw [wordF (show (Cmd.want n z).word ≠ "propose" by rw [Cmd.word]; decide)]
        refine ⟨_, rfl, lw, _, _, _, rfl, rfl, SqL.of WW, atI_nat (j := 0) rfl, rfl, _, rfl, ?_⟩
        rw [wordF (show (Cmd.want n z).word ≠ "withdraw" by rw [Cmd.word]; decide)]
        refine ⟨_, rfl, lw, _, _, _, rfl, rfl, SqL.of WW, atI_nat (j := 0) rfl, rfl, _, rfl, ?_⟩
        rw [wordF (show (Cmd.want n z).word ≠ "give" by rw [Cmd.word]; decide)]
        exact k _ Wl L1 fr keep
      | unwant n z =>
        refine ⟨_, rfl, lw, _, _, _, rfl, rfl, SqL.of WW, atI_nat (j := 0) rfl, rfl, _, rfl, ?_⟩
        rw [wordF (show (Cmd.unwant n z).word ≠ "enrol" by rw [Cmd.word]; decide)]
        refine ⟨_, rfl, lw, _, _, _, rfl, rfl, SqL.of WW, atI_nat (j := 0) rfl, rfl, _, rfl, ?_⟩
        rw [wordF (show (Cmd.unwant n z).word ≠ "leave" by rw [Cmd.word]; decide)]
        refine ⟨_, rfl, lw, _, _, _, rfl, rfl, SqL.of WW, atI_nat (j := 0) rfl, rfl, _, rfl, ?_⟩
        rw [wordF (show (Cmd.unwant n z).word ≠ "propose" by rw [Cmd.word]; decide)]
        refine ⟨_, rfl, lw, _, _, _, rfl, rfl, SqL.of WW, atI_nat (j := 0) rfl, rfl, _, rfl, ?_⟩
        rw [wordF (show (Cmd.unwant n z).word ≠ "withdraw" by rw [Cmd.word]; decide)]
        refine ⟨_, rfl, lw, _, _, _, rfl, rfl, SqL.of WW, atI_nat (j := 0) rfl, rfl, _, rfl, ?_⟩
        rw [wordF (show (Cmd.unwant n z).word ≠ "give" by rw [Cmd.word]; decide)]
        exact k _ Wl L1 fr keep
      | _ => exact cd.elim
end
end Ep
set_option Elab.async false
set_option linter.all false
set_option maxRecDepth 100000
set_option maxHeartbeats 8000000
/-! EpLawK: what is shown, what is refused. -/
namespace Ep
open PySem PySem.Spec PyProof.Rows L2
open TL (tl numL)
theorem row_want (n z : Str) : ("want " : Str) ++ n ++ " " ++ z = (Cmd.want n z).row := by
  refine TL.ext_tl ?_
  unfold Cmd.row
  rw [Cmd.word, Cmd.rest, join3]
  simp only [TL.tl_append, tl_sp, tl_lit]
  simp
theorem row_enrol (n : Str) : ("enrol " : Str) ++ n = (Cmd.enrol n).row := by
  refine TL.ext_tl ?_
  unfold Cmd.row
  rw [Cmd.word, Cmd.rest, join2]
  simp only [TL.tl_append, tl_sp, tl_lit]
  simp
def spShown (K : PySem.W.Frag) : Sp := fun vs H Q _ => ∃ (H0 : Hp) (d ap aw : Addr) (s : Ch) (Wl : List (Addr × Addr)), vs = [.ref d, .ref ap, .ref aw] ∧ DeskAt K H0 H d s ∧ LawAt H0 ap aw s.names s.plans Wl ∧ s.Ok ∧ s.gifts ≤ 1000000000000 ∧ ∀ H', DeskAt K H0 H' d s → Q (.bl true) H'
def spRefused (K : PySem.W.Frag) : Sp := fun vs H Q _ => ∃ (H0 : Hp) (d ax ap aw : Addr) (cell : Int) (xf : Nat → Int) (s : Ch) (Wl : List (Addr × Addr)), vs = [.ref d, .ref ax, .int cell, .ref ap, .ref aw] ∧ DeskAt K H0 H d s ∧ LV H0 ax 5 xf ∧ LawAt H0 ap aw s.names s.plans Wl ∧ s.Ok ∧ s.gifts ≤ 1000000000000 ∧ ∀ H', DeskAt K H0 H' d s → Q (.bl true) H'
section
variable {P : Program} {w : World} {K : PySem.W.Frag} {mg : Str → Option Value} {base : Heap}
abbrev NShown : List Str := ["desk", "people", "works", "due", "work", "cost", "names", "name"]
theorem sc_shown : FnScope NShown ["desk", "people", "works"] (defScope s_law_shown) := ⟨rfl, rfl, rfl, by decide +kernel, rfl, by decide +kernel, by decide +kernel⟩
theorem ok_shown (T : Tx K mg) : Def P w K mg base CX0 11 (He.fAd K d_law_shown.at_) ["desk", "people", "works"] (spShown K) := by
  obtain ⟨fd, F⟩ := T.f_law_shown
  refine ⟨fd, F.ok sc_shown (fun vs H Q E h => ?_) (fun cdv A outer s H vs Q E hr h => ?_), F.bindsN (fun _ _ _ _ _ _ us hl => match us, hl with | [_, _, _], _ => rfl), F.kp⟩
  · obtain ⟨_, _, _, _, _, _, rfl, _⟩ := h
    rfl
  · obtain ⟨H0, d, ap, aw, s, Wl, rfl, D0, L0, O, hg, k⟩ := h
    have hu64 : _ + 64 < cLine := Nat.lt_trans (Nat.lt_succ_self _) (hu65 hr)
    refine ⟨_, PSs.nox (pss_cons (ps_set (i := 3) sc_shown.nd rfl (.inl rfl) (pe_lst pa_nil))
      (pss_cons (ps_for PassesOwn.never rfl (pi_list (pv 2)) (pg_tup rfl (pgs_cons (pg_name (i := 4) sc_shown.nd rfl (.inl rfl)) (pgs_cons (pg_name (i := 5) sc_shown.nd rfl (.inl rfl)) (pgs_cons (pg_name (i := 6) sc_shown.nd rfl (.inr rfl)) pgs_nil))))
        (pss_one (ps_expr (pe_bm PySem.F.plainAttrs_list PySem.F.slot_list_append PySem.F.type_list_append mt_append (pv 3) (pa_cons (pe_tup (pa_cons (pv 4) (pa_cons (pv 5) (pa_cons
          (pe_lc (own := [("name", 7)]) (g := gName 7) (tt := tTest (tOp (rIn K false) (tVar 7) (tVar 6))) (te := tVar 7) rfl sc_shown.nd (pi_list (pv 1)) (blkOk_by (N := NShown) (sc := defScope s_law_shown) (by decide +kernel)) (fun _ _ _ _ _ => pg_name (i := 7) sc_shown.nd rfl (Or.inl rfl))
            (fun _ _ _ _ _ => pts_one (pt_cmpR op_in_seq (pv 7) (pv 6) (by rfl))) (fun _ _ _ _ _ => pv 7)) pa_nil)))) pa_nil)))))
      (pss_one (ps_ret (pe_cmpR (op_eqD hu64) (pe_f (ok_lworks T) hr pass0 T.g_law_works (pa_cons (pe_m (E := E0) (ok_say T) hr passL T.cl_Desk T.m_say (pv 0) (pa_cons pe_str pa_nil)) pa_nil)) (pv 3) (nomark _)))))), ?_⟩
    have L := L0.mono D0.base
    have len : Wl.length = s.plans.length := L.each.1
    refine ⟨Nat.zero_le _, fun l nl => ?_⟩
    refine ⟨_, rfl, aw, rfl, ⟨_, SqL.of (snew nl _ _ L.hw)⟩, ?_⟩
    refine for_it (walk_list (K := K) (a := aw) (xs := Wl.map fun a => V.ref a.1)) (fun i σ H' => i ≤ s.plans.length ∧ (∃ v4 v5 v6, σ = [some (.ref d), some (.ref ap), some (.ref aw), some (.ref l), v4, v5, v6, none]) ∧ Same H (hide [l] H') ∧ ∃ ts : List Addr, H' l = some (.lst (ts.map V.ref)) ∧ Each (WorkAt (newOf H (hide [l] H'))) ts (s.told.take i)) ?_ ?_ ?_ ?_
    · exact ⟨Nat.zero_le _, ⟨none, none, none, rfl⟩, hide_into (snew nl) fun x hx => (by rw [List.mem_singleton.mp hx]; exact nl), [], upd_same, Each.nil⟩
    · rintro i σ H' _ ⟨_, _, g1, _⟩
      exact SqL.of (hide_le _ _ _ _ (g1 _ _ L.hw))
    · rintro i x σ H1 H2 hi ⟨_, ⟨v4, v5, v6, rfl⟩, g1, ts, g3, gE⟩ ⟨rfl, hx⟩
      rw [List.length_map] at hi
      have hx2 : (Wl.map fun a => V.ref a.1)[i]? = some x := hx
      rw [List.getElem?_map, List.getElem?_eq_getElem hi] at hx2
      obtain rfl : x = V.ref Wl[i].1 := (Option.some.inj hx2).symm
      obtain ⟨q, hq, q1, q2⟩ := each_get L hi
      have le : Same H H2 := g1.trans (hide_le _ _)
      refine ⟨Wl[i].1, _, rfl, SqT.of (le _ _ q1), rfl, _, _, rfl, _, _, rfl, _, _, rfl, rfl, ?_⟩
      refine ⟨_, rfl, .inl ⟨rfl, _, SqL.of g3⟩, _, rfl, _, rfl, _, rfl, ap, rfl, ⟨_, SqL.of (le _ _ L.hp)⟩, fun D nD => ?_⟩
      refine lc_it (walk_list (K := K) (a := ap) (xs := s.names.map V.str)) (fun j H' => j ≤ s.names.length ∧ Same H2 H' ∧ H' D = some (.lst (((s.names.take j).filter fun n => decide (n ∈ q.wish)).map V.str))) ⟨Nat.zero_le _, snew nD, upd_same⟩ ?_ ?_ ?_
      · rintro j H' _ ⟨_, s1, _⟩
        exact SqL.of (s1 _ _ (le _ _ L.hp))
      · rintro j x H3 H4 hj ⟨_, s1, hL⟩ ⟨rfl, hx⟩
        rw [List.length_map] at hj
        have hx2 : (s.names.map V.str)[j]? = some x := hx
        rw [List.getElem?_map, List.getElem?_eq_getElem hj] at hx2
        obtain rfl : x = V.str s.names[j] := (Option.some.inj hx2).symm
        refine ⟨rfl, _, rfl, _, rfl, Wl[i].2, _, rfl, .inl (SqL.of (s1 _ _ (le _ _ q2))), rfl, flat_str _, _, rfl, ?_⟩
        rw [inV_str]
        have et : s.names.take (j + 1) = s.names.take j ++ [s.names[j]] := by rw [List.take_add_one, List.getElem?_eq_getElem hj]; rfl
        refine ite2 (fun c0 => ?_) (fun c0 => ?_)
        · have c : decide (s.names[j] ∈ q.wish) = true := c0
          refine ⟨_, rfl, _, hL, sz_lt ?_, hj, smut s1 nD, ?_⟩
          · rw [List.length_map]
            have z := List.length_filter_le (fun n => decide (n ∈ q.wish)) (s.names.take j)
            rw [List.length_take] at z
            have := O.p6
            have := s.nlen
            omega
          · rw [upd_same, et, List.filter_append, List.map_append, List.filter_cons, if_pos c]; rfl
        · have c : ¬ decide (s.names[j] ∈ q.wish) = true := c0
          refine ⟨hj, s1, ?_⟩
          rw [et, List.filter_append, List.filter_cons, if_neg c]
          show _ = some (HO.lst (List.map V.str (_ ++ [])))
          rw [List.append_nil]
          exact hL
      · rintro H3 ⟨_, s1, hL⟩
        rw [List.length_map, List.take_length] at hL
        refine ⟨(by show 3 ≤ sizeLine; decide), fun t nt => ?_⟩
        have e2 := snew (o := .tup [.str q.name, .int q.cost, .ref D]) nt
        have sA := s1.trans e2
        have nol : ∀ {a : Addr}, H2 a = none → a ∉ ([l] : List Addr) := fun h m => by
          rw [List.mem_singleton.mp m, g3] at h
          cases h
        have hip : i < s.plans.length := by rw [← len]; exact hi
        have e8 := hide_same (S := [l]) sA
        refine ⟨l, _, _, rfl, rfl, sA _ _ g3, sz_lt (by rw [List.length_map, gE.1, List.length_take]; have := O.w6; omega), hip, ⟨_, _, _, rfl⟩, ?_⟩
        rw [hide_upd (List.mem_singleton.mpr rfl)]
        refine ⟨g1.trans e8, ts ++ [t], ?_, ?_⟩
        · rw [upd_same, List.map_append]; rfl
        · have etk : s.told.take (i + 1) = s.told.take i ++ [(q.name, q.cost, s.wanting q)] := by
            rw [List.take_add_one]
            unfold Ch.told
            rw [List.getElem?_map, hq]; rfl
          rw [etk]
          have tn : H2 t = none := s1.free nt
          refine Each.snoc (gE.mono fun _ _ _ _ z => z.mono (newOf_mono e8)) ⟨D, newOf_of (le.free tn) ?_, newOf_of (le.free nD) ?_⟩
          · rw [hide_out (nol tn)]
            exact upd_same
          · rw [hide_out (nol nD)]
            exact e2 _ _ hL
    · rintro σ H1 ⟨_, ⟨v4, v5, v6, rfl⟩, g1, ts, g3, gE⟩
      have ell : (Wl.map fun a => V.ref a.1).length = s.told.length := by unfold Ch.told; rw [List.length_map, List.length_map, len]
      rw [ell, List.take_length] at gE
      obtain ⟨Hb, b1, D1, b3, nl0, bE⟩ := works_turn (H := H) D0 (g1.trans (hide_le _ _)) nl g3 gE
      obtain ⟨dx, cp, od⟩ := D1.obj
      refine ⟨_, rfl, d, dx, _, rfl, od, rfl, ?_⟩
      rw [← row_works]
      refine ⟨Hb, d, s, .works, rfl, D1, O, hg, trivial, .inl ⟨trivial, fun x s2 H2 q D2 => ?_⟩⟩
      obtain ⟨ex, es⟩ := q
      subst ex
      rw [es] at D2
      refine ⟨s.told, rfl, (told_wok O).1, (told_wok O).2, fun a2 H3 ts2 e3 na2 ha2 hE2 => ?_⟩
      have D3 := D2.mono e3
      have sh := sh_works (told_wok O).1
      refine ⟨_, rfl, worksD s.told, worksD s.told, dp_works ha2 (hE2.mono fun _ _ _ _ z => z.mono ((newOf_le _ _).trans (hide_le _ _))), dp_works (D3.base _ _ b3) (bE.mono fun _ _ _ _ z => z.mono ((hide_le _ _).trans D3.base)), sh.shaped, sh.shaped, ?_⟩
      rw [SeqAt.eqv_refl _ sh.1]
      exact k H3 (D3.narrow b1)
abbrev NRef : List Str := ["desk", "xs", "cell", "people", "works", "name", "work", "row", "caught", "e", "one"]
theorem sc_ref : FnScope NRef ["desk", "xs", "cell", "people", "works"] (defScope s_law_refused) := ⟨rfl, rfl, rfl, by decide +kernel, rfl, by decide +kernel, by decide +kernel⟩
theorem ok_ref (T : Tx K mg) : Def P w K mg base CX0 11 (He.fAd K d_law_refused.at_) ["desk", "xs", "cell", "people", "works"] (spRefused K) := by
  obtain ⟨fd, F⟩ := T.f_law_refused
  obtain ⟨fdS, FS, bS, kpS⟩ := ok_say (P := P) (w := w) (base := base) T
  refine ⟨fd, F.ok sc_ref (fun vs H Q E h => ?_) (fun cdv A outer s H vs Q E hr h => ?_), F.bindsN (fun _ _ _ _ _ _ us hl => match us, hl with | [_, _, _, _, _], _ => rfl), F.kp⟩
  · obtain ⟨_, _, _, _, _, _, _, _, _, rfl, _⟩ := h
    rfl
  · obtain ⟨H0, d, ax, ap, aw, cell, xf, s, Wl, rfl, D0, hx0, L0, O, hg, k⟩ := h
    refine ⟨_, PSs.nox (pss_cons (ps_set (i := 5) sc_ref.nd rfl (.inl rfl) (pe_f (ok_lname T) hr pass0 T.g_law_name (pa_cons (pv 2) (pa_cons (pe_op op_mod (pe_op op_fdiv (pe_ix ix_list (pv 1) pe_int (fun _ _ => rfl)) pe_int) pe_int) pa_nil))))
      (pss_cons (ps_set (i := 6) sc_ref.nd rfl (.inl rfl) (pe_f (ok_lname T) hr pass0 T.g_law_name (pa_cons (pe_op op_fdiv (pv 2) pe_int) (pa_cons (pe_op op_mod (pe_op op_fdiv (pe_ix ix_list (pv 1) pe_int (fun _ _ => rfl)) pe_int) pe_int) pa_nil))))
      (pss_cons (ps_set (i := 7) sc_ref.nd rfl (.inl rfl) (pe_op op_add_str (pe_op op_add_str (pe_op op_add_str pe_str (pv 5)) pe_str) (pv 6)))
      (C8.pss_cut (ps_if (PW.pt (pw_and (pt_cmpR op_in_seq (pv 5) (pv 3) (by rfl)) (pw_and1 (pt_cmpR op_in_seq (pv 6) (pe_lc (own := [("one", 10)]) (g := gName 10) (tt := tYes) (te := tOp (rIxT K) (tVar 10) (tC (.int 0))) rfl sc_ref.nd (pi_list (pv 4)) (blkOk_by (N := NRef) (sc := defScope s_law_refused) (by decide +kernel))
          (fun _ _ _ _ _ => pg_name (i := 10) sc_ref.nd rfl (Or.inl rfl)) (fun _ _ _ _ _ => pts_nil) (fun _ _ _ _ _ => pe_ix ix_tup (pv 10) pe_int (fun _ _ => rfl))) (by rfl))))) (pss_one (ps_set (i := 7) sc_ref.nd rfl (.inl rfl) (pe_op op_add_str pe_str (pv 5)))) pss_nil)
      (pss_cons (ps_set (i := 8) sc_ref.nd rfl (.inl rfl) pe_non)
      (pss_cons (ps_try_as (i := 9) rfl rfl sc_ref.nd rfl rfl ⟨rfl, by decide, .inl T.g_PurseError⟩ takes0 (fun W pn xe tk _ => pss_one (ps_expr (pe_methS (pv 0) T.cl_Desk T.m_say FS (hr.mono (by decide)) bS (fun σ => passAt tk σ) (pa_cons (pv 7) pa_nil)))) (fun a oe cls dd pn hz hf => pss_one (ps_set (i := 8) sc_ref.nd rfl (.inl rfl) (pv 9))))
      (pss_one (ps_ret (pe_cmpR op_notN (pv 8) pe_non (nomark _)))))))))), ?_⟩
    have L := L0.mono D0.base
    have hx := hx0.mono D0.base
    have len : Wl.length = s.plans.length := L.each.1
    have ix9 : ∀ x : Int, ∃ m : Nat, x / 7 % 9 = (m : Int) ∧ m ≤ 8 := fun x => by
      have h0 : 0 ≤ x / 7 % 9 := Int.emod_nonneg _ (by decide)
      have h1 : x / 7 % 9 < 9 := Int.emod_lt_of_pos _ (by decide)
      exact ⟨(x / 7 % 9).toNat, by omega, by omega⟩
    obtain ⟨m1, e1, l1⟩ := ix9 (xf 1)
    obtain ⟨m2, e2, l2⟩ := ix9 (xf 2)
    have p9 : (0 : Int) < 9 := by decide
    refine ⟨_, rfl, _, rfl, ax, _, _, _, rfl, rfl, SqL.of hx, atI_vec (k := 1) (by decide), _, _, rfl, rfl, ⟨by decide, by decide⟩, _, _, rfl, rfl, p9, cell, m1, (by show [V.int cell, V.int (xf 1 / 7 % 9)] = [V.int cell, V.int (m1 : Int)]; rw [e1]), l1, fun H1 s1 => ?_⟩
    refine ⟨_, rfl, _, _, rfl, rfl, ⟨by decide, by decide⟩, _, rfl, ax, _, _, _, rfl, rfl, SqL.of (s1 _ _ hx), atI_vec (k := 2) (by decide), _, _, rfl, rfl, ⟨by decide, by decide⟩, _, _, rfl, rfl, p9, cell / 3, m2, (by show [V.int (cell / 3), V.int (xf 2 / 7 % 9)] = [V.int (cell / 3), V.int (m2 : Int)]; rw [e2]), l2, fun H2 s2 => ?_⟩
    obtain ⟨n, en⟩ : ∃ n, n = nameF cell m1 := ⟨_, rfl⟩
    obtain ⟨z, ez⟩ : ∃ z, z = nameF (cell / 3) m2 := ⟨_, rfl⟩
    have nok : NameOk n := by rw [en]; exact nameF_ok _ _
    have zok : NameOk z := by rw [ez]; exact nameF_ok _ _
    rw [← en, ← ez]
    have n8 := name_len nok
    have z8 := name_len zok
    have lw : ("want " : Str).length = 5 := by rw [TL.len_tl, tl_lit]; rfl
    have le_ : ("enrol " : Str).length = 6 := by rw [TL.len_tl, tl_lit]; rfl
    have e3 : (" " : Str).length = 1 := by rw [TL.len_tl, tl_sp]; rfl
    have M1 : ("want " : Str).length + n.length ≤ sizeLine := sz_of (by omega)
    have M2 : (("want " : Str) ++ n).length + (" " : Str).length ≤ sizeLine := sz_of (by rw [len_cat]; omega)
    have M3 : (("want " : Str) ++ n ++ " ").length + z.length ≤ sizeLine := sz_of (by rw [len_cat, len_cat]; omega)
    have M4 : ("enrol " : Str).length + n.length ≤ sizeLine := sz_of (by omega)
    have s12 := s1.trans s2
    refine ⟨_, rfl, _, _, rfl, rfl, M1, _, _, rfl, rfl, M2, _, rfl, _, _, rfl, rfl, M3, ?_⟩
    rw [row_want]
    refine ⟨fun σ H' => ∃ c : Cmd, σ = [some (.ref d), some (.ref ax), some (.int cell), some (.ref ap), some (.ref aw), some (.str n), some (.str z), some (.str c.row), none, none, none] ∧ c.Words ∧ c.Bad s ∧ Same H H', ?_, ?_⟩
    · refine ⟨_, rfl, _, rfl, ap, _, rfl, .inl (SqL.of (s12 _ _ L.hp)), rfl, flat_str _, _, rfl, ?_⟩
      rw [inV_str]
      by_cases c1 : n ∈ s.names
      · rw [decide_eq_true c1]
        refine ⟨_, rfl, _, rfl, aw, rfl, ⟨_, SqL.of (s12 _ _ L.hw)⟩, fun D nD => ?_⟩
        refine lc_it (walk_list (K := K) (a := aw) (xs := Wl.map fun a => V.ref a.1)) (fun i H' => i ≤ s.plans.length ∧ Same H2 H' ∧ H' D = some (.lst ((s.works.take i).map V.str))) ⟨Nat.zero_le _, snew nD, upd_same⟩ ?_ ?_ ?_
        · rintro i H' _ ⟨_, v1, _⟩
          exact SqL.of (v1 _ _ (s12 _ _ L.hw))
        · rintro i x H3 H4 hi ⟨_, v1, hL⟩ ⟨rfl, hx⟩
          rw [List.length_map] at hi
          have hx2 : (Wl.map fun a => V.ref a.1)[i]? = some x := hx
          rw [List.getElem?_map, List.getElem?_eq_getElem hi] at hx2
          obtain rfl : x = V.ref Wl[i].1 := (Option.some.inj hx2).symm
          obtain ⟨q, hq, q1, q2⟩ := each_get L hi
          have hiw : i < s.plans.length := by rw [← len]; exact hi
          refine ⟨rfl, _, rfl, Wl[i].1, _, _, _, rfl, rfl, SqT.of (v1 _ _ (s12 _ _ q1)), atI_nat (j := 0) rfl, ?_⟩
          have en : s.works[i]? = some q.name := by
            unfold Ch.works
            rw [List.getElem?_map, hq]; rfl
          refine ⟨_, hL, sz_lt (by rw [List.length_map, List.length_take]; have := O.w6; omega), hiw, smut v1 nD, ?_⟩
          rw [upd_same, List.take_add_one, en, List.map_append]; rfl
        · rintro H3 ⟨_, v1, hL⟩
          have el : (s.works.take (Wl.map fun a => V.ref a.1).length) = s.works := List.take_of_length_le (by rw [List.length_map, len, s.wlen]; exact Nat.le_refl _)
          rw [el] at hL
          refine ⟨D, _, rfl, .inl (SqL.of hL), rfl, flat_str _, _, rfl, ?_⟩
          rw [inV_str]
          by_cases c2 : z ∈ s.works
          · rw [decide_eq_true c2]
            refine ⟨_, rfl, _, _, rfl, rfl, M4, ?_⟩
            rw [row_enrol]
            exact ⟨.enrol n, rfl, nok, c1, s12.trans v1⟩
          · rw [decide_eq_false c2]
            exact ⟨.want n z, rfl, ⟨nok, zok⟩, .inr c2, s12.trans v1⟩
      · rw [decide_eq_false c1]
        exact ⟨.want n z, rfl, ⟨nok, zok⟩, .inl c1, s12⟩
    · rintro σ H3 ⟨c, rfl, cw, cb, s3⟩
      have D3 := D0.mono s3
      obtain ⟨dx, cp, od⟩ := D3.obj
      refine ⟨_, rfl, d, dx, _, rfl, od, rfl, _, rfl, ?_⟩
      refine ⟨H0, d, s, c, rfl, D3, O, hg, cw, .inr ⟨cb, fun C H4 hC D4 => ?_⟩⟩
      refine ⟨true, hC, fun _ a ha => ?_, fun q => nomatch q⟩
      exact ⟨_, rfl, _, rfl, rfl, k H4 D4⟩
end
end Ep
set_option Elab.async false
set_option linter.all false
set_option maxRecDepth 100000
set_option maxHeartbeats 8000000
/-! EpLawL: the law. -/
namespace Ep
open PySem PySem.Spec PyProof.Rows L2
open TL (tl numL)
section
variable {s s' : Ch}
theorem row_fine {c : Cmd} (h : RowOk s.names s.works c) : c.Deed ∧ c.Fine s := by
  cases c <;> first | exact ⟨trivial, h.1⟩ | exact ⟨trivial, h⟩ | exact h.elim
theorem row_says {c : Cmd} (cd : c.Deed) {x : Str} (q : c.Says s x s') : x = "ok" ∧ s' = c.after s := by
  cases c <;> first | exact q | exact cd.elim
theorem row_ok (O : s.Ok) {c : Cmd} (cw : c.Words) (h : RowOk s.names s.works c) : (c.after s).Ok := by
  have e1 : s.names.length = s.people.length := s.nlen
  have e2 : s.works.length = s.plans.length := s.wlen
  cases c with
  | enrol n => exact ok_enrolS O cw h.1 (by rw [← e1]; exact h.2)
  | leave n => exact ok_leaveS O n
  | give c => exact ok_giveS O cw.1
  | propose z c => exact ok_proposeS O cw.1 h.1 (by rw [← e2]; exact h.2) cw.2.1 cw.2.2
  | withdraw z => exact ok_withdrawS O z
  | want n z => exact ok_wantS O z h.1
  | unwant n z => exact ok_unwantS O n z
  | _ => exact h.elim
theorem row_gifts {c : Cmd} (cd : c.Deed) (cw : c.Words) : (c.after s).gifts = s.gifts + c.gift ∧ 0 ≤ c.gift ∧ c.gift ≤ 1000000000 := by
  cases c with
  | give c => exact ⟨s.give_gifts c, cw.1, cw.2⟩
  | enrol n => exact ⟨(Int.add_zero _).symm, Int.le_refl 0, (by show (0 : Int) ≤ 1000000000; decide)⟩
  | leave n => exact ⟨(Int.add_zero _).symm, Int.le_refl 0, (by show (0 : Int) ≤ 1000000000; decide)⟩
  | propose z c => exact ⟨(Int.add_zero _).symm, Int.le_refl 0, (by show (0 : Int) ≤ 1000000000; decide)⟩
  | withdraw z => exact ⟨(Int.add_zero _).symm, Int.le_refl 0, (by show (0 : Int) ≤ 1000000000; decide)⟩
  | want n z => exact ⟨(Int.add_zero _).symm, Int.le_refl 0, (by show (0 : Int) ≤ 1000000000; decide)⟩
  | unwant n z => exact ⟨(Int.add_zero _).symm, Int.le_refl 0, (by show (0 : Int) ≤ 1000000000; decide)⟩
  | _ => exact cd.elim
end
/-! ### the works that are left -/
abbrev WZ := (Addr × Addr) × Plan
def zl (Wl : List (Addr × Addr)) (pl : List Plan) : List WZ := Wl.zip pl
theorem zl_snd {Wl : List (Addr × Addr)} {pl : List Plan} (h : Wl.length = pl.length) : (zl Wl pl).map (·.2) = pl := by
  unfold zl
  exact List.map_snd_zip (by omega)
theorem zl_fst {Wl : List (Addr × Addr)} {pl : List Plan} (h : Wl.length = pl.length) : (zl Wl pl).map (·.1) = Wl := by
  unfold zl
  exact List.map_fst_zip (by omega)
def kept (ws : List Str) (Z : List WZ) : List WZ := Z.filter fun z => decide (z.2.name ∈ ws)
theorem kept_plans {s s' : Ch} {told : List Done} {G : Int} (C : CloseOk s s' told G) {Wl : List (Addr × Addr)} (h : Wl.length = s.plans.length) : (kept s'.works (zl Wl s.plans)).map (·.2) = s'.plans := by
  have e : (kept s'.works (zl Wl s.plans)).map (·.2) = ((zl Wl s.plans).map (·.2)).filter fun q => decide (q.name ∈ s'.works) := by
    unfold kept
    rw [List.filter_map]; rfl
  rw [e, zl_snd h, C.plans]
  refine List.filter_congr fun q hq => ?_
  have iff : q.name ∈ s'.works ↔ q.name ∉ told.map (·.name) := by
    unfold Ch.works
    rw [C.plans]
    refine ⟨fun m => ?_, fun m => List.mem_map.mpr ⟨q, List.mem_filter.mpr ⟨hq, decide_eq_true m⟩, rfl⟩⟩
    obtain ⟨r, hr, er⟩ := List.mem_map.mp m
    have := of_decide_eq_true (List.mem_filter.mp hr).2
    rw [← er]
    exact this
  by_cases c : q.name ∈ s'.works
  · rw [decide_eq_true c, decide_eq_true (iff.mp c)]
  · rw [decide_eq_false c, decide_eq_false fun m => c (iff.mpr m)]
theorem law_kept {H H' : Hp} {ap aw aw2 : Addr} {ns : List Str} {s s' : Ch} {told : List Done} {G : Int} {Wl : List (Addr × Addr)} (C : CloseOk s s' told G) (L : LawAt H ap aw s.names s.plans Wl) (e : Same H H') (n : H aw2 = none)
    (h : H' aw2 = some (.lst (((kept s'.works (zl Wl s.plans)).map (·.1)).map fun a => V.ref a.1))) : LawAt H' ap aw2 s'.names s'.plans ((kept s'.works (zl Wl s.plans)).map (·.1)) := by
  have len : Wl.length = s.plans.length := L.each.1
  have nd1 := List.nodup_cons.mp L.nd
  have nd2 := List.nodup_cons.mp nd1.2
  have sub : ((kept s'.works (zl Wl s.plans)).map (·.1)).Sublist Wl := by
    have := List.Sublist.map (·.1) (List.filter_sublist (l := zl Wl s.plans) (p := fun z => decide (z.2.name ∈ s'.works)))
    rw [zl_fst len] at this
    exact this
  refine ⟨by rw [C.names]; exact e _ _ L.hp, h, ?_, ?_⟩
  · rw [← kept_plans C len]
    refine ⟨by rw [List.length_map, List.length_map], fun i a q ha hq => ?_⟩
    rw [List.getElem?_map] at ha hq
    cases ez : (kept s'.works (zl Wl s.plans))[i]? with
    | none =>
      rw [ez] at ha
      cases ha
    | some z =>
      rw [ez] at ha hq
      obtain rfl : z.1 = a := Option.some.inj ha
      obtain rfl : z.2 = q := Option.some.inj hq
      have mz := (List.mem_filter.mp (List.mem_of_getElem? ez)).1
      obtain ⟨j, hj, ej⟩ := List.mem_iff_getElem.mp mz
      have hj2 : (zl Wl s.plans)[j]? = some z := by rw [List.getElem?_eq_getElem hj, ej]
      have a1 : Wl[j]? = some z.1 := by
        have : ((zl Wl s.plans).map (·.1))[j]? = some z.1 := by rw [List.getElem?_map, hj2]; rfl
        rw [zl_fst len] at this
        exact this
      have a2 : s.plans[j]? = some z.2 := by
        have : ((zl Wl s.plans).map (·.2))[j]? = some z.2 := by rw [List.getElem?_map, hj2]; rfl
        rw [zl_snd len] at this
        exact this
      have r := L.each.2 j _ _ a1 a2
      exact ⟨e _ _ r.1, e _ _ r.2⟩
  · have sm : (((kept s'.works (zl Wl s.plans)).map (·.1)).map (·.2)).Sublist (Wl.map (·.2)) := List.Sublist.map _ sub
    refine List.nodup_cons.mpr ⟨fun m => ?_, List.nodup_cons.mpr ⟨fun m => ?_, List.Nodup.sublist sm nd2.2⟩⟩
    · rcases List.mem_cons.mp m with q | q
      · rw [← q, L.hp] at n
        cases n
      · exact nd1.1 (List.mem_cons_of_mem _ (sm.mem q))
    · obtain ⟨x, hx, ex⟩ := List.mem_map.mp (sm.mem m)
      obtain ⟨j, hj, ej⟩ := List.mem_iff_getElem.mp hx
      obtain ⟨q, _, _, z2⟩ := each_get L hj
      rw [ej, ex, n] at z2
      cases z2
def spLaw (K : PySem.W.Frag) : Sp := fun vs H Q _ => ∃ (a : Addr) (xs : List Int), vs = [.ref a] ∧ SqL K H a (xs.map V.int) ∧ xs.length ≤ 63 ∧ ∀ H', Q (.bl true) H'
section
variable {P : Program} {w : World} {K : PySem.W.Frag} {mg : Str → Option Value} {base : Heap}
abbrev NLaw : List Str := ["script", "cell", "desk", "people", "works", "given", "closings", "one", "xs", "left", "words", "work", "cost", "names"]
theorem sc_law : FnScope NLaw ["script"] (defScope s_law) := ⟨rfl, rfl, rfl, by decide +kernel, rfl, by decide +kernel, by decide +kernel⟩
theorem law_fn (T : Tx K mg) {fd : FuncData} (F : FunD K d_law.name d_law.qual (defArgs s_law) (defBody s_law) (defScope s_law) [] [] (He.fAd K d_law.at_) fd) : FnOk P w K mg base CX0 13 (He.fAd K d_law.at_) fd ["script"] (spLaw K) := by
  obtain ⟨fdD, FD, bD, kpD⟩ := ok_dinit (P := P) (w := w) (base := base) T
  refine F.ok sc_law (fun vs H Q E h => ?_) (fun cdv A outer s H vs Q E hr h => ?_)
  · obtain ⟨_, _, rfl, _⟩ := h
    rfl
  · obtain ⟨sa, xs, rfl, hs, l63, k⟩ := h
    refine ⟨_, PSs.nox (pss_cons (ps_set (i := 1) sc_law.nd rfl (.inl rfl) (pe_f (ok_nth T) hr pass0 T.g_law_nth (pa_cons (pv 0) (pa_cons pe_int pa_nil))))
      (pss_cons (ps_set (i := 2) sc_law.nd rfl (.inl rfl) (pe_make0 T.mk_Desk FD (hr.mono (by decide)) (by rfl) T.g_Desk bD .nil pass0))
      (pss_cons (ps_set (i := 3) sc_law.nd rfl (.inl rfl) (pe_lst pa_nil))
      (pss_cons (ps_set (i := 4) sc_law.nd rfl (.inl rfl) (pe_lst pa_nil))
      (pss_cons (ps_set (i := 5) sc_law.nd rfl (.inl rfl) pe_int)
      (pss_cons (ps_set (i := 6) sc_law.nd rfl (.inl rfl) pe_int)
      (pss_cons (ps_for PassesOwn.never rfl (pi_list (pe_slice sl_list (pv 0) (po_some pe_int) (po_some pe_int))) (pg_name (i := 7) sc_law.nd rfl (.inl rfl))
        (pss_cons (ps_set (i := 8) sc_law.nd rfl (.inl rfl) (pe_f (ok_spins T) hr pass0 T.g_law_spins (pa_cons (pv 7) (pa_cons pe_int pa_nil))))
        (pss_cons (ps_if (pt_cut (PW.pt (pw_and (pt_cmpR op_eq (pe_op op_mod (pe_op op_fdiv (pe_ix ix_list (pv 8) pe_int (fun _ _ => rfl)) pe_int) pe_int) pe_int (nomark _)) (pw_and1 (pt_not (pt_val (pe_f (ok_ref T) hr pass0 T.g_law_refused (pa_cons (pv 2) (pa_cons (pv 8) (pa_cons (pv 1) (pa_cons (pv 3) (pa_cons (pv 4) pa_nil))))))))))))
          (pss_one (ps_ret pe_bl)) pss_nil)
        (C8.pss_cut (ps_if (pt_cut (PW.pt (pw_and (pt_cmpR op_eq (pe_op op_mod (pe_ix ix_list (pv 8) pe_int (fun _ _ => rfl)) pe_int) pe_int (nomark _)) (pw_and1 (pt_cmpR op_lt (pv 6) pe_int (nomark _))))))
          (pss_cons (ps_set (i := 6) sc_law.nd rfl (.inl rfl) (pe_op op_add (pv 6) pe_int))
          (pss_cons (ps_if (pt_not (pt_val (pe_f (ok_closed T) hr pass0 T.g_law_closed (pa_cons (pv 2) (pa_cons (pv 3) pa_nil))))) (pss_one (ps_ret pe_bl)) pss_nil)
          (pss_cons (ps_set (i := 9) sc_law.nd rfl (.inr rfl) (pe_lc (own := [("work", 11), ("cost", 12), ("names", 13)]) (g := gTup K 3 (gCons (gName 11) (gCons (gName 12) (gCons (gName 13) gNil)))) (tt := tYes) (te := tVar 11) rfl sc_law.nd
              (pi_list (pe_f (ok_lworks T) hr pass0 T.g_law_works (pa_cons (pe_m (E := E0) (ok_say T) hr passL T.cl_Desk T.m_say (pv 2) (pa_cons pe_str pa_nil)) pa_nil))) (blkOk_by (N := NLaw) (sc := defScope s_law) (by decide +kernel))
              (fun _ _ _ _ _ => pg_tup (by rfl) (pgs_cons (pg_name (i := 11) sc_law.nd rfl (Or.inl rfl)) (pgs_cons (pg_name (i := 12) sc_law.nd rfl (Or.inl rfl)) (pgs_cons (pg_name (i := 13) sc_law.nd rfl (Or.inl rfl)) pgs_nil)))) (fun _ _ _ _ _ => pts_nil) (fun _ _ _ _ _ => pv 11)))
          (pss_one (ps_setLc (i := 4) (own := [("work", 11)]) (g := gName 11) (tt := tTest (tOp (rIn K false) (tOp (rIxT K) (tVar 11) (tC (.int 0))) (tVar 9))) (te := tVar 11) rfl sc_law.nd rfl rfl (sw_true rfl rfl rfl (by decide +kernel))
              (pi_list (pv 4)) (blkOk_by (N := NLaw) (sc := defScope s_law) (by decide +kernel)) (fun _ _ _ _ _ => pg_name (i := 11) sc_law.nd rfl (Or.inl rfl)) (fun _ _ _ _ _ => pts_one (pt_cmpR op_in_seq (pe_ix ix_tup (pv 11) pe_int (fun _ _ => rfl)) (pv 9) (by rfl))) (fun _ _ _ _ _ => pv 11))))))
          (pss_cons (ps_set (i := 10) sc_law.nd rfl (.inl rfl) (pe_f (ok_row T) hr pass0 T.g_law_row (pa_cons (pv 8) (pa_cons (pv 1) (pa_cons (pv 3) (pa_cons
              (pe_lc (own := [("work", 11)]) (g := gName 11) (tt := tYes) (te := tOp (rIxT K) (tVar 11) (tC (.int 0))) rfl sc_law.nd (pi_list (pv 4)) (blkOk_by (N := NLaw) (sc := defScope s_law) (by decide +kernel)) (fun _ _ _ _ _ => pg_name (i := 11) sc_law.nd rfl (Or.inl rfl)) (fun _ _ _ _ _ => pts_nil) (fun _ _ _ _ _ => pe_ix ix_tup (pv 11) pe_int (fun _ _ => rfl)))
              (pa_cons (pv 5) pa_nil)))))))
          (pss_cons (ps_if (pt_cmpR op_ne (pe_m (E := E0) (ok_say T) hr passL T.cl_Desk T.m_say (pv 2) (pa_cons (pe_join pe_str (pv 10)) pa_nil)) pe_str (nomark _)) (pss_one (ps_ret pe_bl)) pss_nil)
          (pss_one (ps_set (i := 5) sc_law.nd rfl (.inl rfl) (pe_op op_add (pv 5) (pe_f (ok_noted T) hr pass0 T.g_law_noted (pa_cons (pv 10) (pa_cons (pv 3) (pa_cons (pv 4) pa_nil))))))))))
        (pss_one (ps_if (PW.pt (pw_or (pt_not (pt_val (pe_f (ok_lsums T) hr pass0 T.g_law_sums (pa_cons (pv 2) (pa_cons (pv 3) (pa_cons (pv 5) pa_nil)))))) (pw_or1 (pt_not (pt_val (pe_f (ok_shown T) hr pass0 T.g_law_shown (pa_cons (pv 2) (pa_cons (pv 3) (pa_cons (pv 4) pa_nil))))))))) (pss_one (ps_ret pe_bl)) pss_nil))))))
      (pss_one (ps_ret (pe_and (pe_f (ok_closed T) hr pass0 T.g_law_closed (pa_cons (pv 2) (pa_cons (pv 3) pa_nil))) (pe_one (pe_f (ok_lsums T) hr pass0 T.g_law_sums (pa_cons (pv 2) (pa_cons (pv 3) (pa_cons (pv 5) pa_nil))))))))))))))), ?_⟩
    have p6 : (0 : Int) < 6 := by decide
    have p7 : (0 : Int) < 7 := by decide
    -- cell, desk, people, works
    refine ⟨_, rfl, sa, xs, rfl, hs, by omega, fun cell H1 s1 => ?_⟩
    intro d dd nd ndd ne
    refine ⟨H1, d, dd, rfl, (snew ndd).trans (snew (by rw [upd_ne ne.symm]; exact nd)), nd, upd_same, fun H2 D2 => ⟨rfl, ?_⟩⟩
    refine ⟨Nat.zero_le _, fun ap nap => ⟨Nat.zero_le _, fun aw0 naw0 => ?_⟩⟩
    have t1 := snew (o := .lst []) nap
    have t2 := t1.trans (snew (o := .lst []) naw0)
    have hs2 := sql_mono t2 (sql_mono D2.base (sql_mono s1 hs))
    refine ⟨_, rfl, 2, rfl, 62, rfl, sa, _, rfl, hs2, fun b nb => ?_⟩
    have ez : ∃ zs : List Int, cutV (xs.map V.int) (some 2) (some 62) = zs.map V.int ∧ zs.length ≤ 60 := by
      refine ⟨(xs.drop (HT.sIx (xs.map V.int).length 0 (some ((2 : Nat) : Int)))).take (HT.sIx (xs.map V.int).length (xs.map V.int).length (some ((62 : Nat) : Int)) - HT.sIx (xs.map V.int).length 0 (some ((2 : Nat) : Int))), ?_, ?_⟩
      · unfold cutV
        rw [List.map_take, List.map_drop]; rfl
      · rw [List.length_take, List.length_drop, HT.sIx_nat, HT.sIx_nat, List.length_map]
        omega
    obtain ⟨zs, ezs, z60⟩ := ez
    rw [ezs]
    have t3 := t2.trans (snew (o := .lst (zs.map V.int)) nb)
    obtain ⟨Hs, g1, g2, g3⟩ := D2.grow t3
    have nap2 : H2 ap = none := nap
    have naw2 : H2 aw0 = none := t1.free naw0
    have nb2 : H2 b = none := t2.free nb
    have apw : ap ≠ aw0 := ne_of_none (upd_same (H := H2) (a := ap)) naw0
    have bap : b ≠ ap := (ne_of_none ((snew naw0) _ _ upd_same) nb).symm
    have baw : b ≠ aw0 := (ne_of_none (upd_same) nb).symm
    refine ⟨b, rfl, ⟨_, SqL.of upd_same⟩, ?_⟩
    refine for_it (walk_list (K := K) (a := b) (xs := zs.map V.int)) (fun i σ H' => ∃ (H0 : Hp) (s : Ch) (Wl : List (Addr × Addr)) (aw : Addr) (cl : Int) (v7 v8 v9 v10 : Option V),
      σ = [some (.ref sa), some (.int cell), some (.ref d), some (.ref ap), some (.ref aw), some (.int s.gifts), some (.int cl), v7, v8, v9, v10, none, none, none] ∧ i ≤ zs.length ∧ DeskAt K H0 H' d s ∧ LawAt H0 ap aw s.names s.plans Wl ∧ s.Ok ∧ s.gifts ≤ (i : Int) * 1000000000 ∧
      H0 b = some (.lst (zs.map V.int)) ∧ b ∉ fpL ap aw Wl) ?_ ?_ ?_ ?_
    · refine ⟨Hs, Ch.nil, [], aw0, 0, none, none, none, none, rfl, Nat.zero_le _, g2, ⟨?_, ?_, Each.nil, by simp [apw]⟩, ok_nilS, by decide, g3 _ _ nb2 upd_same, by simp [fpL, bap, baw]⟩
      · exact g3 _ _ nap2 ((snew nb) _ _ ((snew naw0) _ _ upd_same))
      · exact g3 _ _ naw2 ((snew nb) _ _ upd_same)
    · rintro i σ H' _ ⟨H0, s, Wl, aw, cl, v7, v8, v9, v10, _, _, D, _, _, _, hb, _⟩
      exact SqL.of (D.base _ _ hb)
    · rintro i x σ H5 H6 hi ⟨H0, s, Wl, aw, cl, v7, v8, v9, v10, rfl, _, D, L, O, hg, hb, nbf⟩ ⟨rfl, hx⟩
      rw [List.length_map] at hi
      have hx2 : (zs.map V.int)[i]? = some x := hx
      rw [List.getElem?_map, List.getElem?_eq_getElem hi] at hx2
      obtain ⟨one, eone⟩ : ∃ one, one = zs[i] := ⟨_, rfl⟩
      obtain rfl : x = V.int one := by rw [eone]; exact (Option.some.inj hx2).symm
      have hgB : s.gifts ≤ 1000000000000 := by
        have : (i : Int) ≤ 60 := by omega
        omega
      refine ⟨_, rfl, one, 5, rfl, by decide, fun ax H7 s7 nax hax => ?_⟩
      obtain ⟨Ha, a1, a2, a3⟩ := D.grow s7
      have hxa : LV Ha ax 5 (spinF one) := a3 _ _ nax hax
      have La := L.mono a1
      have hba := a1 _ _ hb
      have len : Wl.length = s.plans.length := L.each.1
      refine ⟨fun b H' => b = false ∧ DeskAt K Ha H' d s, ?_, ?_⟩
      · refine ⟨_, rfl, ax, _, _, _, rfl, rfl, SqL.of hax, atI_vec (k := 4) (by decide), _, _, rfl, rfl, ⟨by decide, by decide⟩, _, _, rfl, rfl, p6, rfl, _, rfl, ?_⟩
        refine ite2 (fun cc => ?_) (fun cc => ?_)
        · refine ⟨_, rfl, _, rfl, _, rfl, _, rfl, _, rfl, Ha, d, ax, ap, aw, cell, spinF one, s, Wl, rfl, a2, hxa, La, O, hgB, fun H8 D8 => ?_⟩
          exact ⟨_, rfl, rfl, D8⟩
        · exact ⟨rfl, a2⟩
      rintro bb H8 ⟨rfl, D8⟩
      have hx8 := D8.base _ _ hxa
      refine ⟨fun σ H' => ∃ (H0' : Hp) (s' : Ch) (Wl' : List (Addr × Addr)) (aw' : Addr) (cl' : Int) (v9 v10 : Option V),
        σ = [some (.ref sa), some (.int cell), some (.ref d), some (.ref ap), some (.ref aw'), some (.int s'.gifts), some (.int cl'), some (.int one), some (.ref ax), v9, v10, none, none, none] ∧ DeskAt K H0' H' d s' ∧ LawAt H0' ap aw' s'.names s'.plans Wl' ∧ s'.Ok ∧ s'.gifts ≤ ((i + 1 : Nat) : Int) * 1000000000 ∧
        H0' b = some (.lst (zs.map V.int)) ∧ b ∉ fpL ap aw' Wl', ?_, ?_⟩
      · refine ⟨fun _ H' => H' = H8, ?_, ?_⟩
        · refine ⟨_, rfl, ax, _, _, _, rfl, rfl, SqL.of hx8, atI_vec (k := 4) (by decide), _, _, rfl, rfl, p7, rfl, _, rfl, ?_⟩
          refine ite2 (fun cc => ?_) (fun cc => ?_)
          · exact ⟨_, rfl, _, _, rfl, rfl, _, rfl, rfl⟩
          · rfl
        rintro bb H9 rfl
        cases bb with
        | true =>
          refine ⟨_, rfl, _, _, rfl, rfl, ?_⟩
          refine ⟨_, rfl, _, rfl, Ha, d, ap, s, rfl, D8, La.hp, O, hgB, fun H10 s' told G C D10 => ?_⟩
          refine ⟨_, rfl, ?_⟩
          have O' := C.ok
          have hg' : s'.gifts ≤ 1000000000000 := by rw [C.gifts]; exact hgB
          obtain ⟨dx, cp, od⟩ := D10.obj
          refine ⟨_, rfl, d, dx, _, rfl, od, rfl, ?_⟩
          rw [← row_works]
          refine ⟨Ha, d, s', .works, rfl, D10, O', hg', trivial, .inl ⟨trivial, fun x s2 H11 q D11 => ?_⟩⟩
          obtain ⟨ex, es⟩ := q
          subst ex
          rw [es] at D11
          refine ⟨s'.told, rfl, (told_wok O').1, (told_wok O').2, fun a2 H12 ts e12 na2 ha2 hE2 => ?_⟩
          have D12 := D11.mono e12
          have l12 : ts.length = s'.works.length := by rw [hE2.1, ← told_keys, List.length_map]
          refine ⟨a2, rfl, ⟨_, SqL.of ha2⟩, fun Dl nDl => ?_⟩
          refine lc_it (walk_list (K := K) (a := a2) (xs := ts.map V.ref)) (fun j H' => j ≤ ts.length ∧ Same H12 H' ∧ H' Dl = some (.lst ((s'.works.take j).map V.str))) ⟨Nat.zero_le _, snew nDl, upd_same⟩ ?_ ?_ ?_
          · rintro j H' _ ⟨_, v1, _⟩
            exact SqL.of (v1 _ _ ha2)
          · rintro j x H13 H14 hj ⟨_, v1, hL⟩ ⟨rfl, hx⟩
            rw [List.length_map] at hj
            have hx2 : (ts.map V.ref)[j]? = some x := hx
            rw [List.getElem?_map, List.getElem?_eq_getElem hj] at hx2
            obtain rfl : x = V.ref ts[j] := (Option.some.inj hx2).symm
            obtain ⟨q, hq, lq, w1, w2⟩ := hE2.left (List.getElem?_eq_getElem hj)
            have tw := v1 _ _ (hide_le _ _ _ _ (newOf_le _ _ _ _ w1))
            have en : s'.works[j]? = some q.1 := by
              rw [← told_keys, List.getElem?_map, hq]; rfl
            refine ⟨ts[j], _, rfl, SqT.of tw, rfl, _, _, rfl, _, _, rfl, _, _, rfl, rfl, rfl, _, rfl, ?_⟩
            have w6 : s'.works.length ≤ 6 := by rw [s'.wlen]; exact O'.w6
            refine ⟨_, hL, sz_lt (by rw [List.length_map, List.length_take]; omega), hj, smut v1 nDl, ?_⟩
            rw [upd_same, List.take_add_one, en, List.map_append]; rfl
          · rintro H13 ⟨_, v1, hL⟩
            rw [List.length_map, l12, List.take_length] at hL
            have D13 := D12.mono v1
            have Lx := La.mono D13.base
            refine ⟨_, rfl, aw, rfl, ⟨_, SqL.of Lx.hw⟩, fun aw2 naw2 => ?_⟩
            refine lc_it (walk_list (K := K) (a := aw) (xs := Wl.map fun a => V.ref a.1)) (fun j H' => j ≤ Wl.length ∧ Same H13 H' ∧ H' aw2 = some (.lst (((kept s'.works ((zl Wl s.plans).take j)).map (·.1)).map fun a => V.ref a.1))) ⟨Nat.zero_le _, snew naw2, upd_same⟩ ?_ ?_ ?_
            · rintro j H' _ ⟨_, u1, _⟩
              exact SqL.of (u1 _ _ Lx.hw)
            · rintro j x H14 H15 hj ⟨_, u1, hM⟩ ⟨rfl, hx⟩
              rw [List.length_map] at hj
              have hx2 : (Wl.map fun a => V.ref a.1)[j]? = some x := hx
              rw [List.getElem?_map, List.getElem?_eq_getElem hj] at hx2
              obtain rfl : x = V.ref Wl[j].1 := (Option.some.inj hx2).symm
              obtain ⟨q, hq, q1, q2⟩ := each_get Lx hj
              have hz : (zl Wl s.plans)[j]? = some (Wl[j], q) := by
                unfold zl
                rw [List.getElem?_zip_eq_some]
                exact ⟨List.getElem?_eq_getElem hj, hq⟩
              have et : (zl Wl s.plans).take (j + 1) = (zl Wl s.plans).take j ++ [(Wl[j], q)] := by rw [List.take_add_one, hz]; rfl
              have kl : (kept s'.works ((zl Wl s.plans).take j)).length ≤ 6 := by
                have z1 := List.length_filter_le (fun z : WZ => decide (z.2.name ∈ s'.works)) ((zl Wl s.plans).take j)
                have z2 : ((zl Wl s.plans).take j).length ≤ 6 := by
                  rw [List.length_take]
                  have : (zl Wl s.plans).length = s.plans.length := by
                    have := congrArg List.length (zl_snd len)
                    rw [List.length_map] at this
                    exact this
                  have := O.w6
                  omega
                exact Nat.le_trans z1 z2
              refine ⟨rfl, _, rfl, Wl[j].1, _, _, _, rfl, rfl, SqT.of (u1 _ _ q1), atI_nat (j := 0) rfl, _, rfl, Dl, _, rfl, .inl (SqL.of (u1 _ _ hL)), rfl, flat_str _, _, rfl, ?_⟩
              rw [inV_str]
              refine ite2 (fun c0 => ?_) (fun c0 => ?_)
              · have c : q.name ∈ s'.works := of_decide_eq_true c0
                refine ⟨_, rfl, _, hM, sz_lt (by rw [List.length_map, List.length_map]; omega), hj, smut u1 naw2, ?_⟩
                rw [upd_same, et]
                unfold kept
                rw [List.filter_append, List.filter_cons, if_pos (decide_eq_true c), List.map_append, List.map_append]; rfl
              · have c : ¬ q.name ∈ s'.works := fun m => c0 (decide_eq_true m)
                refine ⟨hj, u1, ?_⟩
                rw [et]
                unfold kept
                rw [List.filter_append, List.filter_cons, if_neg (by simp [c])]
                show _ = some (HO.lst (((_ ++ [] : List WZ).map (·.1)).map fun a => V.ref a.1))
                rw [List.append_nil]
                exact hM
            · rintro H14 ⟨_, u1, hM⟩
              have lz : (zl Wl s.plans).length = Wl.length := by
                have := congrArg List.length (zl_fst len)
                rw [List.length_map] at this
                exact this
              have etl : (zl Wl s.plans).take (Wl.map fun a => V.ref a.1).length = zl Wl s.plans := List.take_of_length_le (by rw [List.length_map, lz]; exact Nat.le_refl _)
              rw [etl] at hM
              obtain ⟨Hb, b1, b2, b3⟩ := D13.grow u1
              have nHa : Ha aw2 = none := D13.base.free naw2
              have L' := law_kept (ns := s.names) C La b1 nHa (b3 _ _ naw2 hM)
              refine ⟨Hb, s', _, aw2, _, _, _, (by rw [C.gifts]; rfl), b2, L', O', by rw [C.gifts]; omega, b1 _ _ hba, fun m => nbf ?_⟩
              rcases List.mem_cons.mp m with q | q
              · rw [q]; exact List.mem_cons_self ..
              rcases List.mem_cons.mp q with q | q
              · rw [← q, hba] at nHa
                cases nHa
              obtain ⟨x, hx, ex⟩ := List.mem_map.mp q
              refine List.mem_cons_of_mem _ (List.mem_cons_of_mem _ (List.mem_map.mpr ⟨x, ?_, ex⟩))
              have sub := List.Sublist.map (·.1) (List.filter_sublist (l := zl Wl s.plans) (p := fun z => decide (z.2.name ∈ s'.works)))
              rw [zl_fst len] at sub
              exact sub.mem hx
        | false =>
          have L8 := La.mono D8.base
          refine ⟨_, rfl, _, rfl, _, rfl, _, rfl, aw, rfl, ⟨_, SqL.of L8.hw⟩, fun Dw nDw => ?_⟩
          refine lc_it (walk_list (K := K) (a := aw) (xs := Wl.map fun a => V.ref a.1)) (fun j H' => j ≤ s.plans.length ∧ Same H9 H' ∧ H' Dw = some (.lst ((s.works.take j).map V.str))) ⟨Nat.zero_le _, snew nDw, upd_same⟩ ?_ ?_ ?_
          · rintro j H' _ ⟨_, v1, _⟩
            exact SqL.of (v1 _ _ L8.hw)
          · rintro j x H13 H14 hj ⟨_, v1, hL⟩ ⟨rfl, hx⟩
            rw [List.length_map] at hj
            have hx2 : (Wl.map fun a => V.ref a.1)[j]? = some x := hx
            rw [List.getElem?_map, List.getElem?_eq_getElem hj] at hx2
            obtain rfl : x = V.ref Wl[j].1 := (Option.some.inj hx2).symm
            obtain ⟨q, hq, q1, q2⟩ := each_get L8 hj
            have hjw : j < s.plans.length := by rw [← len]; exact hj
            refine ⟨rfl, _, rfl, Wl[j].1, _, _, _, rfl, rfl, SqT.of (v1 _ _ q1), atI_nat (j := 0) rfl, ?_⟩
            have en : s.works[j]? = some q.name := by
              unfold Ch.works
              rw [List.getElem?_map, hq]; rfl
            refine ⟨_, hL, sz_lt (by rw [List.length_map, List.length_take]; have := O.w6; omega), hjw, smut v1 nDw, ?_⟩
            rw [upd_same, List.take_add_one, en, List.map_append]; rfl
          · rintro H10 ⟨_, v1, hL⟩
            have el : (s.works.take (Wl.map fun a => V.ref a.1).length) = s.works := List.take_of_length_le (by rw [List.length_map, len, s.wlen]; exact Nat.le_refl _)
            rw [el] at hL
            have B := ok_bounds O hgB
            have n6 : s.names.length ≤ 6 := by rw [s.nlen]; exact O.p6
            have w6 : s.works.length ≤ 6 := by rw [s.wlen]; exact O.w6
            refine ⟨_, rfl, ax, ap, Dw, cell, s.gifts, spinF one, s.names, s.works, rfl, v1 _ _ hx8, spinF_pos one, v1 _ _ L8.hp, hL, n6, w6, O.pok, O.wok, B.2.1.1, hgB, fun c l H11 s11 nl hl cw ro => ?_⟩
            obtain ⟨cd, cf⟩ := row_fine ro
            have t11 := v1.trans s11
            obtain ⟨Hc, c1, c2, c3⟩ := D8.grow t11
            have nl9 := v1.free nl
            have hlc := c3 _ _ nl9 hl
            obtain ⟨dx, cp, od⟩ := c2.obj
            have room : ((c.word :: c.rest).map (·.length)).sum + (c.word :: c.rest).length * (" " : Str).length ≤ 16777216 := by
              have q := sum_len_le (parts := c.word :: c.rest) (k := 13) fun p hp => by
                rcases List.mem_cons.mp hp with e | e
                · rw [e]; exact c.word_len
                · exact (Cmd.rest_ok cw p e).2.2
              have e3 : (" " : Str).length = 1 := by rw [TL.len_tl, tl_sp]; rfl
              have e4 : (c.word :: c.rest).length ≤ 3 := by cases c <;> (simp [Cmd.rest])
              rw [e3]
              omega
            refine ⟨_, rfl, d, dx, _, rfl, od, rfl, ⟨_, rfl⟩, _, rfl, " ", l, c.word :: c.rest, rfl, rfl, .inl (SqL.of hl), room, ?_⟩
            refine ⟨Hc, d, s, c, rfl, c2, O, hgB, cw, .inl ⟨cf, fun x s2 H12 q D12 => ?_⟩⟩
            obtain ⟨ex, es⟩ := row_says cd q
            subst ex
            rw [es] at D12
            refine ⟨rfl, _, rfl, ?_⟩
            rw [decide_eq_true rfl]
            have Lc := La.mono c1
            have L12 := Lc.mono D12.base
            have nlw : l ∉ fpL ap aw Wl := fun m => by
              have kn : ∃ o, Ha l = some o := by
                rcases List.mem_cons.mp m with q | q
                · rw [q]; exact ⟨_, La.hp⟩
                rcases List.mem_cons.mp q with q | q
                · rw [q]; exact ⟨_, La.hw⟩
                obtain ⟨x, hx, ex⟩ := List.mem_map.mp q
                obtain ⟨j, hj, ej⟩ := List.mem_iff_getElem.mp hx
                obtain ⟨_, _, _, z2⟩ := each_get La hj
                rw [ej, ex] at z2
                exact ⟨_, z2⟩
              obtain ⟨o, ho⟩ := kn
              have := D8.base _ _ ho
              rw [nl9] at this
              cases this
            refine ⟨_, rfl, _, rfl, _, rfl, _, rfl, l, ap, aw, s, Wl, c, rfl, D12.base _ _ hlc, nlw, L12, O, cd, cw, cf, fun H13 Wl2 L13 fr kp => ?_⟩
            refine ⟨_, _, rfl, rfl, ?_⟩
            obtain ⟨S, z1, z2, z3⟩ := D12.wide
            have fpS : ∀ a, a ∈ fpL ap aw Wl → a ∉ S := fun a m mS => by
              have kn : ∃ o, Hc a = some o := by
                rcases List.mem_cons.mp m with q | q
                · rw [q]; exact ⟨_, Lc.hp⟩
                rcases List.mem_cons.mp q with q | q
                · rw [q]; exact ⟨_, Lc.hw⟩
                obtain ⟨x, hx, ex⟩ := List.mem_map.mp q
                obtain ⟨j, hj, ej⟩ := List.mem_iff_getElem.mp hx
                obtain ⟨_, _, _, z2⟩ := each_get Lc hj
                rw [ej, ex] at z2
                exact ⟨_, z2⟩
              obtain ⟨o, ho⟩ := kn
              rw [z1 a mS] at ho
              cases ho
            have D13 := z3 H13 fun a ha => by
              obtain ⟨o, ho⟩ := z2 a ha
              rw [ho]
              exact fr a o ho fun m => fpS a m ha
            have newS : ∀ a, H12 a = none → a ∉ S := fun a h m => by
              obtain ⟨o, ho⟩ := z2 a m
              rw [h] at ho
              cases ho
            have apS : ap ∉ S := fpS _ (List.mem_cons_self ..)
            have awS : aw ∉ S := fpS _ (List.mem_cons_of_mem _ (List.mem_cons_self ..))
            have x2S : ∀ x, x ∈ Wl2 → x.1 ∉ S ∧ x.2 ∉ S := fun x hx => by
              rcases kp x hx with q | ⟨q1, q2⟩
              · refine ⟨fun m => ?_, fpS _ (List.mem_cons_of_mem _ (List.mem_cons_of_mem _ (List.mem_map.mpr ⟨x, q, rfl⟩)))⟩
                obtain ⟨j, hj, ej⟩ := List.mem_iff_getElem.mp q
                obtain ⟨_, _, z1', _⟩ := each_get Lc hj
                rw [ej, z1 _ m] at z1'
                cases z1'
              · exact ⟨newS _ q1, newS _ q2⟩
            have LS : LawAt (hide S H13) ap aw (c.after s).names (c.after s).plans Wl2 := ⟨by rw [hide_out apS]; exact L13.hp, by rw [hide_out awS]; exact L13.hw, L13.each.mono fun a q ha _ z => ⟨by rw [hide_out (x2S a ha).1]; exact z.1, by rw [hide_out (x2S a ha).2]; exact z.2⟩, L13.nd⟩
            have gg := row_gifts (s := s) cd cw
            have hbc := c1 _ _ hba
            have hb12 := D12.base _ _ hbc
            have bS : b ∉ S := fun m => by
              rw [z1 b m] at hbc
              cases hbc
            refine ⟨hide S H13, c.after s, Wl2, aw, _, _, _, (by rw [gg.1]; rfl), D13, LS, row_ok O cw ro, by rw [gg.1]; have := gg.2.2; omega, by rw [hide_out bS]; exact fr _ _ hb12 nbf, fun m => ?_⟩
            rcases List.mem_cons.mp m with q | q
            · exact nbf (by rw [q]; exact List.mem_cons_self ..)
            rcases List.mem_cons.mp q with q | q
            · exact nbf (by rw [q]; exact List.mem_cons_of_mem _ (List.mem_cons_self ..))
            obtain ⟨x, hx, ex⟩ := List.mem_map.mp q
            rcases kp x hx with q | ⟨q1, q2⟩
            · exact nbf (List.mem_cons_of_mem _ (List.mem_cons_of_mem _ (List.mem_map.mpr ⟨x, q, ex⟩)))
            · rw [ex, hb12] at q2
              cases q2
      · rintro σ H9 ⟨H0', s', Wl', aw', cl', v9, v10, rfl, D9, L9, O9, hg9, hb9, nb9⟩
        have hg9B : s'.gifts ≤ 1000000000000 := by
          have : ((i + 1 : Nat) : Int) ≤ 60 := by omega
          omega
        refine ⟨_, rfl, _, rfl, _, rfl, H0', d, ap, s', rfl, D9, L9.hp, O9, hg9B, fun H10 D10 => ⟨_, rfl, ?_⟩⟩
        refine ⟨_, rfl, _, rfl, _, rfl, H0', d, ap, aw', s', Wl', rfl, D10, L9, O9, hg9B, fun H11 D11 => ⟨_, rfl, ?_⟩⟩
        exact ⟨H0', s', Wl', aw', cl', _, _, _, _, rfl, hi, D11, L9, O9, hg9, hb9, nb9⟩
    · rintro σ H5 ⟨H0, s, Wl, aw, cl, v7, v8, v9, v10, rfl, _, D, L, O, hg, hb, nbf⟩
      have hgB : s.gifts ≤ 1000000000000 := by
        rw [List.length_map] at hg
        have : (zs.length : Int) ≤ 60 := by omega
        omega
      refine ⟨_, rfl, _, rfl, H0, d, ap, s, rfl, D, L.hp, O, hgB, fun H6 s' told G C D6 => ⟨true, rfl, ?_⟩⟩
      refine ⟨_, rfl, _, rfl, _, rfl, H0, d, ap, s', (by show [V.ref d, V.ref ap, V.int s.gifts] = [V.ref d, V.ref ap, V.int s'.gifts]; rw [C.gifts]), D6, by rw [C.names]; exact L.hp, C.ok, by rw [C.gifts]; exact hgB, fun H7 _ => k H7⟩
end
end Ep
set_option Elab.async false
set_option linter.all false
set_option maxRecDepth 100000
set_option maxHeartbeats 0
/-! EpEnd: the head and the walk joined. -/
namespace Ep
open PySem PySem.Spec PyProof.Rows L2
theorem facts {P : Program} {w : World} {K : PySem.W.Frag} {h : Heap} {mg : Str → Option Value} {f : Addr} (X : K.In h) (G : h.Ns mainGlobals mg) (hfa : mg ("law" : Str) = some (.ref f)) (c : He.SaysD fa fn K) :
    ∃ fd : FuncData, (∀ (s : Shared) (v : Value), BindsTo s fd ⟨[v], []⟩ [("script", v)]) ∧ ∀ base : Heap, K.In base → base.Ns mainGlobals mg → FnOk P w K mg base CX0 13 f fd ["script"] (spLaw K) := by
  have T : Tx K mg := ⟨c, h, X, G⟩
  obtain ⟨fd, F⟩ := T.f_law
  have e := hfa.symm.trans T.g_law
  cases e
  have b := FunD.bindsA (ps := ["script"]) F fun _ _ _ _ _ _ us hl => match us, hl with | [_], _ => rfl
  exact ⟨fd, fun s v => b s [v] rfl, fun base _ _ => law_fn T F⟩
end Ep
open PySem PySem.W PySem.Calls PyProof.Rows
theorem PySem.Challenge.cw_purse_k54_whole_text_years_holds : PySem.Challenge.rw_purse_k54_whole_text_years.Holds := by
  w_on; o_law
  refine HandSHeadRun.head_any (r := OpenLaw.row PySem.Challenge.rw_purse_k54_whole_text_years) (q := view (OpenLaw.row PySem.Challenge.rw_purse_k54_whole_text_years).prog [63]) (H := Ep.hk) (ob := Ep.ob) (M := 40000) (loose := Ep.loose) (d := HandSHeadRun.topDef (OpenLaw.row PySem.Challenge.rw_purse_k54_whole_text_years).prog 63) (kwd := []) Ep.ob_eq
    (by kernel_rfl) (fun s => by kernel_rfl) Ep.run (by kernel_rfl) (by kernel_rfl) (by kernel_rfl) (by rfl) (by first | assumption | decide +kernel) (by decide +kernel) ⟨rfl, rfl, rfl, rfl, rfl, by decide +kernel⟩ ?hw ?hc
  case hw => w_witness2
  case hc =>
    refine L2.walk_ofE (l := PySem.Challenge.rw_purse_k54_whole_text_years) (n := 63) (k := 13) (x := "script") (CX := L2.CX0) rfl (by decide) (by kernel_rfl) ⟨rfl, by decide, by decide⟩ ?F (fun _ _ _ _ z => z)
    intro w mg fa h Y G hmg0
    obtain ⟨K, KX, c⟩ := Y
    have hmg : mg ("law" : PySem.Str) = some (.ref fa) := by
      have e : (HandSHeadRun.topDef (OpenLaw.row PySem.Challenge.rw_purse_k54_whole_text_years).prog 63).name = ("law" : PySem.Str) := by kernel_rfl
      rw [← e]
      exact hmg0
    obtain ⟨fd, hb, hF⟩ := Ep.facts (P := (PySem.Challenge.rw_purse_k54_whole_text_years).prog) (w := w) KX G hmg c
    exact ⟨K, fd, Ep.spLaw K, KX, hb, fun H a ns hl _ hS => ⟨a, ns, rfl, hS, hl, fun _ => rfl⟩, hF⟩
